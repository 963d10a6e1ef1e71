import PyProof.Rows.All
import Wide.All
import OpenK.AllK
import Wide.FinOn
import HandS.ForMost
import HandS.Exc
import HandS.TryOnly
import HandS.ExcOwn
import HandS.WordsExc
import HandS.Wide
import HandS.IsInst
import HandS.Conv
import HandS.SortInts
import HandS.TupAny
import HandS.Deep
import HandS.Iter
import HandS.Zip
import HandS.Remove
import HandS.WideBits
import HandS.Gcd
import HandS.RaiseMore
import PyProof.ReprRoads
import HandS.NoneIn
import HandS.Flt
import PyProof.ReprLen
import HandS.Sort
import PyProof.Draws
import HandS.RevRange
import HandS.Rev
import HandS.SetFor
import HandS.Strs
import PySem.Challenge.RW_gatherhouse_k24_the_judge_takes_the_part
set_option Elab.async false
set_option linter.all false
set_option maxRecDepth 100000
set_option maxHeartbeats 4000000
set_option autoImplicit false
/-! The data layer: what a name holds is plain data (PyData), or a list or dict that this def alone holds; the heap is told once, here. -/
namespace DL
open PySem PySem.Spec L2

inductive Sl where
  | d (x : PyData)
  | l (xs : List PyData)
  | m (kvs : List (Key × PyData))
  | t (kvs : List (List Key × PyData))
  /-- a range -/
  | g (lo hi : Int)
abbrev En := List (Option Sl)
inductive Rv where
  | d (x : PyData)
  | o (i : Nat)
  | n (s : Sl)

/-- the heap without what is held alone -/
def HW (H : Hp) (W : List Addr) : Hp := fun b => if b ∈ W then none else H b
section
variable {K : PySem.W.Frag} {H H' H1 H2 : Hp} {W W' W1 W2 : List Addr} {A : List (Option Addr)} {a b p : Addr} {o : HO} {v : V} {x : PyData} {vs : List V} {xs : List PyData}
theorem hw_some (h : HW H W b = some o) : b ∉ W ∧ H b = some o := by
  unfold HW at h
  by_cases e : b ∈ W
  · rw [if_pos e] at h; cases h
  · rw [if_neg e] at h; exact ⟨e, h⟩
theorem hw_of (e : b ∉ W) (h : H b = some o) : HW H W b = some o := by
  unfold HW; rw [if_neg e]; exact h
theorem hw_same : Same (HW H W) H := fun b o h => (hw_some h).2
theorem same_t {xs : List V} (e : Same H H') (h : SqT K H a xs) : SqT K H' a xs := by
  rcases h with (h | ⟨o, h⟩) | h
  · exact .inl (.inl (e _ _ h))
  · exact .inl (.inr ⟨o, e _ _ h⟩)
  · exact .inr h
mutual
theorem dp_mono (e : Same H H') : ∀ (x : PyData) {v : V}, Dp K H v x → Dp K H' v x
  | .none, _, h => by cases h; exact .non
  | .bool _, _, h => by cases h; exact .bl _
  | .int _, _, h => by cases h; exact .int _
  | .str _, _, h => by cases h; exact .str _
  | .list ds, _, h => by
    cases h with
    | lst s r => exact .lst (e.seq s) (dpa_mono e ds r)
  | .tuple ds, _, h => by
    cases h with
    | tup s r => exact .tup (same_t e s) (dpa_mono e ds r)
  | .dict _, _, h => by cases h
theorem dpa_mono (e : Same H H') : ∀ (ds : List PyData) {vs : List V}, DpAll K H vs ds → DpAll K H' vs ds
  | [], _, h => by cases h; exact .nil
  | d :: ds, _, h => by
    cases h with
    | cons a b => exact .cons (dp_mono e d a) (dpa_mono e ds b)
end

/-- what a step may change: nothing but what stands in A; what is new may be held alone -/
structure Stp (A : List (Option Addr)) (H : Hp) (W : List Addr) (H' : Hp) (W' : List Addr) : Prop where
  ext : ∀ b o, H b = some o → some b ∉ A → H' b = some o
  there : ∀ b, H b ≠ none → H' b ≠ none
  up : ∀ p, p ∈ W → p ∈ W'
  fr : ∀ p, p ∈ W' → p ∈ W ∨ (H p = none ∧ H' p ≠ none)
theorem Stp.refl : Stp A H W H W := ⟨fun _ _ h _ => h, fun _ h => h, fun _ h => h, fun _ h => .inl h⟩
theorem Stp.back (s : Stp A H W H' W') (h : H' p = none) : H p = none := by
  cases e : H p with
  | none => rfl
  | some o => exact absurd h (s.there p (by rw [e]; simp))
theorem Stp.trans (s : Stp A H W H1 W1) (t : Stp A H1 W1 H2 W2) : Stp A H W H2 W2 :=
  ⟨fun b o h n => t.ext b o (s.ext b o h n) n, fun b h => t.there b (s.there b h), fun p h => t.up p (s.up p h), fun p h => (t.fr p h).elim (fun z => (s.fr p z).imp id fun q => ⟨q.1, t.there p q.2⟩) fun z => .inr ⟨s.back z.1, z.2⟩⟩
def AinW (A : List (Option Addr)) (W : List Addr) : Prop := ∀ a, some a ∈ A → a ∈ W
theorem Stp.same (s : Stp A H W H' W') (h : AinW A W) : Same (HW H W) (HW H' W') := fun b o e => by
  obtain ⟨n, e⟩ := hw_some e
  refine hw_of (fun z => ?_) (s.ext b o e fun z => n (h b z))
  rcases s.fr b z with q | q
  · exact n q
  · rw [e] at q; cases q.1
theorem Stp.dp (s : Stp A H W H' W') (h : AinW A W) (r : Dp K (HW H W) v x) : Dp K (HW H' W') v x := dp_mono (s.same h) x r
theorem Stp.dpa (s : Stp A H W H' W') (h : AinW A W) (r : DpAll K (HW H W) vs xs) : DpAll K (HW H' W') vs xs := dpa_mono (s.same h) xs r
theorem Stp.ain (s : Stp A H W H' W') (h : AinW A W) : AinW A W' := fun a z => s.up a (h a z)

/-- an object that is held alone, by its content -/
def OwR (K : PySem.W.Frag) (H : Hp) (W : List Addr) (p : Addr) : Sl → Prop
  | .d _ => False
  | .l xs => ∃ vs, H p = some (.lst vs) ∧ DpAll K (HW H W) vs xs
  | .m kvs => ∃ ws, H p = some (.dK ws) ∧ ws.map (·.1) = kvs.map (·.1) ∧ DpAll K (HW H W) (ws.map (·.2)) (kvs.map (·.2))
  | .t kvs => ∃ ws, H p = some (.dT ws) ∧ ws.map (·.1) = kvs.map (·.1) ∧ DpAll K (HW H W) (ws.map (·.2)) (kvs.map (·.2))
  | .g lo hi => H p = some (.rng lo hi)
theorem OwR.mono {s : Sl} (e : Same (HW H W) (HW H' W')) (k : H' p = H p) (h : OwR K H W p s) : OwR K H' W' p s := by
  cases s with
  | d _ => exact h
  | l xs => obtain ⟨vs, a, b⟩ := h; exact ⟨vs, k.trans a, dpa_mono e _ b⟩
  | m kvs => obtain ⟨vs, a, c, b⟩ := h; exact ⟨vs, k.trans a, c, dpa_mono e _ b⟩
  | t kvs => obtain ⟨vs, a, c, b⟩ := h; exact ⟨vs, k.trans a, c, dpa_mono e _ b⟩
  | g _ _ => exact k.trans h
theorem OwR.ex {s : Sl} (h : OwR K H W p s) : ∃ o, H p = some o := by
  cases s with
  | d _ => exact h.elim
  | l xs => obtain ⟨vs, a, b⟩ := h; exact ⟨_, a⟩
  | m kvs => obtain ⟨vs, a, b⟩ := h; exact ⟨_, a⟩
  | t kvs => obtain ⟨vs, a, b⟩ := h; exact ⟨_, a⟩
  | g _ _ => exact ⟨_, h⟩
theorem OwR.step {s : Sl} (h : OwR K H W p s) (st : Stp A H W H' W') (ha : AinW A W) (hp : some p ∉ A) : OwR K H' W' p s := by
  obtain ⟨o, e⟩ := h.ex
  exact h.mono (st.same ha) ((st.ext p o e hp).trans e.symm)
def Sl.isD : Sl → Bool
  | .d _ => true
  | _ => false

/-- the names of the def, by what they hold; A: where what is held alone stands -/
structure EnR (K : PySem.W.Frag) (H : Hp) (W : List Addr) (A : List (Option Addr)) (env : En) (σ : St) : Prop where
  len : σ.length = env.length
  lenA : A.length = env.length
  dat : ∀ (i : Nat) (x : PyData), env[i]? = some (some (Sl.d x)) → A[i]? = some none ∧ ∃ v : V, σ[i]? = some (some v) ∧ Dp K (HW H W) v x
  own : ∀ (i : Nat) (s : Sl), env[i]? = some (some s) → s.isD = false → ∃ a : Addr, A[i]? = some (some a) ∧ σ[i]? = some (some (V.ref a)) ∧ OwR K H W a s
  back : ∀ (i : Nat) (a : Addr), A[i]? = some (some a) → a ∈ W ∧ ∃ s : Sl, env[i]? = some (some s) ∧ s.isD = false
  inj : ∀ (i j : Nat) (a : Addr), A[i]? = some (some a) → A[j]? = some (some a) → i = j
  trk : ∀ p, p ∈ W → H p ≠ none
theorem EnR.ain {env : En} {σ : St} (r : EnR K H W A env σ) : AinW A W := fun a h => by
  obtain ⟨i, hi⟩ := List.mem_iff_getElem?.mp h
  exact (r.back i a hi).1
/-- all that the names tell stays -/
theorem EnR.keep {env : En} {σ : St} (r : EnR K H W A env σ) (s : Stp A H W H' W') (k : ∀ a, some a ∈ A → H' a = H a) : EnR K H' W' A env σ := by
  have e := s.same r.ain
  refine ⟨r.len, r.lenA, fun i x h => ?_, fun i z h hz => ?_, fun i a h => ?_, r.inj, fun p hp => (s.fr p hp).elim (fun z => s.there p (r.trk p z)) fun z => z.2⟩
  · obtain ⟨a, v, q, w⟩ := r.dat i x h
    exact ⟨a, v, q, dp_mono e x w⟩
  · obtain ⟨a, q, q2, w⟩ := r.own i z h hz
    exact ⟨a, q, q2, w.mono e (k a (List.mem_of_getElem? q))⟩
  · obtain ⟨q, w⟩ := r.back i a h
    exact ⟨s.up a q, w⟩

/-- a value at hand: what came since H0, W0 -/
def RvR (K : PySem.W.Frag) (H0 : Hp) (W0 : List Addr) (H : Hp) (W : List Addr) (A : List (Option Addr)) : Rv → V → Prop
  | .d x, v => Dp K (HW H W) v x
  | .o i, v => ∃ a : Addr, A[i]? = some (some a) ∧ v = .ref a
  | .n s, v => ∃ p, v = .ref p ∧ H0 p = none ∧ p ∈ W ∧ p ∉ W0 ∧ OwR K H W p s
theorem RvR.step {H0 : Hp} {W0 : List Addr} {rv : Rv} (r : RvR K H0 W0 H W A rv v) (s : Stp A H W H' W') (ha : AinW A W) (ha0 : AinW A W0) : RvR K H0 W0 H' W' A rv v := by
  cases rv with
  | d x => exact s.dp ha r
  | o i => exact r
  | n z =>
    obtain ⟨p, e, n, m, nm, ow⟩ := r
    exact ⟨p, e, n, s.up p m, nm, OwR.step ow s ha fun q => nm (ha0 p q)⟩
theorem RvR.from {H0 H1 : Hp} {W0 W1 : List Addr} {rv : Rv} (s : Stp A H0 W0 H1 W1) (r : RvR K H1 W1 H W A rv v) : RvR K H0 W0 H W A rv v := by
  cases rv with
  | d x => exact r
  | o i => exact r
  | n z =>
    obtain ⟨p, e, n, m, nm, ow⟩ := r
    exact ⟨p, e, s.back n, m, fun q => nm (s.up p q), ow⟩
end

/-! ### judgements -/
abbrev TD := En → (Rv → En → Prop) → Prop
abbrev TDA := En → (List Rv → En → Prop) → Prop
abbrev TDT := En → (Bool → En → Prop) → Prop
def PD (X : Cx) (e : Expr) (t : TD) : Prop := ∃ te, PE X e te ∧ ∀ (σ : St) (H : Hp) (W : List Addr) (A : List (Option Addr)) (env : En) (Q : VK) (Qd : Rv → En → Prop), EnR X.K H W A env σ → t env Qd →
  (∀ v H' W' env' rv, EnR X.K H' W' A env' σ → Stp A H W H' W' → RvR X.K H W H' W' A rv v → Qd rv env' → Q v H') → te σ H Q
def PDT (X : Cx) (e : Expr) (t : TDT) : Prop := ∃ tt, PT X e tt ∧ ∀ (σ : St) (H : Hp) (W : List Addr) (A : List (Option Addr)) (env : En) (Q : Bool → Hp → Prop) (Qd : Bool → En → Prop), EnR X.K H W A env σ → t env Qd →
  (∀ b H' W' env', EnR X.K H' W' A env' σ → Stp A H W H' W' → Qd b env' → Q b H') → tt σ H Q
/-- a list of values at hand -/
inductive RvRs (K : PySem.W.Frag) (H : Hp) (W : List Addr) (A : List (Option Addr)) : Hp → List Addr → List Rv → List V → Prop
  | nil {H0 : Hp} {W0 : List Addr} : RvRs K H W A H0 W0 [] []
  | cons {H0 : Hp} {W0 : List Addr} {rv : Rv} {v : V} {rvs : List Rv} {vs : List V} {H1 : Hp} {W1 : List Addr} : RvR K H0 W0 H W A rv v → (∀ p s, rv = .n s → v = .ref p → p ∈ W1) → Stp A H0 W0 H1 W1 → RvRs K H W A H1 W1 rvs vs → RvRs K H W A H0 W0 (rv :: rvs) (v :: vs)
def PDA (X : Cx) (es : List Expr) (t : TDA) : Prop := ∃ ta, PA X es ta ∧ ∀ (σ : St) (H : Hp) (W : List Addr) (A : List (Option Addr)) (env : En) (Q : List V → Hp → Prop) (Qd : List Rv → En → Prop), EnR X.K H W A env σ → t env Qd →
  (∀ vs H' W' env' rvs, EnR X.K H' W' A env' σ → Stp A H W H' W' → RvRs X.K H' W' A H W rvs vs → Qd rvs env' → Q vs H') → ta σ H Q
end DL

set_option Elab.async false
set_option linter.all false
set_option maxRecDepth 100000
set_option maxHeartbeats 4000000
set_option autoImplicit false
namespace L2
open PySem PySem.Spec
section
variable {K : PySem.W.Frag} {H : Hp}
theorem DpAll.len : ∀ {vs : List V} {xs : List PyData}, DpAll K H vs xs → vs.length = xs.length
  | _, _, .nil => rfl
  | _, _, .cons _ r => by simp [DpAll.len r]
theorem DpAll.get : ∀ {vs : List V} {xs : List PyData} {i : Nat} {x : PyData}, DpAll K H vs xs → xs[i]? = some x → ∃ v, vs[i]? = some v ∧ Dp K H v x
  | _, _, _, _, .nil, e => by simp at e
  | _, _, 0, _, .cons r _, e => by simp at e; subst e; exact ⟨_, rfl, r⟩
  | _, _, i + 1, _, .cons _ t, e => by
    obtain ⟨v, h1, h2⟩ := DpAll.get (i := i) t (by simpa using e)
    exact ⟨v, by simpa using h1, h2⟩
theorem DpAll.getV : ∀ {vs : List V} {xs : List PyData} {i : Nat} {v : V}, DpAll K H vs xs → vs[i]? = some v → ∃ x, xs[i]? = some x ∧ Dp K H v x
  | _, _, _, _, .nil, e => by simp at e
  | _, _, 0, _, .cons r _, e => by simp at e; subst e; exact ⟨_, rfl, r⟩
  | _, _, i + 1, _, .cons _ t, e => by
    obtain ⟨v, h1, h2⟩ := DpAll.getV (i := i) t (by simpa using e)
    exact ⟨v, by simpa using h1, h2⟩
theorem DpAll.app : ∀ {vs ws : List V} {xs ys : List PyData}, DpAll K H vs xs → DpAll K H ws ys → DpAll K H (vs ++ ws) (xs ++ ys)
  | _, _, _, _, .nil, s => s
  | _, _, _, _, .cons r t, s => .cons r (DpAll.app t s)
theorem DpAll.take : ∀ {vs : List V} {xs : List PyData} (n : Nat), DpAll K H vs xs → DpAll K H (vs.take n) (xs.take n)
  | _, _, 0, _ => .nil
  | _, _, _ + 1, .nil => .nil
  | _, _, n + 1, .cons r t => .cons r (DpAll.take n t)
theorem DpAll.drop : ∀ {vs : List V} {xs : List PyData} (n : Nat), DpAll K H vs xs → DpAll K H (vs.drop n) (xs.drop n)
  | _, _, 0, r => r
  | _, _, _ + 1, .nil => .nil
  | _, _, n + 1, .cons _ t => DpAll.drop n t
theorem DpAll.set {v : V} {x : PyData} (r : Dp K H v x) : ∀ {vs : List V} {xs : List PyData} (i : Nat), DpAll K H vs xs → DpAll K H (vs.set i v) (xs.set i x)
  | _, _, _, .nil => .nil
  | _, _, 0, .cons _ t => .cons r t
  | _, _, i + 1, .cons q t => .cons q (DpAll.set r i t)
theorem DpAll.erase : ∀ {vs : List V} {xs : List PyData} (i : Nat), DpAll K H vs xs → DpAll K H (vs.eraseIdx i) (xs.eraseIdx i)
  | _, _, _, .nil => .nil
  | _, _, 0, .cons _ t => t
  | _, _, i + 1, .cons q t => .cons q (DpAll.erase i t)
theorem DpAll.ints : ∀ {vs : List V} {ns : List Int}, DpAll K H vs (ns.map PyData.int) → vs = ns.map V.int
  | _, [], h => by cases h; rfl
  | _, n :: ns, h => by
    rw [List.map_cons] at h
    cases h with
    | cons a b => cases a; rw [DpAll.ints b]; rfl
theorem DpAll.of_ints : ∀ (ns : List Int), DpAll K H (ns.map V.int) (ns.map PyData.int)
  | [] => .nil
  | n :: ns => .cons (.int n) (DpAll.of_ints ns)
theorem DpAll.strs : ∀ {vs : List V} {ns : List Str}, DpAll K H vs (ns.map PyData.str) → vs = ns.map V.str
  | _, [], h => by cases h; rfl
  | _, n :: ns, h => by
    rw [List.map_cons] at h
    cases h with
    | cons a b => cases a; rw [DpAll.strs b]; rfl
theorem DpAll.of_strs : ∀ (ns : List Str), DpAll K H (ns.map V.str) (ns.map PyData.str)
  | [] => .nil
  | n :: ns => .cons (.str n) (DpAll.of_strs ns)
theorem DpAll.bools : ∀ {vs : List V} {ns : List Bool}, DpAll K H vs (ns.map PyData.bool) → vs = ns.map V.bl
  | _, [], h => by cases h; rfl
  | _, n :: ns, h => by
    rw [List.map_cons] at h
    cases h with
    | cons a b => cases a; rw [DpAll.bools b]; rfl

end
end L2
namespace DL
open PySem PySem.Spec L2

/-- what a value at hand is, when it is read -/
def res (env : En) : Rv → Option PyData
  | .d x => some x
  | .o i => match env[i]? with
    | some (some (.l xs)) => some (.list xs)
    | _ => none
  | .n (.l xs) => some (.list xs)
  | .n _ => none
/-- data, open at the top -/
def Dq (K : PySem.W.Frag) (H : Hp) (W : List Addr) (v : V) : PyData → Prop
  | .list xs => ∃ a vs, v = .ref a ∧ SqL K H a vs ∧ DpAll K (HW H W) vs xs
  | x => Dp K (HW H W) v x
section
variable {K : PySem.W.Frag} {H H' H0 H1 H2 : Hp} {W W' W0 W1 W2 : List Addr} {A : List (Option Addr)} {a b p : Addr} {o : HO} {v : V} {x : PyData} {vs : List V} {xs : List PyData} {env : En} {σ : L2.St}
theorem Dq.of_dp (h : Dp K (HW H W) v x) : Dq K H W v x := by
  cases x with
  | list xs => cases h with | lst s r => exact ⟨_, _, rfl, hw_same.seq s, r⟩
  | _ => exact h
theorem Dq.dp (h : Dq K H W v x) : Dp K H v x := by
  cases x with
  | list xs => obtain ⟨a, vs, rfl, s, r⟩ := h; exact .lst s (dpa_mono hw_same _ r)
  | tuple xs => exact dp_mono hw_same _ h
  | dict _ => cases h
  | none => exact dp_mono hw_same _ h
  | bool _ => exact dp_mono hw_same _ h
  | int _ => exact dp_mono hw_same _ h
  | str _ => exact dp_mono hw_same _ h
theorem res_o {i : Nat} (e : res env (.o i) = some x) : ∃ xs, env[i]? = some (some (.l xs)) ∧ x = .list xs := by
  unfold res at e
  dsimp only at e
  split at e
  · rename_i xs hx
    cases e
    exact ⟨xs, hx, rfl⟩
  · cases e
theorem Dq.of_rv {rv : Rv} (E : EnR K H W A env σ) (r : RvR K H0 W0 H W A rv v) (e : res env rv = some x) : Dq K H W v x := by
  cases rv with
  | d y => cases e; exact .of_dp r
  | o i =>
    obtain ⟨a, ha, rfl⟩ := r
    obtain ⟨xs, hx, rfl⟩ := res_o e
    obtain ⟨a', ha', _, vs, h1, h2⟩ := E.own i _ hx rfl
    rw [ha] at ha'; cases ha'
    exact ⟨a, vs, rfl, SqL.of h1, h2⟩
  | n s =>
    cases s with
    | l xs =>
      cases e
      obtain ⟨p, rfl, _, _, _, vs, h1, h2⟩ := r
      exact ⟨p, vs, rfl, SqL.of h1, h2⟩
    | _ => cases e
theorem Dq.int {i : Int} (h : Dq K H W v (.int i)) : v = .int i := by cases h; rfl
theorem Dq.str {i : Str} (h : Dq K H W v (.str i)) : v = .str i := by cases h; rfl
theorem Dq.bl {i : Bool} (h : Dq K H W v (.bool i)) : v = .bl i := by cases h; rfl
theorem Dq.non (h : Dq K H W v .none) : v = .non := by cases h; rfl
/-! ### what only grows -/
structure Grow (H : Hp) (W : List Addr) (H' : Hp) (W' : List Addr) : Prop where
  same : Same H H'
  up : ∀ p, p ∈ W → p ∈ W'
  fr : ∀ p, p ∈ W' → p ∈ W ∨ (H p = none ∧ H' p ≠ none)
theorem Grow.refl : Grow H W H W := ⟨Same.refl _, fun _ h => h, fun _ h => .inl h⟩
theorem Grow.stp (g : Grow H W H' W') : Stp A H W H' W' := ⟨fun b o h _ => g.same b o h, fun b h => by
  cases e : H b with
  | none => exact absurd e h
  | some o => rw [g.same b o e]; simp, g.up, g.fr⟩
theorem Grow.en (g : Grow H W H' W') (E : EnR K H W A env σ) : EnR K H' W' A env σ := E.keep g.stp fun a ha => by
  obtain ⟨i, hi⟩ := List.mem_iff_getElem?.mp ha
  obtain ⟨hw, s, hs, hd⟩ := E.back i a hi
  obtain ⟨a', q, _, ow⟩ := E.own i s hs hd
  rw [hi] at q; cases q
  obtain ⟨o, e⟩ := ow.ex
  rw [e]; exact g.same a o e
/-- a new object, seen by all -/
theorem grow_new (hp : H p = none) : Grow H W (upd H p o) W := ⟨fun b u e => by rw [upd_ne (ne_of_none e hp)]; exact e, fun _ h => h, fun _ h => .inl h⟩
/-- a new object, held alone -/
theorem grow_own (hp : H p = none) : Grow H W (upd H p o) (p :: W) := ⟨fun b u e => by rw [upd_ne (ne_of_none e hp)]; exact e, fun _ h => List.mem_cons_of_mem _ h, fun q h => by
  rcases List.mem_cons.mp h with rfl | h
  · exact .inr ⟨hp, by rw [upd_same]; simp⟩
  · exact .inl h⟩
/-- what an operation that makes things alone hands on -/
def Fin1 (K : PySem.W.Frag) (H : Hp) (W : List Addr) (Qd : Rv → Prop) (Q : VK) : Prop := ∀ v H' W' rv, Grow H W H' W' → RvR K H W H' W' [] rv v → Qd rv → Q v H'
theorem Fin1.d {Q : VK} {Qd : Rv → Prop} (f : Fin1 K H W Qd Q) (h : Dp K (HW H W) v x) (q : Qd (.d x)) : Q v H := f v H W (.d x) .refl h q
theorem Fin1.int {Q : VK} {Qd : Rv → Prop} (f : Fin1 K H W Qd Q) {i : Int} (q : Qd (.d (.int i))) : Q (.int i) H := f.d (.int i) q
theorem Fin1.bl {Q : VK} {Qd : Rv → Prop} (f : Fin1 K H W Qd Q) {i : Bool} (q : Qd (.d (.bool i))) : Q (.bl i) H := f.d (.bl i) q
theorem Fin1.str {Q : VK} {Qd : Rv → Prop} (f : Fin1 K H W Qd Q) {i : Str} (q : Qd (.d (.str i))) : Q (.str i) H := f.d (.str i) q
/-- a new tuple -/
theorem Fin1.tup {Q : VK} {Qd : Rv → Prop} (f : Fin1 K H W Qd Q) (hw : ∀ p, p ∈ W → H p ≠ none) (hp : H p = none) (h : DpAll K (HW H W) vs xs) (q : Qd (.d (.tuple xs))) : Q (.ref p) (upd H p (.tup vs)) := by
  have g : Grow H W (upd H p (.tup vs)) W := grow_new hp
  refine f _ _ W (.d (.tuple xs)) g ?_ q
  have nw : p ∉ W := fun z => hw p z hp
  exact .tup (.inl (.inl (hw_of nw upd_same))) (dpa_mono ((g.stp (A := [])).same fun _ z => absurd z (by simp)) _ h)
/-- a new list -/
theorem Fin1.lst {Q : VK} {Qd : Rv → Prop} (f : Fin1 K H W Qd Q) (hw : ∀ p, p ∈ W → H p ≠ none) (hp : H p = none) (h : DpAll K (HW H W) vs xs) (q : Qd (.n (.l xs))) : Q (.ref p) (upd H p (.lst vs)) := by
  have g : Grow H W (upd H p (.lst vs)) (p :: W) := grow_own hp
  refine f _ _ (p :: W) (.n (.l xs)) g ⟨p, rfl, hp, List.mem_cons_self, fun z => hw p z hp, vs, upd_same, ?_⟩ q
  exact dpa_mono ((g.stp (A := [])).same fun _ z => absurd z (by simp)) _ h
end

/-! ### operations on two values, by what they are -/
def OpD (X : Cx) (f : Value → Value → Sem Value) (r : PyData → PyData → (Rv → Prop) → Prop) : Prop :=
  ∃ rV, OpR X f rV ∧ ∀ (H : Hp) (W : List Addr) (x y : V) (a b : PyData) (Q : VK) (Qd : Rv → Prop), (∀ p, p ∈ W → H p ≠ none) → Dq X.K H W x a → Dq X.K H W y b → r a b Qd → Fin1 X.K H W Qd Q → rV x y H Q
theorem orR {X : Cx} {f : Value → Value → Sem Value} {r r' : R2} (h : OpR X f r) (h' : OpR X f r') : OpR X f (fun x y H Q => r x y H Q ∨ r' x y H Q) := by
  intro pins s σ H x y v u Q I rx ry q
  rcases q with q | q
  · exact h pins s σ H x y v u Q I rx ry q
  · exact h' pins s σ H x y v u Q I rx ry q
def tdBin (r : PyData → PyData → (Rv → Prop) → Prop) (ta tb : TD) : TD := fun env Q => ta env fun x env1 => tb env1 fun y env2 => match res env2 x, res env2 y with
  | some a, some b => r a b fun z => Q z env2
  | _, _ => False
section
variable {X : Cx} {a b c : Expr} {ta tb tc : TD} {pos : Pos}
theorem pd_two {rV : R2} {r : PyData → PyData → (Rv → Prop) → Prop} {e : Expr} {te1 te2 : TE} (hr : ∀ (H : Hp) (W : List Addr) (x y : V) (a b : PyData) (Q : VK) (Qd : Rv → Prop), (∀ p, p ∈ W → H p ≠ none) → Dq X.K H W x a → Dq X.K H W y b → r a b Qd → Fin1 X.K H W Qd Q → rV x y H Q)
    (h1 : ∀ (σ : L2.St) (H : Hp) (W : List Addr) (A : List (Option Addr)) (env : En) (Q : VK) (Qd : Rv → En → Prop), EnR X.K H W A env σ → ta env Qd → (∀ v H' W' env' rv, EnR X.K H' W' A env' σ → Stp A H W H' W' → RvR X.K H W H' W' A rv v → Qd rv env' → Q v H') → te1 σ H Q)
    (h2 : ∀ (σ : L2.St) (H : Hp) (W : List Addr) (A : List (Option Addr)) (env : En) (Q : VK) (Qd : Rv → En → Prop), EnR X.K H W A env σ → tb env Qd → (∀ v H' W' env' rv, EnR X.K H' W' A env' σ → Stp A H W H' W' → RvR X.K H W H' W' A rv v → Qd rv env' → Q v H') → te2 σ H Q)
    (he : PE X e (tOp rV te1 te2)) : PD X e (tdBin r ta tb) := by
  refine ⟨_, he, fun σ H W A env Q Qd E ht k => ?_⟩
  refine h1 σ H W A env _ _ E ht fun x H1 W1 env1 rx E1 S1 R1 q1 => ?_
  refine h2 σ H1 W1 A env1 _ _ E1 q1 fun y H2 W2 env2 ry E2 S2 R2 q2 => ?_
  have R1' := R1.step S2 E1.ain E.ain
  split at q2
  · rename_i p q ep eq
    refine hr H2 W2 x y p q Q _ E2.trk (.of_rv E2 R1' ep) (.of_rv E2 R2 eq) q2 fun v H3 W3 rv g R3 q3 => ?_
    refine k v H3 W3 env2 rv (g.en E2) ((S1.trans S2).trans g.stp) ?_ q3
    have R3' : RvR X.K H2 W2 H3 W3 A rv v := by
      cases rv with
      | d x => exact R3
      | o i => obtain ⟨a, ha, _⟩ := R3; cases i <;> simp at ha
      | n s => exact R3
    exact R3'.from (S1.trans S2)
  · exact q2.elim
theorem pd_op {op : Operator} {r : PyData → PyData → (Rv → Prop) → Prop} (ho : OpD X (binaryOp op) r) (ha : PD X a ta) (hb : PD X b tb) : PD X (.BinOp a op b pos) (tdBin r ta tb) := by
  obtain ⟨rV, h1, h2⟩ := ho
  obtain ⟨t1, p1, q1⟩ := ha
  obtain ⟨t2, p2, q2⟩ := hb
  exact pd_two h2 q1 q2 (pe_op h1 p1 p2)
theorem pd_cmp {op : CmpOp} {r : PyData → PyData → (Rv → Prop) → Prop} (ho : OpD X (compareOp op) r) (ha : PD X a ta) (hb : PD X b tb) (hm : behindInMarks op b = false := by first | exact nomark _ | rfl) : PD X (.Compare a [op] [b] pos) (tdBin r ta tb) := by
  obtain ⟨rV, h1, h2⟩ := ho
  obtain ⟨t1, p1, q1⟩ := ha
  obtain ⟨t2, p2, q2⟩ := hb
  exact pd_two h2 q1 q2 (pe_cmpR h1 p1 p2 hm)
end

/-! ### the operations -/
def rdAdd : PyData → PyData → (Rv → Prop) → Prop
  | .int i, .int j, Q => Q (.d (.int (i + j)))
  | .str a, .str b, Q => a.length + b.length ≤ sizeLine ∧ Q (.d (.str (a ++ b)))
  | .list a, .list b, Q => a.length + b.length ≤ sizeLine ∧ Q (.n (.l (a ++ b)))
  | .tuple a, .tuple b, Q => a.length + b.length ≤ sizeLine ∧ Q (.d (.tuple (a ++ b)))
  | _, _, _ => False
def rdSub : PyData → PyData → (Rv → Prop) → Prop
  | .int i, .int j, Q => Q (.d (.int (i - j)))
  | _, _, _ => False
def rdMul : PyData → PyData → (Rv → Prop) → Prop
  | .int i, .int j, Q => CMul i j ∧ Q (.d (.int (i * j)))
  | _, _, _ => False
def rdMulW : PyData → PyData → (Rv → Prop) → Prop
  | .int i, .int j, Q => CMulW i j ∧ Q (.d (.int (i * j)))
  | _, _, _ => False
def rdMod : PyData → PyData → (Rv → Prop) → Prop
  | .int i, .int j, Q => 0 < j ∧ Q (.d (.int (i % j)))
  | _, _, _ => False
def rdDiv : PyData → PyData → (Rv → Prop) → Prop
  | .int i, .int j, Q => CDivW i j ∧ Q (.d (.int (i / j)))
  | _, _, _ => False
def rdPow : PyData → PyData → (Rv → Prop) → Prop
  | .int i, .int j, Q => CPow i j ∧ Q (.d (.int (i ^ j.toNat)))
  | _, _, _ => False
def rdCmp (f : Int → Int → Bool) : PyData → PyData → (Rv → Prop) → Prop
  | .int i, .int j, Q => Q (.d (.bool (f i j)))
  | _, _, _ => False
def rdEq : PyData → PyData → (Rv → Prop) → Prop := fun a b Q => SeqAt.shaped a = true ∧ SeqAt.shaped b = true ∧ Q (.d (.bool (PyData.eqv a b)))
def rdNe : PyData → PyData → (Rv → Prop) → Prop := fun a b Q => SeqAt.shaped a = true ∧ SeqAt.shaped b = true ∧ Q (.d (.bool (!PyData.eqv a b)))
section
variable {X : Cx}
theorem od_ints {f : Value → Value → Sem Value} {C : Int → Int → Prop} {g : Int → Int → Int} {r : PyData → PyData → (Rv → Prop) → Prop} (h : OpR X f (rI C fun i j => .int (g i j)))
    (hr : ∀ a b Q, r a b Q → ∃ i j, a = .int i ∧ b = .int j ∧ C i j ∧ Q (.d (.int (g i j)))) : OpD X f r := by
  refine ⟨_, h, fun H W x y a b Q Qd hw ra rb q k => ?_⟩
  obtain ⟨i, j, rfl, rfl, hc, q⟩ := hr a b Qd q
  exact ⟨i, j, ra.int, rb.int, hc, k.int q⟩
theorem od_sub : OpD X (binaryOp .Sub) rdSub := by
  refine ⟨_, op_sub, fun H W x y a b Q Qd hw ra rb q k => ?_⟩
  unfold rdSub at q
  split at q
  · exact ⟨_, _, ra.int, rb.int, k.int q⟩
  · exact q.elim
theorem od_mul : OpD X (binaryOp .Mult) rdMul := od_ints op_mul fun a b Q q => by
  unfold rdMul at q
  split at q
  · exact ⟨_, _, rfl, rfl, q⟩
  · exact q.elim
theorem od_mulW : OpD X (binaryOp .Mult) rdMulW := od_ints op_mulW fun a b Q q => by
  unfold rdMulW at q
  split at q
  · exact ⟨_, _, rfl, rfl, q⟩
  · exact q.elim
theorem od_mod : OpD X (binaryOp .Mod) rdMod := od_ints op_mod fun a b Q q => by
  unfold rdMod at q
  split at q
  · exact ⟨_, _, rfl, rfl, q⟩
  · exact q.elim
theorem od_div : OpD X (binaryOp .FloorDiv) rdDiv := od_ints op_fdivW fun a b Q q => by
  unfold rdDiv at q
  split at q
  · exact ⟨_, _, rfl, rfl, q⟩
  · exact q.elim
theorem od_pow : OpD X (binaryOp .Pow) rdPow := od_ints op_pow fun a b Q q => by
  unfold rdPow at q
  split at q
  · exact ⟨_, _, rfl, rfl, q⟩
  · exact q.elim
theorem od_cmp {op : CmpOp} {f : Int → Int → Bool} (h : OpR X (compareOp op) (rI0 fun i j => .bl (f i j))) : OpD X (compareOp op) (rdCmp f) := by
  refine ⟨_, h, fun H W x y a b Q Qd hw ra rb q k => ?_⟩
  unfold rdCmp at q
  split at q
  · exact ⟨_, _, ra.int, rb.int, k.bl q⟩
  · exact q.elim
theorem od_lt : OpD X (compareOp .Lt) (rdCmp fun i j => decide (i < j)) := od_cmp op_lt
theorem od_le : OpD X (compareOp .LtE) (rdCmp fun i j => decide (i ≤ j)) := od_cmp op_le
theorem od_gt : OpD X (compareOp .Gt) (rdCmp fun i j => decide (j < i)) := od_cmp op_gt
theorem od_ge : OpD X (compareOp .GtE) (rdCmp fun i j => decide (j ≤ i)) := od_cmp op_ge
theorem od_eq (hu : X.A.units + 64 < cLine) : OpD X (compareOp .Eq) rdEq := by
  refine ⟨_, op_eqD hu, fun H W x y a b Q Qd hw ra rb q k => ?_⟩
  obtain ⟨h1, h2, q⟩ := q
  exact ⟨a, b, ra.dp, rb.dp, h1, h2, k.bl q⟩
theorem od_ne (hu : X.A.units + 64 < cLine) : OpD X (compareOp .NotEq) rdNe := by
  refine ⟨_, op_neD hu, fun H W x y a b Q Qd hw ra rb q k => ?_⟩
  obtain ⟨h1, h2, q⟩ := q
  exact ⟨a, b, ra.dp, rb.dp, h1, h2, k.bl q⟩
/-- two lists joined, each tracked or an object of the module -/
def rCatQ (K : PySem.W.Frag) : R2 := fun x y H Q => ∃ l b xs zs, x = .ref l ∧ y = .ref b ∧ SqL K H l xs ∧ SqL K H b zs ∧ xs.length + zs.length ≤ sizeLine ∧ ∀ p, H p = none → Q (.ref p) (upd H p (.lst (xs ++ zs)))
theorem op_catQ : OpR X (binaryOp .Add) (rCatQ X.K) := by
  intro pins s σ H x y v u Q I rx ry h
  obtain ⟨l, b, xs, zs, rfl, rfl, hH, hB, hz, q⟩ := h
  cases rx
  cases ry
  obtain ⟨its, r, pl, _⟩ := I.list hH
  obtain ⟨its2, r2, pl2, _⟩ := I.list hB
  have l1 := r.length
  have l2 := r2.length
  obtain ⟨⟨c1, dd1, da1, sl1⟩, ho, e1, n, hd⟩ := pl.isList
  obtain ⟨⟨c2, dd2, da2, sl2⟩, ho2, e2, n2, hd2⟩ := pl2.isList
  simp only at e1 hd e2 hd2
  subst e1 hd e2 hd2
  have e : its.toArray ++ its2.toArray = (its ++ its2).toArray := by simp
  have hs : its.toArray.size + its2.toArray.size ≤ sizeLine := by rw [List.size_toArray, List.size_toArray]; omega
  refine concat_meets ⟨_, ho, rfl⟩ ⟨_, ho2, rfl⟩ noFill_list_add seq_list_add PySem.F.slot_list_add PySem.F.entry_list_add (PySem.F.args_list_add_2 _ _) (PyProof.Rows.list_addW l b its.toArray its2.toArray n n2 dd1 dd2 sl1 sl2 hs) ⟨ho, ho2, ?_⟩
  rw [e]
  exact ⟨.ref _, _, I.lnew (t' := s.toks) (r.append r2) (by rw [List.length_append]; omega), rfl, q _ I.fresh⟩
theorem od_add : OpD X (binaryOp .Add) rdAdd := by
  refine ⟨_, orR (orR op_add op_add_str) (orR op_catQ op_catA), fun H W x y a b Q Qd hw ra rb q k => ?_⟩
  unfold rdAdd at q
  split at q
  · exact .inl (.inl ⟨_, _, ra.int, rb.int, k.int q⟩)
  · exact .inl (.inr ⟨_, _, ra.str, rb.str, q.1, k.str q.2⟩)
  · obtain ⟨p, vs, rfl, s1, d1⟩ := ra
    obtain ⟨p', vs', rfl, s2, d2⟩ := rb
    exact .inr (.inl ⟨p, p', vs, vs', rfl, rfl, s1, s2, by rw [d1.len, d2.len]; exact q.1, fun z hz => k.lst hw hz (d1.app d2) q.2⟩)
  · rename_i as bs
    cases ra with
    | tup s1 d1 =>
      cases rb with
      | tup s2 d2 =>
        refine .inr (.inr ⟨_, _, _, _, rfl, rfl, same_t hw_same s1, same_t hw_same s2, by rw [d1.len, d2.len]; exact q.1, fun e => ?_, fun e e2 => ?_, fun _ _ z hz => k.tup hw hz (d1.app d2) q.2⟩)
        · subst e
          cases d1
          exact k.d (.tup s2 d2) q.2
        · subst e2
          cases d2
          rw [List.append_nil] at q
          exact k.d (.tup s1 d1) q.2
  · exact q.elim
end
end DL

set_option Elab.async false
set_option linter.all false
set_option maxRecDepth 100000
set_option maxHeartbeats 4000000
set_option autoImplicit false
namespace DL
open PySem PySem.Spec L2

/-! ### names, constants -/
def tdV (i : Nat) : TD := fun env Q => match env[i]? with
  | some (some (.d x)) => Q (.d x) env
  | some (some _) => Q (.o i) env
  | _ => False
def tdC (x : PyData) : TD := fun env Q => Q (.d x) env
section
variable {X : Cx} {e a b c : Expr} {es : List Expr} {ta tb tc : TD} {pos : Pos}
theorem pd_var {i : Nat} {x : Str} (h : PE X (.Name x pos) (tVar i)) : PD X (.Name x pos) (tdV i) := by
  refine ⟨_, h, fun σ H W A env Q Qd E ht k => ?_⟩
  unfold tdV at ht
  split at ht
  · rename_i y hy
    obtain ⟨_, v, hv, hd⟩ := E.dat i y hy
    exact ⟨v, hv, k v H W env (.d y) E .refl hd ht⟩
  · rename_i s hn hs
    have hf : s.isD = false := by
      cases s with
      | d x => exact absurd hs (by intro z; exact hn x (by simpa using z))
      | _ => rfl
    obtain ⟨p, hp, hv, ow⟩ := E.own i s hs hf
    exact ⟨_, hv, k _ H W env (.o i) E .refl ⟨p, hp, rfl⟩ ht⟩
  · exact ht.elim
theorem pdv (i : Nat) {x : Str} (hN : X.N[i]? = some x := by rfl) (hv : Vis X.env.scope x := by first | exact Or.inl rfl | exact Or.inr (Or.inl rfl) | exact Or.inr (Or.inr rfl)) (hd : (x == ("__debug__" : Str)) = false := by decide)
    (hcd : (x == ("__classdict__" : Str)) = false := by decide) : PD X (.Name x pos) (tdV i) := pd_var (pe_var hN hv hd hcd)
theorem pd_c {v : V} {x : PyData} (h : PE X e (tC v)) (hx : ∀ K H, Dp K H v x) : PD X e (tdC x) := ⟨_, h, fun σ H W A env Q Qd E ht k => k v H W env (.d x) E .refl (hx _ _) ht⟩
theorem pd_int {i : Int} {j : Nat} : PD X (.Constant (.int i) j pos) (tdC (.int i)) := pd_c pe_int fun _ _ => .int _
theorem pd_str {i : Str} {j : Nat} : PD X (.Constant (.str i) j pos) (tdC (.str i)) := pd_c pe_str fun _ _ => .str _
theorem pd_bl {i : Bool} {j : Nat} : PD X (.Constant (.bool i) j pos) (tdC (.bool i)) := pd_c pe_bl fun _ _ => .bl _
theorem pd_non {j : Nat} : PD X (.Constant .none j pos) (tdC .none) := pd_c pe_non fun _ _ => .non
/-- a number or text of the module's top -/
theorem pd_gint {x : Str} {i : Int} {t : Tok} (hg : Gl X x) (hm : X.mg x = some (.int i t)) (hd : (x == ("__debug__" : Str)) = false := by decide) : PD X (.Name x pos) (tdC (.int i)) := pd_c (pe_glob (v := .int i) hg hm ⟨t, rfl⟩ hd) fun _ _ => .int _
theorem pd_gstr {x : Str} {i : Str} {t : Tok} (hg : Gl X x) (hm : X.mg x = some (.str i t)) (hd : (x == ("__debug__" : Str)) = false := by decide) : PD X (.Name x pos) (tdC (.str i)) := pd_c (pe_glob (v := .str i) hg hm ⟨t, rfl⟩ hd) fun _ _ => .str _

/-! ### lists of arguments -/
def tdNil : TDA := fun env Q => Q [] env
def tdCons (t : TD) (u : TDA) : TDA := fun env Q => t env fun x env1 => u env1 fun xs env2 => Q (x :: xs) env2
theorem pda_nil : PDA X [] tdNil := ⟨_, pa_nil, fun σ H W A env Q Qd E ht k => k [] H W env [] E .refl .nil ht⟩
theorem pda_cons {u : TDA} (ha : PD X e ta) (hr : PDA X es u) (hs : starEach (e :: es) X.env = (false, eval e X.env) :: starEach es X.env := by rfl) : PDA X (e :: es) (tdCons ta u) := by
  obtain ⟨t1, p1, q1⟩ := ha
  obtain ⟨t2, p2, q2⟩ := hr
  refine ⟨_, pa_cons p1 p2 hs, fun σ H W A env Q Qd E ht k => ?_⟩
  refine q1 σ H W A env _ _ E ht fun x H1 W1 env1 rx E1 S1 R1 h1 => ?_
  refine q2 σ H1 W1 A env1 _ _ E1 h1 fun xs H2 W2 env2 rxs E2 S2 R2 h2 => ?_
  refine k (x :: xs) H2 W2 env2 (rx :: rxs) E2 (S1.trans S2) (.cons (R1.step S2 E1.ain E.ain) (fun p s e1 e2 => ?_) S1 R2) h2
  subst e1
  obtain ⟨p', e3, _, m, _⟩ := R1
  rw [e2] at e3; cases e3
  exact m
end
/-- data for keeping: new lists are let go -/
def resAll : List Rv → Option (List PyData)
  | [] => some []
  | .d x :: r => (resAll r).map (x :: ·)
  | .n (.l xs) :: r => (resAll r).map (.list xs :: ·)
  | _ :: _ => none
/-- data for reading -/
def resR (env : En) : List Rv → Option (List PyData)
  | [] => some []
  | rv :: r => match res env rv with
    | some x => (resR env r).map (x :: ·)
    | none => none
section
variable {K : PySem.W.Frag} {H H' H0 H1 H2 : Hp} {W W' W0 W1 W2 : List Addr} {A : List (Option Addr)} {a b p : Addr} {o : HO} {v : V} {x : PyData} {vs : List V} {xs : List PyData} {env : En} {σ : L2.St}
def rel (W : List Addr) (p : Addr) : List Addr := W.filter fun q => decide (q ≠ p)
theorem mem_rel {q : Addr} : q ∈ rel W p ↔ q ∈ W ∧ q ≠ p := by unfold rel; simp
theorem rel_same : Same (HW H W) (HW H (rel W p)) := fun b o h => by
  obtain ⟨h1, h2⟩ := hw_some h
  exact hw_of (fun z => h1 (mem_rel.mp z).1) h2
theorem sub_same (h : ∀ q, q ∈ W' → q ∈ W) : Same (HW H W) (HW H W') := fun b o e => by
  obtain ⟨h1, h2⟩ := hw_some e
  exact hw_of (fun z => h1 (h b z)) h2
theorem EnR.sub (E : EnR K H W A env σ) (h : ∀ q, q ∈ W' → q ∈ W) (ha : AinW A W') : EnR K H W' A env σ := by
  refine ⟨E.len, E.lenA, fun i x h1 => ?_, fun i s h1 hs => ?_, fun i a h1 => ?_, E.inj, fun q hq => E.trk q (h q hq)⟩
  · obtain ⟨a, v, b, c⟩ := E.dat i x h1
    exact ⟨a, v, b, dp_mono (sub_same h) _ c⟩
  · obtain ⟨a, b, c, d⟩ := E.own i s h1 hs
    exact ⟨a, b, c, d.mono (sub_same h) rfl⟩
  · obtain ⟨a1, b⟩ := E.back i a h1
    exact ⟨ha a (List.mem_of_getElem? h1), b⟩
theorem Stp.sub (S : Stp A H0 W0 H W) (h : ∀ q, q ∈ W' → q ∈ W) (k : ∀ q, q ∈ W → q ∈ W0 → q ∈ W') : Stp A H0 W0 H W' :=
  ⟨S.ext, S.there, fun q hq => k q (S.up q hq) hq, fun q hq => S.fr q (h q hq)⟩
/-- what is kept as data is let go -/
theorem RvRs.keep : ∀ {rvs : List Rv} {vs : List V} {H0 : Hp} {W0 : List Addr} {xs : List PyData}, RvRs K H W A H0 W0 rvs vs → resAll rvs = some xs →
    ∃ W', (∀ q, q ∈ W' → q ∈ W) ∧ (∀ q, q ∈ W → q ∈ W0 → q ∈ W') ∧ DpAll K (HW H W') vs xs := by
  intro rvs
  induction rvs with
  | nil =>
    intro vs H0 W0 xs r e
    cases r
    cases e
    exact ⟨W, fun _ h => h, fun _ h _ => h, .nil⟩
  | cons rv rvs ih =>
    intro vs H0 W0 xs r e
    cases r with
    | @cons _ _ _ v _ vs H1 W1 r1 m S1 r2 =>
      cases rv with
      | d x =>
        obtain ⟨ys, e1, e2⟩ := Option.map_eq_some_iff.mp (show (resAll rvs).map (x :: ·) = some xs from e)
        subst e2
        obtain ⟨W', h1, h2, d⟩ := ih r2 e1
        exact ⟨W', h1, fun q hq z => h2 q hq (S1.up q z), .cons (dp_mono (sub_same h1) _ r1) d⟩
      | o i => cases e
      | n s =>
        cases s with
        | l zs =>
          obtain ⟨ys, e1, e2⟩ := Option.map_eq_some_iff.mp (show (resAll rvs).map (.list zs :: ·) = some xs from e)
          subst e2
          obtain ⟨W', h1, h2, d⟩ := ih r2 e1
          obtain ⟨p, rfl, _, _, np, ws, hp, dz⟩ := r1
          have hs : ∀ q, q ∈ rel W' p → q ∈ W := fun q hq => h1 q (mem_rel.mp hq).1
          refine ⟨rel W' p, hs, fun q hq z => mem_rel.mpr ⟨h2 q hq (S1.up q z), fun e => np (by rw [← e]; exact z)⟩, .cons (.lst (.inl (.inl (hw_of (fun z => (mem_rel.mp z).2 rfl) hp))) (dpa_mono (sub_same hs) _ dz)) (dpa_mono rel_same _ d)⟩
        | d _ => cases e
        | m _ => cases e
        | t _ => cases e
        | g _ _ => cases e
/-- data that is read -/
inductive DqAll (K : PySem.W.Frag) (H : Hp) (W : List Addr) : List V → List PyData → Prop
  | nil : DqAll K H W [] []
  | cons {v : V} {x : PyData} {vs : List V} {xs : List PyData} : Dq K H W v x → DqAll K H W vs xs → DqAll K H W (v :: vs) (x :: xs)
theorem RvRs.read : ∀ {rvs : List Rv} {vs : List V} {H0 : Hp} {W0 : List Addr} {xs : List PyData}, RvRs K H W A H0 W0 rvs vs → EnR K H W A env σ → resR env rvs = some xs → DqAll K H W vs xs := by
  intro rvs
  induction rvs with
  | nil =>
    intro vs H0 W0 xs r E e
    cases r
    cases e
    exact .nil
  | cons rv rvs ih =>
    intro vs H0 W0 xs r E e
    cases r with
    | @cons _ _ _ v _ vs H1 W1 r1 m S1 r2 =>
      unfold resR at e
      split at e
      · rename_i x ex
        obtain ⟨ys, e1, e2⟩ := Option.map_eq_some_iff.mp e
        subst e2
        exact .cons (.of_rv E r1 ex) (ih r2 E e1)
      · cases e
end
end DL

set_option Elab.async false
set_option linter.all false
set_option maxRecDepth 100000
set_option maxHeartbeats 4000000
set_option autoImplicit false
namespace DL
open PySem PySem.Spec L2

section
variable {K : PySem.W.Frag} {H H0 : Hp} {W W0 : List Addr} {A : List (Option Addr)} {env : En} {σ : L2.St} {Q : VK} {Qd : Rv → En → Prop}
theorem fin_up (E : EnR K H W A env σ) (S : Stp A H0 W0 H W) (k : ∀ v H' W' env' rv, EnR K H' W' A env' σ → Stp A H0 W0 H' W' → RvR K H0 W0 H' W' A rv v → Qd rv env' → Q v H') : Fin1 K H W (fun z => Qd z env) Q := by
  intro v H' W' rv g R q
  refine k v H' W' env rv (g.en E) (S.trans g.stp) ?_ q
  have R' : RvR K H W H' W' A rv v := by
    cases rv with
    | d x => exact R
    | o i => obtain ⟨a, ha, _⟩ := R; cases i <;> simp at ha
    | n s => exact R
  exact R'.from S
end

/-! ### displays -/
def tdTup (t : TDA) : TD := fun env Q => t env fun rvs env1 => match resAll rvs with
  | some xs => xs.length ≤ sizeLine ∧ Q (.d (.tuple xs)) env1
  | none => False
def tdLst (t : TDA) : TD := fun env Q => t env fun rvs env1 => match resAll rvs with
  | some xs => xs.length ≤ sizeLine ∧ Q (.n (.l xs)) env1
  | none => False
/-- a built-in called, by what its arguments are -/
def BD (X : Cx) (f : Value) (r : List PyData → (Rv → Prop) → Prop) : Prop :=
  ∃ rV, CallR X f rV ∧ ∀ (H : Hp) (W : List Addr) (vs : List V) (xs : List PyData) (Q : VK) (Qd : Rv → Prop), (∀ p, p ∈ W → H p ≠ none) → DqAll X.K H W vs xs → r xs Qd → Fin1 X.K H W Qd Q → rV vs H Q
def tdB (r : List PyData → (Rv → Prop) → Prop) (t : TDA) : TD := fun env Q => t env fun rvs env1 => match resR env1 rvs with
  | some xs => r xs fun z => Q z env1
  | none => False
section
variable {X : Cx} {e a b c : Expr} {es : List Expr} {ta tb tc : TD} {pos p : Pos} {t : TDA} {x : Str}
theorem pd_tup {k : Nat} (h : PDA X es t) : PD X (.Tuple es k pos) (tdTup t) := by
  obtain ⟨t1, p1, q1⟩ := h
  refine ⟨_, pe_tup p1, fun σ H W A env Q Qd E ht k => ?_⟩
  refine q1 σ H W A env _ _ E ht fun vs H1 W1 env1 rvs E1 S1 R1 h1 => ?_
  split at h1
  · rename_i xs ex
    obtain ⟨W', s1, s2, d⟩ := R1.keep ex
    have E' := E1.sub s1 fun a ha => s2 a (E1.ain a ha) (E.ain a ha)
    have S' := S1.sub s1 s2
    refine ⟨by rw [d.len]; exact h1.1, fun p hp => ?_⟩
    exact (fin_up E' S' k).tup E'.trk hp d h1.2
  · exact h1.elim
theorem pd_lst (h : PDA X es t) : PD X (.List es pos) (tdLst t) := by
  obtain ⟨t1, p1, q1⟩ := h
  refine ⟨_, pe_lst p1, fun σ H W A env Q Qd E ht k => ?_⟩
  refine q1 σ H W A env _ _ E ht fun vs H1 W1 env1 rvs E1 S1 R1 h1 => ?_
  split at h1
  · rename_i xs ex
    obtain ⟨W', s1, s2, d⟩ := R1.keep ex
    have E' := E1.sub s1 fun a ha => s2 a (E1.ain a ha) (E.ain a ha)
    have S' := S1.sub s1 s2
    refine ⟨by rw [d.len]; exact h1.1, fun p hp => ?_⟩
    exact (fin_up E' S' k).lst E'.trk hp d h1.2
  · exact h1.elim
theorem pd_bd {rV : List V → Hp → VK → Prop} {r : List PyData → (Rv → Prop) → Prop} {t1 : TA} (h2 : ∀ (H : Hp) (W : List Addr) (vs : List V) (xs : List PyData) (Q : VK) (Qd : Rv → Prop), (∀ p, p ∈ W → H p ≠ none) → DqAll X.K H W vs xs → r xs Qd → Fin1 X.K H W Qd Q → rV vs H Q)
    (q1 : ∀ (σ : L2.St) (H : Hp) (W : List Addr) (A : List (Option Addr)) (env : En) (Q : List V → Hp → Prop) (Qd : List Rv → En → Prop), EnR X.K H W A env σ → t env Qd → (∀ vs H' W' env' rvs, EnR X.K H' W' A env' σ → Stp A H W H' W' → RvRs X.K H' W' A H W rvs vs → Qd rvs env' → Q vs H') → t1 σ H Q)
    (he : PE X e (tCB rV t1)) : PD X e (tdB r t) := by
  refine ⟨_, he, fun σ H W A env Q Qd E ht k => ?_⟩
  refine q1 σ H W A env _ _ E ht fun vs H1 W1 env1 rvs E1 S1 R1 h1 => ?_
  split at h1
  · rename_i xs ex
    exact h2 H1 W1 vs xs Q _ E1.trk (R1.read E1 ex) h1 (fin_up E1 S1 k)
  · exact h1.elim
theorem pd_callB {id : String} {r : List PyData → (Rv → Prop) → Prop} (hb : BD X (.builtin id) r) (hg : Gl X x) (hm : X.mg x = none) (hv : bootBuiltins x = some (.builtin id)) (ha : PDA X (e :: es) t) (hn : x ≠ "__name__" := by decide) (hdb : (x == ("__debug__" : Str)) = false := by decide)
    (he : starEach (e :: es) X.env = (false, eval e X.env) :: starEach es X.env := by rfl) (hpl : (backTo pos (starEach es X.env)).any (·.1) = false := by rfl) : PD X (.Call (.Name x p) (e :: es) [] pos) (tdB r t) := by
  obtain ⟨rV, h1, h2⟩ := hb
  obtain ⟨t1, p1, q1⟩ := ha
  exact pd_bd h2 q1 (pe_callB h1 hg hm hv p1 hn hdb he hpl)
theorem pd_callTy {T : String} {r : List PyData → (Rv → Prop) → Prop} (hb : BD X (.type T) r) (hg : Gl X x) (hm : X.mg x = none) (hv : bootBuiltins x = some (.type T)) (ha : PDA X (e :: es) t) (hn : x ≠ "__name__" := by decide) (hdb : (x == ("__debug__" : Str)) = false := by decide)
    (he : starEach (e :: es) X.env = (false, eval e X.env) :: starEach es X.env := by rfl) (hpl : (backTo pos (starEach es X.env)).any (·.1) = false := by rfl) : PD X (.Call (.Name x p) (e :: es) [] pos) (tdB r t) := by
  obtain ⟨rV, h1, h2⟩ := hb
  obtain ⟨t1, p1, q1⟩ := ha
  exact pd_bd h2 q1 (pe_callTy h1 hg hm hv p1 hn hdb he hpl)
end

/-! ### the built-ins -/
theorem dqall1 {K : PySem.W.Frag} {H : Hp} {W : List Addr} {vs : List V} {x : PyData} (h : DqAll K H W vs [x]) : ∃ v, vs = [v] ∧ Dq K H W v x := by
  cases h with
  | cons a b => cases b; exact ⟨_, rfl, a⟩
theorem dqall2 {K : PySem.W.Frag} {H : Hp} {W : List Addr} {vs : List V} {x y : PyData} (h : DqAll K H W vs [x, y]) : ∃ v u, vs = [v, u] ∧ Dq K H W v x ∧ Dq K H W u y := by
  cases h with
  | cons a b => cases b with
    | cons b c => cases c; exact ⟨_, _, rfl, a, b⟩
def rdLen : List PyData → (Rv → Prop) → Prop
  | [.list xs], Q => Q (.d (.int xs.length))
  | [.tuple xs], Q => Q (.d (.int xs.length))
  | [.str x], Q => x.length ≤ sizeLine ∧ Q (.d (.int x.length))
  | _, _ => False
def rdInt : List PyData → (Rv → Prop) → Prop
  | [.int i], Q => Q (.d (.int i))
  | [.bool b], Q => Q (.d (.int (if b then 1 else 0)))
  | _, _ => False
def rdAbs : List PyData → (Rv → Prop) → Prop
  | [.int i], Q => Q (.d (.int (if i < 0 then -i else i)))
  | _, _ => False
def rdMax2 : List PyData → (Rv → Prop) → Prop
  | [.int i, .int j], Q => Q (.d (.int (if j > i then j else i)))
  | _, _ => False
def rdMin2 : List PyData → (Rv → Prop) → Prop
  | [.int i, .int j], Q => Q (.d (.int (if j < i then j else i)))
  | _, _ => False
def rdOrd : List PyData → (Rv → Prop) → Prop
  | [.str x], Q => x.length = 1 ∧ Q (.d (.int (x.cps.getD 0 0 : Nat)))
  | _, _ => False
def rdTuple : List PyData → (Rv → Prop) → Prop
  | [.list xs], Q => Q (.d (.tuple xs))
  | [.tuple xs], Q => Q (.d (.tuple xs))
  | _, _ => False
def rdList : List PyData → (Rv → Prop) → Prop
  | [.list xs], Q => Q (.n (.l xs))
  | [.tuple xs], Q => Q (.n (.l xs))
  | _, _ => False
def intsOf : List PyData → Option (List Int)
  | [] => some []
  | .int i :: r => (intsOf r).map (i :: ·)
  | _ :: _ => none
theorem intsOf_map : ∀ ns : List Int, intsOf (ns.map PyData.int) = some ns
  | [] => rfl
  | n :: ns => by rw [List.map_cons]; unfold intsOf; rw [intsOf_map ns]; rfl
theorem intsOf_eq : ∀ {xs : List PyData} {ns : List Int}, intsOf xs = some ns → xs = ns.map PyData.int
  | [], _, h => by cases h; rfl
  | .int i :: r, ns, h => by
    obtain ⟨ms, e1, e2⟩ := Option.map_eq_some_iff.mp (show (intsOf r).map (i :: ·) = some ns from h)
    subst e2
    rw [intsOf_eq e1]; rfl
  | .none :: _, _, h => by cases h
  | .bool _ :: _, _, h => by cases h
  | .str _ :: _, _, h => by cases h
  | .list _ :: _, _, h => by cases h
  | .tuple _ :: _, _, h => by cases h
  | .dict _ :: _, _, h => by cases h
/-- sorted of a list of ints -/
def rdSorted : List PyData → (Rv → Prop) → Prop
  | [.list xs], Q => ∃ ns : List Int, xs = ns.map PyData.int ∧ ∀ ms : List Int, ms.Perm ns → ms.Pairwise (· ≤ ·) → Q (.n (.l (ms.map PyData.int)))
  | _, _ => False
def rdSum : List PyData → (Rv → Prop) → Prop
  | [.list xs], Q => ∃ ns : List Int, xs = ns.map PyData.int ∧ Q (.d (.int ns.sum))
  | _, _ => False
def rdAll : List PyData → (Rv → Prop) → Prop
  | [.list xs], Q => ∃ ns : List Bool, xs = ns.map PyData.bool ∧ Q (.d (.bool (ns.all id)))
  | _, _ => False
def rdAny : List PyData → (Rv → Prop) → Prop
  | [.list xs], Q => ∃ ns : List Bool, xs = ns.map PyData.bool ∧ Q (.d (.bool (ns.any id)))
  | _, _ => False
section
variable {X : Cx}
theorem bd_len : BD X (.builtin "len") rdLen := by
  refine ⟨_, call_len_seq.or call_len_str, fun H W vs xs Q Qd hw r q k => ?_⟩
  unfold rdLen at q
  split at q
  · obtain ⟨v, rfl, p, ws, rfl, s, d⟩ := dqall1 r
    exact .inl ⟨p, ws, rfl, .inl s, by rw [d.len]; exact k.int q⟩
  · obtain ⟨v, rfl, d⟩ := dqall1 r
    cases d with
    | tup s d => exact .inl ⟨_, _, rfl, .inr (same_t hw_same s), by rw [d.len]; exact k.int q⟩
  · obtain ⟨v, rfl, d⟩ := dqall1 r
    exact .inr ⟨_, by rw [d.str], q.1, k.int q.2⟩
  · exact q.elim
theorem bd_int : BD X (.type "int") rdInt := by
  refine ⟨_, call_int1, fun H W vs xs Q Qd hw r q k => ?_⟩
  unfold rdInt at q
  split at q
  · obtain ⟨v, rfl, d⟩ := dqall1 r
    exact .inl ⟨_, by rw [d.int], k.int q⟩
  · obtain ⟨v, rfl, d⟩ := dqall1 r
    exact .inr ⟨_, by rw [d.bl], k.int q⟩
  · exact q.elim
theorem bd_abs : BD X (.builtin "abs") rdAbs := by
  refine ⟨_, call_abs, fun H W vs xs Q Qd hw r q k => ?_⟩
  unfold rdAbs at q
  split at q
  · obtain ⟨v, rfl, d⟩ := dqall1 r
    exact ⟨_, by rw [d.int], k.int q⟩
  · exact q.elim
theorem bd_max2 (hc : X.calm = true) : BD X (.builtin "max") rdMax2 := by
  refine ⟨_, call_max2 hc, fun H W vs xs Q Qd hw r q k => ?_⟩
  unfold rdMax2 at q
  split at q
  · obtain ⟨v, u, rfl, d, d2⟩ := dqall2 r
    exact ⟨_, _, by rw [d.int, d2.int], k.int q⟩
  · exact q.elim
theorem bd_min2 (hc : X.calm = true) : BD X (.builtin "min") rdMin2 := by
  refine ⟨_, call_min2 hc, fun H W vs xs Q Qd hw r q k => ?_⟩
  unfold rdMin2 at q
  split at q
  · obtain ⟨v, u, rfl, d, d2⟩ := dqall2 r
    exact ⟨_, _, by rw [d.int, d2.int], k.int q⟩
  · exact q.elim
theorem bd_ord : BD X (.builtin "ord") rdOrd := by
  refine ⟨_, call_ord, fun H W vs xs Q Qd hw r q k => ?_⟩
  unfold rdOrd at q
  split at q
  · obtain ⟨v, rfl, d⟩ := dqall1 r
    exact ⟨_, by rw [d.str], q.1, k.int q.2⟩
  · exact q.elim
theorem bd_tuple : BD X (.type "tuple") rdTuple := by
  refine ⟨_, call_tuple_of, fun H W vs xs Q Qd hw r q k => ?_⟩
  unfold rdTuple at q
  split at q
  · obtain ⟨v, rfl, p, ws, rfl, s, d⟩ := dqall1 r
    exact ⟨p, ws, rfl, .inl ⟨s, fun l hl => k.tup hw hl d q⟩⟩
  · obtain ⟨v, rfl, d⟩ := dqall1 r
    cases d with
    | tup s d => exact ⟨_, _, rfl, .inr ⟨same_t hw_same s, k.d (.tup s d) q⟩⟩
  · exact q.elim
theorem bd_list : BD X (.type "list") rdList := by
  refine ⟨_, call_list_of, fun H W vs xs Q Qd hw r q k => ?_⟩
  unfold rdList at q
  split at q
  · obtain ⟨v, rfl, p, ws, rfl, s, d⟩ := dqall1 r
    exact ⟨p, ws, rfl, .inl s, fun l hl => k.lst hw hl d q⟩
  · obtain ⟨v, rfl, d⟩ := dqall1 r
    cases d with
    | tup s d => exact ⟨_, _, rfl, .inr (same_t hw_same s), fun l hl => k.lst hw hl d q⟩
  · exact q.elim
theorem bd_sorted : BD X (.builtin "sorted") rdSorted := by
  refine ⟨_, cr_sortedI, fun H W vs xs Q Qd hw r q k => ?_⟩
  unfold rdSorted at q
  split at q
  · obtain ⟨v, rfl, p, ws, rfl, s, d⟩ := dqall1 r
    obtain ⟨ns, rfl, q⟩ := q
    rw [d.ints] at s
    exact ⟨p, ns, rfl, s, fun ms l h1 h2 hl => k.lst hw hl (.of_ints ms) (q ms h1 h2)⟩
  · exact q.elim
theorem bd_sum (hc : X.calm = true) : BD X (.builtin "sum") rdSum := by
  refine ⟨_, cr_sum hc, fun H W vs xs Q Qd hw r q k => ?_⟩
  unfold rdSum at q
  split at q
  · obtain ⟨v, rfl, p, ws, rfl, s, d⟩ := dqall1 r
    obtain ⟨ns, rfl, q⟩ := q
    rw [d.ints] at s
    exact ⟨p, ns, rfl, s, k.int q⟩
  · exact q.elim
theorem bd_all (hc : X.calm = true) : BD X (.builtin "all") rdAll := by
  refine ⟨_, cr_all hc, fun H W vs xs Q Qd hw r q k => ?_⟩
  unfold rdAll at q
  split at q
  · obtain ⟨v, rfl, p, ws, rfl, s, d⟩ := dqall1 r
    obtain ⟨ns, rfl, q⟩ := q
    rw [d.bools] at s
    exact ⟨p, ns, rfl, s, k.bl q⟩
  · exact q.elim
theorem bd_any (hc : X.calm = true) : BD X (.builtin "any") rdAny := by
  refine ⟨_, cr_any hc, fun H W vs xs Q Qd hw r q k => ?_⟩
  unfold rdAny at q
  split at q
  · obtain ⟨v, rfl, p, ws, rfl, s, d⟩ := dqall1 r
    obtain ⟨ns, rfl, q⟩ := q
    rw [d.bools] at s
    exact ⟨p, ns, rfl, s, k.bl q⟩
  · exact q.elim
end

/-! ### subscripts and slices -/
def rdIx : PyData → PyData → (Rv → Prop) → Prop
  | .list xs, .int i, Q => match atI xs i with
    | some x => Q (.d x)
    | none => False
  | .tuple xs, .int i, Q => match atI xs i with
    | some x => Q (.d x)
    | none => False
  | .str z, .int i, Q => z.length ≤ sizeLine ∧ match atI z.cps.toList i with
    | some c => Q (.d (.str ⟨#[c]⟩))
    | none => False
  | _, _, _ => False
def cutL (xs : List PyData) (lo hi : Option Int) : List PyData := (xs.drop (HT.sIx xs.length 0 lo)).take (HT.sIx xs.length xs.length hi - HT.sIx xs.length 0 lo)
abbrev TDO := En → (Option Int → En → Prop) → Prop
def PDO (X : Cx) (e : Option Expr) (t : TDO) : Prop := ∃ to, PO X e to ∧ ∀ (σ : L2.St) (H : Hp) (W : List Addr) (A : List (Option Addr)) (env : En) (Q : Option Int → Hp → Prop) (Qd : Option Int → En → Prop), EnR X.K H W A env σ → t env Qd →
  (∀ b H' W' env', EnR X.K H' W' A env' σ → Stp A H W H' W' → Qd b env' → Q b H') → to σ H Q
def tdNoPart : TDO := fun env Q => Q none env
def tdPart (t : TD) : TDO := fun env Q => t env fun x env1 => match res env1 x with
  | some (.int i) => Q (some i) env1
  | _ => False
def rdSl (x : PyData) (lo hi : Option Int) (Q : Rv → Prop) : Prop := match x with
  | .list xs => Q (.n (.l (cutL xs lo hi)))
  | .tuple xs => Q (.d (.tuple (cutL xs lo hi)))
  | .str z => z.length ≤ sizeLine ∧ Q (.d (.str (cutS z lo hi)))
  | _ => False
def tdSl (t : TD) (tl th : TDO) : TD := fun env Q => t env fun x env1 => tl env1 fun lo env2 => th env2 fun hi env3 => match res env3 x with
  | some y => rdSl y lo hi fun z => Q z env3
  | none => False
section
variable {X : Cx} {e a b c : Expr} {ta tb tc : TD} {pos p2 : Pos} {tl th : TDO} {lo hi : Option Expr}
theorem atI_dp {K : PySem.W.Frag} {H : Hp} {vs : List V} {xs : List PyData} {i : Int} {x : PyData} (d : DpAll K H vs xs) (h : atI xs i = some x) : ∃ v, atI vs i = some v ∧ Dp K H v x := by
  unfold atI at h ⊢
  rw [d.len]
  obtain ⟨j, h1, h2⟩ := Option.bind_eq_some_iff.mp h
  obtain ⟨v, e1, e2⟩ := d.get h2
  exact ⟨v, by rw [h1]; exact e1, e2⟩
theorem pd_ix (ha : PD X a ta) (hb : PD X b tb) (hs : PlainIx b := by exact fun _ _ => rfl) : PD X (.Subscript a b pos) (tdBin rdIx ta tb) := by
  obtain ⟨t1, p1, q1⟩ := ha
  obtain ⟨t2, p2, q2⟩ := hb
  refine pd_two (fun H W x y a b Q Qd hw ra rb q k => ?_) q1 q2 (pe_ix ix_seq p1 p2 hs)
  unfold rdIx at q
  split at q
  · split at q
    · rename_i ex
      obtain ⟨p, ws, rfl, s, d⟩ := ra
      obtain ⟨v, h1, h2⟩ := atI_dp d ex
      exact .inl ⟨p, ws, _, v, rfl, rb.int, s, h1, k.d h2 q⟩
    · exact q.elim
  · split at q
    · rename_i ex
      cases ra with
      | tup s d =>
        obtain ⟨v, h1, h2⟩ := atI_dp d ex
        exact .inr (.inl ⟨_, _, _, v, rfl, rb.int, same_t hw_same s, h1, k.d h2 q⟩)
    · exact q.elim
  · obtain ⟨hz, q⟩ := q
    split at q
    · rename_i ex
      exact .inr (.inr ⟨_, _, _, ra.str, rb.int, hz, ex, k.str q⟩)
    · exact q.elim
  · exact q.elim
theorem pdo_none : PDO X none tdNoPart := ⟨_, po_none, fun σ H W A env Q Qd E ht k => k none H W env E .refl ht⟩
theorem pdo_some (h : PD X e ta) : PDO X (some e) (tdPart ta) := by
  obtain ⟨t1, p1, q1⟩ := h
  refine ⟨_, po_some p1, fun σ H W A env Q Qd E ht k => ?_⟩
  refine q1 σ H W A env _ _ E ht fun v H1 W1 env1 rv E1 S1 R1 h1 => ?_
  split at h1
  · rename_i i ei
    exact ⟨i, (Dq.of_rv E1 R1 ei).int, k _ H1 W1 env1 E1 S1 h1⟩
  · exact h1.elim
theorem cut_dp {K : PySem.W.Frag} {H : Hp} {vs : List V} {xs : List PyData} {lo hi : Option Int} (d : DpAll K H vs xs) : DpAll K H (cutV vs lo hi) (cutL xs lo hi) := by
  unfold cutV cutL
  rw [d.len]
  exact (d.drop _).take _
theorem cutL_whole {xs : List PyData} {lo hi : Option Int} (h1 : HT.sIx xs.length 0 lo = 0) (h2 : HT.sIx xs.length xs.length hi = xs.length) : cutL xs lo hi = xs := by
  unfold cutL
  rw [h1, h2]
  simp
theorem pd_slice (ha : PD X e ta) (hl : PDO X lo tl) (hh : PDO X hi th) : PD X (.Subscript e (.Slice lo hi none p2) pos) (tdSl ta tl th) := by
  obtain ⟨t1, p1, q1⟩ := ha
  obtain ⟨t2, p2, q2⟩ := hl
  obtain ⟨t3, p3, q3⟩ := hh
  refine ⟨_, pe_slice (sl_list.or (sl_tupA.or sl_str)) p1 p2 p3, fun σ H W A env Q Qd E ht k => ?_⟩
  refine q1 σ H W A env _ _ E ht fun x H1 W1 env1 rx E1 S1 R1 h1 => ?_
  refine q2 σ H1 W1 A env1 _ _ E1 h1 fun lo H2 W2 env2 E2 S2 h2 => ?_
  refine q3 σ H2 W2 A env2 _ _ E2 h2 fun hi H3 W3 env3 E3 S3 h3 => ?_
  have S := S2.trans S3
  have R := R1.step S E1.ain E.ain
  split at h3
  · rename_i y ey
    have D := Dq.of_rv E3 R ey
    have F := fin_up E3 (S1.trans S) k
    unfold rdSl at h3
    split at h3
    · obtain ⟨p, ws, rfl, s, d⟩ := D
      exact .inl ⟨p, ws, rfl, s, fun l hl => F.lst E3.trk hl (cut_dp d) h3⟩
    · cases D with
      | tup s d =>
        refine .inr (.inl ⟨_, _, rfl, same_t hw_same s, fun ⟨w1, w2⟩ => ?_, fun _ l hl => F.tup E3.trk hl (cut_dp d) h3⟩)
        rw [d.len] at w1 w2
        rw [cutL_whole w1 w2] at h3
        exact F.d (.tup s d) h3
    · exact .inr (.inr ⟨_, D.str, h3.1, F.str h3.2⟩)
    · exact h3.elim
  · exact h3.elim
end
end DL

set_option Elab.async false
set_option linter.all false
set_option maxRecDepth 100000
set_option maxHeartbeats 4000000
set_option autoImplicit false
namespace DL
open PySem PySem.Spec L2

def tdTest (t : TD) : TDT := fun env Q => t env fun x env1 => match res env1 x with
  | some (.bool b) => Q b env1
  | _ => False
def tdAnd (t u : TDT) : TDT := fun env Q => t env fun b env1 => if b = true then u env1 Q else Q false env1
def tdOr (t u : TDT) : TDT := fun env Q => t env fun b env1 => if b = true then Q true env1 else u env1 Q
def tdNot (t : TDT) : TDT := fun env Q => t env fun b env1 => Q (!b) env1
def tdIf (t : TDT) (u v : TD) : TD := fun env Q => t env fun b env1 => if b = true then u env1 Q else v env1 Q
def tdAndV (t u : TD) : TD := fun env Q => t env fun x env1 => match res env1 x with
  | some (.bool b) => if b = true then u env1 Q else Q (.d (.bool false)) env1
  | _ => False
def tdOrV (t u : TD) : TD := fun env Q => t env fun x env1 => match res env1 x with
  | some (.bool b) => if b = true then Q (.d (.bool true)) env1 else u env1 Q
  | _ => False
def tdNotV (t : TD) : TD := fun env Q => t env fun x env1 => match res env1 x with
  | some (.bool b) => Q (.d (.bool (!b))) env1
  | _ => False
def tdNeg (t : TD) : TD := fun env Q => t env fun x env1 => match res env1 x with
  | some (.int i) => Q (.d (.int (-i))) env1
  | _ => False
def tdIsN (t : TD) : TD := fun env Q => t env fun x env1 => match x with
  | .d .none => Q (.d (.bool true)) env1
  | _ => Q (.d (.bool false)) env1
def tdNotN (t : TD) : TD := fun env Q => t env fun x env1 => match x with
  | .d .none => Q (.d (.bool false)) env1
  | _ => Q (.d (.bool true)) env1
def PDW (X : Cx) (e : Expr) (t : TDT) : Prop := ∃ tt, PW X e tt ∧ ∀ (σ : L2.St) (H : Hp) (W : List Addr) (A : List (Option Addr)) (env : En) (Q : Bool → Hp → Prop) (Qd : Bool → En → Prop), EnR X.K H W A env σ → t env Qd →
  (∀ b H' W' env', EnR X.K H' W' A env' σ → Stp A H W H' W' → Qd b env' → Q b H') → tt σ H Q
section
variable {X : Cx} {e a b c : Expr} {rest : List Expr} {ta tb tc : TD} {t u : TDT} {pos p2 : Pos}
theorem test_go {te : TE} {t : TD} {σ : L2.St} {H : Hp} {W : List Addr} {A : List (Option Addr)} {env : En} {Q : Bool → Hp → Prop} {Qd : Bool → En → Prop}
    (q1 : ∀ (σ : L2.St) (H : Hp) (W : List Addr) (A : List (Option Addr)) (env : En) (Q : VK) (Qd : Rv → En → Prop), EnR X.K H W A env σ → t env Qd → (∀ v H' W' env' rv, EnR X.K H' W' A env' σ → Stp A H W H' W' → RvR X.K H W H' W' A rv v → Qd rv env' → Q v H') → te σ H Q)
    (E : EnR X.K H W A env σ) (ht : tdTest t env Qd) (k : ∀ b H' W' env', EnR X.K H' W' A env' σ → Stp A H W H' W' → Qd b env' → Q b H') : te σ H fun x H' => ∃ k, x = .bl k ∧ Q k H' := by
  refine q1 σ H W A env _ _ E ht fun x H1 W1 env1 rx E1 S1 R1 h1 => ?_
  split at h1
  · rename_i b eb
    exact ⟨b, (Dq.of_rv E1 R1 eb).bl, k b H1 W1 env1 E1 S1 h1⟩
  · exact h1.elim
theorem pdt_cmp {op : CmpOp} {r : PyData → PyData → (Rv → Prop) → Prop} (ho : OpD X (compareOp op) r) (ha : PD X a ta) (hb : PD X b tb) (hm : behindInMarks op b = false := by first | exact nomark _ | rfl) : PDT X (.Compare a [op] [b] pos) (tdTest (tdBin r ta tb)) := by
  obtain ⟨rV, h1, h2⟩ := ho
  obtain ⟨t1, p1, q1⟩ := ha
  obtain ⟨t2, p2, q2⟩ := hb
  refine ⟨_, pt_cmpR h1 p1 p2 hm, fun σ H W A env Q Qd E ht k => ?_⟩
  obtain ⟨te, _, qq⟩ := pd_two (e := .Compare a [op] [b] pos) h2 q1 q2 (pe_cmpR h1 p1 p2 hm)
  exact test_go (te := tOp rV t1 t2) (t := tdBin r ta tb) (fun σ H W A env Q Qd E ht k => by
    refine q1 σ H W A env _ _ E ht fun x H1 W1 env1 rx E1 S1 R1 q1 => ?_
    refine q2 σ H1 W1 A env1 _ _ E1 q1 fun y H2 W2 env2 ry E2 S2 R2 q2 => ?_
    have R1' := R1.step S2 E1.ain E.ain
    split at q2
    · rename_i p q ep eq
      exact h2 H2 W2 x y p q Q _ E2.trk (.of_rv E2 R1' ep) (.of_rv E2 R2 eq) q2 (fin_up E2 (S1.trans S2) k)
    · exact q2.elim) E ht k
theorem pdt_val (h : PD X e ta) (he : ∀ whole, isTrue e X.env whole = (do let v ← whole; standAt e.pos; holding [v] (truthy v)) := by intro _; rfl) : PDT X e (tdTest ta) := by
  obtain ⟨t1, p1, q1⟩ := h
  exact ⟨_, pt_val p1 he, fun σ H W A env Q Qd E ht k => test_go q1 E ht k⟩
theorem PDW.pt (h : PDW X e t) : PDT X e t := by
  obtain ⟨t1, p1, q1⟩ := h
  exact ⟨_, p1.pt, q1⟩
theorem pdw_and1 (h : PDT X a t) : PDW X (.BoolOp .And [a] pos) t := by
  obtain ⟨t1, p1, q1⟩ := h
  exact ⟨_, pw_and1 p1, q1⟩
theorem pdw_or1 (h : PDT X a t) : PDW X (.BoolOp .Or [a] pos) t := by
  obtain ⟨t1, p1, q1⟩ := h
  exact ⟨_, pw_or1 p1, q1⟩
theorem pdw_and (h : PDT X a t) (h' : PDW X (.BoolOp .And (b :: rest) pos) u) : PDW X (.BoolOp .And (a :: b :: rest) pos) (tdAnd t u) := by
  obtain ⟨t1, p1, q1⟩ := h
  obtain ⟨t2, p2, q2⟩ := h'
  refine ⟨_, pw_and p1 p2, fun σ H W A env Q Qd E ht k => ?_⟩
  refine q1 σ H W A env _ _ E ht fun c H1 W1 env1 E1 S1 h1 => ?_
  cases c with
  | true => exact q2 σ H1 W1 A env1 Q Qd E1 h1 fun b H2 W2 env2 E2 S2 h2 => k b H2 W2 env2 E2 (S1.trans S2) h2
  | false => exact k false H1 W1 env1 E1 S1 h1
theorem pdw_or (h : PDT X a t) (h' : PDW X (.BoolOp .Or (b :: rest) pos) u) : PDW X (.BoolOp .Or (a :: b :: rest) pos) (tdOr t u) := by
  obtain ⟨t1, p1, q1⟩ := h
  obtain ⟨t2, p2, q2⟩ := h'
  refine ⟨_, pw_or p1 p2, fun σ H W A env Q Qd E ht k => ?_⟩
  refine q1 σ H W A env _ _ E ht fun c H1 W1 env1 E1 S1 h1 => ?_
  cases c with
  | false => exact q2 σ H1 W1 A env1 Q Qd E1 h1 fun b H2 W2 env2 E2 S2 h2 => k b H2 W2 env2 E2 (S1.trans S2) h2
  | true => exact k true H1 W1 env1 E1 S1 h1
theorem pdt_not (h : PDT X a t) : PDT X (.UnaryOp .Not a pos) (tdNot t) := by
  obtain ⟨t1, p1, q1⟩ := h
  exact ⟨_, pt_not p1, fun σ H W A env Q Qd E ht k => q1 σ H W A env _ _ E ht fun b H1 W1 env1 E1 S1 h1 => k (!b) H1 W1 env1 E1 S1 h1⟩
theorem pd_ifExp (h : PDT X c t) (ha : PD X a ta) (hb : PD X b tb) : PD X (.IfExp c a b pos) (tdIf t ta tb) := by
  obtain ⟨t1, p1, q1⟩ := h
  obtain ⟨t2, p2, q2⟩ := ha
  obtain ⟨t3, p3, q3⟩ := hb
  refine ⟨_, pe_ifExp p1 p2 p3, fun σ H W A env Q Qd E ht k => ?_⟩
  refine q1 σ H W A env _ _ E ht fun c H1 W1 env1 E1 S1 h1 => ?_
  cases c with
  | true => exact q2 σ H1 W1 A env1 Q Qd E1 h1 fun v H2 W2 env2 rv E2 S2 R2 h2 => k v H2 W2 env2 rv E2 (S1.trans S2) (R2.from S1) h2
  | false => exact q3 σ H1 W1 A env1 Q Qd E1 h1 fun v H2 W2 env2 rv E2 S2 R2 h2 => k v H2 W2 env2 rv E2 (S1.trans S2) (R2.from S1) h2
theorem pd_one {op : BoolOp} (h : PD X a ta) : PD X (.BoolOp op [a] pos) ta := by
  obtain ⟨t1, p1, q1⟩ := h
  exact ⟨_, pe_one p1, q1⟩
theorem pd_and (h : PD X a ta) (h' : PD X (.BoolOp .And (b :: rest) pos) tb) : PD X (.BoolOp .And (a :: b :: rest) pos) (tdAndV ta tb) := by
  obtain ⟨t1, p1, q1⟩ := h
  obtain ⟨t2, p2, q2⟩ := h'
  refine ⟨_, pe_and p1 p2, fun σ H W A env Q Qd E ht k => ?_⟩
  refine q1 σ H W A env _ _ E ht fun x H1 W1 env1 rx E1 S1 R1 h1 => ?_
  split at h1
  · rename_i c ec
    refine ⟨c, (Dq.of_rv E1 R1 ec).bl, ?_⟩
    cases c with
    | true => exact q2 σ H1 W1 A env1 Q Qd E1 h1 fun v H2 W2 env2 rv E2 S2 R2 h2 => k v H2 W2 env2 rv E2 (S1.trans S2) (R2.from S1) h2
    | false => exact k (.bl false) H1 W1 env1 (.d (.bool false)) E1 S1 (.bl false) h1
  · exact h1.elim
theorem pd_or (h : PD X a ta) (h' : PD X (.BoolOp .Or (b :: rest) pos) tb) : PD X (.BoolOp .Or (a :: b :: rest) pos) (tdOrV ta tb) := by
  obtain ⟨t1, p1, q1⟩ := h
  obtain ⟨t2, p2, q2⟩ := h'
  refine ⟨_, pe_or p1 p2, fun σ H W A env Q Qd E ht k => ?_⟩
  refine q1 σ H W A env _ _ E ht fun x H1 W1 env1 rx E1 S1 R1 h1 => ?_
  split at h1
  · rename_i c ec
    refine ⟨c, (Dq.of_rv E1 R1 ec).bl, ?_⟩
    cases c with
    | false => exact q2 σ H1 W1 A env1 Q Qd E1 h1 fun v H2 W2 env2 rv E2 S2 R2 h2 => k v H2 W2 env2 rv E2 (S1.trans S2) (R2.from S1) h2
    | true => exact k (.bl true) H1 W1 env1 (.d (.bool true)) E1 S1 (.bl true) h1
  · exact h1.elim
theorem pd_not (h : PD X a ta) : PD X (.UnaryOp .Not a pos) (tdNotV ta) := by
  obtain ⟨t1, p1, q1⟩ := h
  refine ⟨_, pe_not p1, fun σ H W A env Q Qd E ht k => ?_⟩
  refine q1 σ H W A env _ _ E ht fun x H1 W1 env1 rx E1 S1 R1 h1 => ?_
  split at h1
  · rename_i c ec
    exact ⟨c, (Dq.of_rv E1 R1 ec).bl, k (.bl (!c)) H1 W1 env1 (.d (.bool (!c))) E1 S1 (.bl _) h1⟩
  · exact h1.elim
theorem pd_neg (h : PD X a ta) : PD X (.UnaryOp .USub a pos) (tdNeg ta) := by
  obtain ⟨t1, p1, q1⟩ := h
  refine ⟨_, pe_un un_neg p1, fun σ H W A env Q Qd E ht k => ?_⟩
  refine q1 σ H W A env _ _ E ht fun x H1 W1 env1 rx E1 S1 R1 h1 => ?_
  split at h1
  · rename_i c ec
    exact ⟨c, (Dq.of_rv E1 R1 ec).int, k (.int (-c)) H1 W1 env1 (.d (.int (-c))) E1 S1 (.int _) h1⟩
  · exact h1.elim
theorem rv_none {K : PySem.W.Frag} {H H0 : Hp} {W W0 : List Addr} {A : List (Option Addr)} {rv : Rv} {v : V} (R : RvR K H0 W0 H W A rv v) : (v = .non ↔ rv = .d .none) := by
  cases rv with
  | d x =>
    have R' : Dp K (HW H W) v x := R
    cases R' <;> simp
  | o i => obtain ⟨a, _, rfl⟩ := R; simp
  | n s => obtain ⟨p, rfl, _⟩ := R; simp
theorem isN_read {t1 : TE} (q1 : ∀ (σ : L2.St) (H : Hp) (W : List Addr) (A : List (Option Addr)) (env : En) (Q : VK) (Qd : Rv → En → Prop), EnR X.K H W A env σ → ta env Qd → (∀ v H' W' env' rv, EnR X.K H' W' A env' σ → Stp A H W H' W' → RvR X.K H W H' W' A rv v → Qd rv env' → Q v H') → t1 σ H Q)
    (σ : L2.St) (H : Hp) (W : List Addr) (A : List (Option Addr)) (env : En) (Q : VK) (Qd : Rv → En → Prop) (E : EnR X.K H W A env σ) (ht : tdIsN ta env Qd) (k : ∀ v H' W' env' rv, EnR X.K H' W' A env' σ → Stp A H W H' W' → RvR X.K H W H' W' A rv v → Qd rv env' → Q v H') :
    tOp (fun x y H Q => y = .non ∧ Q (.bl (decide (x = .non))) H) t1 (tC .non) σ H Q := by
  refine q1 σ H W A env _ _ E ht fun x H1 W1 env1 rx E1 S1 R1 h1 => ?_
  refine ⟨rfl, ?_⟩
  have n := rv_none R1
  split at h1
  · rw [decide_eq_true (n.mpr rfl)]
    exact k (.bl true) H1 W1 env1 (.d (.bool true)) E1 S1 (.bl _) h1
  · rename_i hn
    rw [decide_eq_false fun z => hn (n.mp z)]
    exact k (.bl false) H1 W1 env1 (.d (.bool false)) E1 S1 (.bl _) h1
theorem pd_isN (h : PD X a ta) {j : Nat} {pp : Pos} : PD X (.Compare a [.Is] [.Constant .none j pp] pos) (tdIsN ta) := by
  obtain ⟨t1, p1, q1⟩ := h
  exact ⟨_, pe_cmpR op_isN p1 pe_non (nomark _), isN_read q1⟩
theorem pdt_isN (h : PD X a ta) {j : Nat} {pp : Pos} : PDT X (.Compare a [.Is] [.Constant .none j pp] pos) (tdTest (tdIsN ta)) := by
  obtain ⟨t1, p1, q1⟩ := h
  exact ⟨_, pt_cmpR op_isN p1 pe_non (nomark _), fun σ H W A env Q Qd E ht k => test_go (isN_read q1) E ht k⟩
theorem notN_read {t1 : TE} (q1 : ∀ (σ : L2.St) (H : Hp) (W : List Addr) (A : List (Option Addr)) (env : En) (Q : VK) (Qd : Rv → En → Prop), EnR X.K H W A env σ → ta env Qd → (∀ v H' W' env' rv, EnR X.K H' W' A env' σ → Stp A H W H' W' → RvR X.K H W H' W' A rv v → Qd rv env' → Q v H') → t1 σ H Q)
    (σ : L2.St) (H : Hp) (W : List Addr) (A : List (Option Addr)) (env : En) (Q : VK) (Qd : Rv → En → Prop) (E : EnR X.K H W A env σ) (ht : tdNotN ta env Qd) (k : ∀ v H' W' env' rv, EnR X.K H' W' A env' σ → Stp A H W H' W' → RvR X.K H W H' W' A rv v → Qd rv env' → Q v H') :
    tOp (fun x y H Q => y = .non ∧ Q (.bl (!decide (x = .non))) H) t1 (tC .non) σ H Q := by
  refine q1 σ H W A env _ _ E ht fun x H1 W1 env1 rx E1 S1 R1 h1 => ?_
  refine ⟨rfl, ?_⟩
  have n := rv_none R1
  split at h1
  · rw [decide_eq_true (n.mpr rfl)]
    exact k (.bl false) H1 W1 env1 (.d (.bool false)) E1 S1 (.bl _) h1
  · rename_i hn
    rw [decide_eq_false fun z => hn (n.mp z)]
    exact k (.bl true) H1 W1 env1 (.d (.bool true)) E1 S1 (.bl _) h1
theorem pd_notN (h : PD X a ta) {j : Nat} {pp : Pos} : PD X (.Compare a [.IsNot] [.Constant .none j pp] pos) (tdNotN ta) := by
  obtain ⟨t1, p1, q1⟩ := h
  exact ⟨_, pe_cmpR op_notN p1 pe_non (nomark _), notN_read q1⟩
theorem pdt_notN (h : PD X a ta) {j : Nat} {pp : Pos} : PDT X (.Compare a [.IsNot] [.Constant .none j pp] pos) (tdTest (tdNotN ta)) := by
  obtain ⟨t1, p1, q1⟩ := h
  exact ⟨_, pt_cmpR op_notN p1 pe_non (nomark _), fun σ H W A env Q Qd E ht k => test_go (notN_read q1) E ht k⟩
end
end DL

set_option Elab.async false
set_option linter.all false
set_option maxRecDepth 100000
set_option maxHeartbeats 4000000
set_option autoImplicit false
namespace DL
open PySem PySem.Spec L2

/-- what a def's body leans on: the heap at its entry, what was held alone then, what of it the def holds; G: what has been seen and must stay -/
structure Bs where
  H0 : Hp
  W0 : List Addr
  A0 : List (Option Addr)
  G : Hp
  Mv : List Addr
  Mi : List Nat
  Fz : List (Addr × HO)
structure StR (K : PySem.W.Frag) (B : Bs) (H : Hp) (W : List Addr) (A : List (Option Addr)) (env : En) (σ : L2.St) : Prop where
  en : EnR K H W A env σ
  old : ∀ b o, B.H0 b = some o → some b ∉ B.A0 → b ∉ B.Mv → H b = some o
  there : ∀ b, B.H0 b ≠ none → H b ≠ none
  up : ∀ p, p ∈ B.W0 → p ∈ W
  fr : ∀ p, p ∈ W → p ∈ B.W0 ∨ B.H0 p = none
  own : ∀ a, some a ∈ A → (some a ∈ B.A0 ∨ a ∈ B.Mv) ∨ B.H0 a = none
  par : ∀ (i : Nat) (a : Addr), B.A0[i]? = some (some a) → A[i]? = some (some a)
  mvs : ∀ (i : Nat) (a : Addr), A[i]? = some (some a) → a ∈ B.Mv → i ∈ B.Mi
  fz : ∀ q, q ∈ B.Fz → H q.1 = some q.2 ∧ some q.1 ∉ A ∧ q.1 ∈ W
  seen : Same B.G (HW H W)
structure DE where
  nx : En → Prop
  rt : Sl → En → Prop
  bk : En → Prop := fun _ => False
  ct : En → Prop := fun _ => False
abbrev TDS := DE → En → Prop
/-- what is handed back -/
def RtR (K : PySem.W.Frag) (B : Bs) (H : Hp) (W : List Addr) : Sl → V → Prop
  | .d x, v => Dp K (HW H W) v x
  | s, v => ∃ p, v = .ref p ∧ B.H0 p = none ∧ p ∈ W ∧ OwR K H W p s
structure Out (K : PySem.W.Frag) (B : Bs) (D : Ends) (Dd : DE) : Prop where
  nx : ∀ σ H W A env, StR K B H W A env σ → Dd.nx env → D.nx σ H
  bk : ∀ σ H W A env, StR K B H W A env σ → Dd.bk env → D.bk σ H
  ct : ∀ σ H W A env, StR K B H W A env σ → Dd.ct env → D.ct σ H
  rt : ∀ σ H W A env v s, StR K B H W A env σ → RtR K B H W s v → Dd.rt s env → D.rt v H
/-- the parameters that are held alone are among N -/
structure OkN (B : Bs) (N : List Nat × List Nat) : Prop where
  n : ∀ (i : Nat) (a : Addr), B.A0[i]? = some (some a) → i ∈ N.1
  m : ∀ i, i ∈ B.Mi → i ∈ N.2
  w : ∀ p, p ∈ B.W0 → B.H0 p ≠ none
  v : ∀ p, p ∈ B.Mv → B.H0 p ≠ none
def PSD (X : Cx) (N : List Nat × List Nat) (st : Stmt) (t : TDS) : Prop := ∃ ts, PS X st ts ∧ ∀ (B : Bs) (D : Ends) (Dd : DE) (σ : L2.St) (H : Hp) (W : List Addr) (A : List (Option Addr)) (env : En), OkN B N → StR X.K B H W A env σ → t Dd env → Out X.K B D Dd → ts D σ H
def PSDs (X : Cx) (N : List Nat × List Nat) (sts : List Stmt) (t : TDS) : Prop := ∃ ts, PSs X sts ts ∧ ∀ (B : Bs) (D : Ends) (Dd : DE) (σ : L2.St) (H : Hp) (W : List Addr) (A : List (Option Addr)) (env : En), OkN B N → StR X.K B H W A env σ → t Dd env → Out X.K B D Dd → ts D σ H
section
variable {K : PySem.W.Frag} {H H' : Hp} {W W' : List Addr} {A A' : List (Option Addr)} {env env' : En} {σ σ' : L2.St} {B : Bs}
/-- behind an expression -/
theorem StR.step (R : StR K B H W A env σ) (S : Stp A H W H' W') (E : EnR K H' W' A env' σ) : StR K B H' W' A env' σ := by
  refine ⟨E, fun b o h n m => S.ext b o (R.old b o h n m) fun z => ?_, fun b h => S.there b (R.there b h), fun p h => S.up p (R.up p h), fun p h => ?_, R.own, R.par, R.mvs, fun q hq => ⟨S.ext q.1 q.2 (R.fz q hq).1 (R.fz q hq).2.1, (R.fz q hq).2.1, S.up _ (R.fz q hq).2.2⟩, fun b o h => S.same R.en.ain b o (R.seen b o h)⟩
  · rcases R.own b z with (q | q) | q
    · exact n q
    · exact m q
    · rw [q] at h; cases h
  · rcases S.fr p h with q | q
    · exact R.fr p q
    · refine .inr ?_
      cases e : B.H0 p with
      | none => rfl
      | some o => exact absurd q.1 (R.there p (by rw [e]; simp))
theorem set_get {α : Type} {l : List α} {i j : Nat} {x : α} : (l.set i x)[j]? = if i = j then (if j < l.length then some x else none) else l[j]? := by
  rw [List.getElem?_set]
  split
  · rename_i e; subst e; rfl
  · rfl
/-- a name holds data now -/
theorem EnR.setD (E : EnR K H W A env σ) {i : Nat} (hi : i < env.length) {v : V} {x : PyData} (h : Dp K (HW H W) v x) : EnR K H W (A.set i none) (env.set i (some (.d x))) (σ.set i (some v)) := by
  have lA := E.lenA
  have lS := E.len
  refine ⟨by simp [E.len], by simp [E.lenA], fun j y e => ?_, fun j s e hs => ?_, fun j a e => ?_, fun j k a e1 e2 => ?_, E.trk⟩
  · rw [set_get] at e
    rw [set_get, set_get]
    by_cases c : i = j
    · subst c
      rw [if_pos rfl, if_pos hi] at e
      cases e
      rw [if_pos rfl, if_pos (by omega), if_pos rfl, if_pos (by omega)]
      exact ⟨rfl, v, rfl, h⟩
    · rw [if_neg c] at e
      rw [if_neg c, if_neg c]
      exact E.dat j y e
  · rw [set_get] at e
    rw [set_get, set_get]
    by_cases c : i = j
    · subst c
      rw [if_pos rfl, if_pos hi] at e
      cases e
      cases hs
    · rw [if_neg c] at e
      rw [if_neg c, if_neg c]
      exact E.own j s e hs
  · rw [set_get] at e
    rw [set_get]
    by_cases c : i = j
    · subst c
      rw [if_pos rfl] at e
      split at e <;> cases e
    · rw [if_neg c] at e
      rw [if_neg c]
      exact E.back j a e
  · rw [set_get] at e1 e2
    by_cases c : i = j
    · rw [if_pos c] at e1
      split at e1 <;> cases e1
    · by_cases d : i = k
      · rw [if_pos d] at e2
        split at e2 <;> cases e2
      · rw [if_neg c] at e1
        rw [if_neg d] at e2
        exact E.inj j k a e1 e2
/-- a name holds an object alone now -/
theorem EnR.setO (E : EnR K H W A env σ) {i : Nat} (hi : i < env.length) {p : Addr} {s : Sl} (hp : p ∈ W) (ha : some p ∉ A) (h : OwR K H W p s) (hs : s.isD = false) : EnR K H W (A.set i (some p)) (env.set i (some s)) (σ.set i (some (.ref p))) := by
  have lA := E.lenA
  have lS := E.len
  refine ⟨by simp [E.len], by simp [E.lenA], fun j y e => ?_, fun j z e hz => ?_, fun j a e => ?_, fun j k a e1 e2 => ?_, E.trk⟩
  · rw [set_get] at e
    rw [set_get, set_get]
    by_cases c : i = j
    · subst c
      rw [if_pos rfl, if_pos hi] at e
      cases e
      cases hs
    · rw [if_neg c] at e
      rw [if_neg c, if_neg c]
      exact E.dat j y e
  · rw [set_get] at e
    rw [set_get, set_get]
    by_cases c : i = j
    · subst c
      rw [if_pos rfl, if_pos hi] at e
      cases e
      rw [if_pos rfl, if_pos (by omega), if_pos rfl, if_pos (by omega)]
      exact ⟨p, rfl, rfl, h⟩
    · rw [if_neg c] at e
      rw [if_neg c, if_neg c]
      exact E.own j z e hz
  · rw [set_get] at e
    rw [set_get]
    by_cases c : i = j
    · subst c
      rw [if_pos rfl, if_pos (by omega)] at e
      cases e
      rw [if_pos rfl, if_pos hi]
      exact ⟨hp, s, rfl, hs⟩
    · rw [if_neg c] at e
      rw [if_neg c]
      exact E.back j a e
  · rw [set_get] at e1 e2
    by_cases c : i = j
    · by_cases d : i = k
      · omega
      · rw [if_pos c, if_pos (by omega)] at e1
        cases e1
        rw [if_neg d] at e2
        exact absurd (List.mem_of_getElem? e2) ha
    · by_cases d : i = k
      · rw [if_pos d, if_pos (by omega)] at e2
        cases e2
        rw [if_neg c] at e1
        exact absurd (List.mem_of_getElem? e1) ha
      · rw [if_neg c] at e1
        rw [if_neg d] at e2
        exact E.inj j k a e1 e2
theorem mem_set {i : Nat} {x y : Option Addr} (h : x ∈ A.set i y) : x = y ∨ x ∈ A := by
  rcases List.mem_or_eq_of_mem_set h with q | q
  · exact .inr q
  · exact .inl q
theorem StR.setD (R : StR K B H W A env σ) {N : List Nat × List Nat} {i : Nat} (hB : OkN B N) (hN : i ∉ N.1) (hi : i < env.length) {v : V} {x : PyData} (h : Dp K (HW H W) v x) : StR K B H W (A.set i none) (env.set i (some (.d x))) (σ.set i (some v)) :=
  ⟨R.en.setD hi h, R.old, R.there, R.up, R.fr, fun a z => R.own a ((mem_set z).resolve_left (by simp)), fun j a e => by
    rw [set_get, if_neg (fun c => hN (by rw [c]; exact hB.n j a e))]
    exact R.par j a e, fun j a e m => by
    rw [set_get] at e
    split at e
    · split at e <;> cases e
    · exact R.mvs j a e m, fun q hq => ⟨(R.fz q hq).1, fun z => (R.fz q hq).2.1 ((mem_set z).resolve_left (Option.some_ne_none _)), (R.fz q hq).2.2⟩, R.seen⟩
theorem StR.setO (R : StR K B H W A env σ) {N : List Nat × List Nat} {i : Nat} (hB : OkN B N) (hN : i ∉ N.1) (hi : i < env.length) {p : Addr} {s : Sl} (hp : p ∈ W) (ha : some p ∉ A) (h0 : B.H0 p = none) (h : OwR K H W p s) (hs : s.isD = false) (hz : ∀ q, q ∈ B.Fz → q.1 ≠ p) :
    StR K B H W (A.set i (some p)) (env.set i (some s)) (σ.set i (some (.ref p))) :=
  ⟨R.en.setO hi hp ha h hs, R.old, R.there, R.up, R.fr, fun a z => by
    rcases mem_set z with q | q
    · cases q; exact .inr h0
    · exact R.own a q, fun j a e => by
    rw [set_get, if_neg (fun c => hN (by rw [c]; exact hB.n j a e))]
    exact R.par j a e, fun j a e m => by
    rw [set_get] at e
    split at e
    · split at e
      · cases e
        exact absurd h0 (hB.v p m)
      · cases e
    · exact R.mvs j a e m, fun q hq => ⟨(R.fz q hq).1, fun z => by
      rcases mem_set z with y | y
      · cases y; exact hz q hq rfl
      · exact (R.fz q hq).2.1 y, (R.fz q hq).2.2⟩, R.seen⟩
/-- less is held alone -/
theorem StR.sub (R : StR K B H W A env σ) (h : ∀ q, q ∈ W' → q ∈ W) (ha : AinW A W') (h0 : ∀ q, q ∈ B.W0 → q ∈ W') (hz : ∀ q, q ∈ B.Fz → q.1 ∈ W') : StR K B H W' A env σ :=
  ⟨R.en.sub h ha, R.old, R.there, h0, fun p z => R.fr p (h p z), R.own, R.par, R.mvs, fun q hq => ⟨(R.fz q hq).1, (R.fz q hq).2.1, hz q hq⟩, fun b o e => sub_same h b o (R.seen b o e)⟩
end

/-- as data, for keeping -/
def rvD : Rv → Option PyData
  | .d x => some x
  | .n (.l xs) => some (.list xs)
  | _ => none
theorem rvd_res {rv : Rv} {x : PyData} (h : rvD rv = some x) : resAll [rv] = some [x] := by
  cases rv with
  | d y => cases h; rfl
  | o i => cases h
  | n s => cases s with
    | l xs => cases h; rfl
    | _ => cases h
/-- a value at hand, let go as data -/
theorem RvR.keepD {K : PySem.W.Frag} {H H0 : Hp} {W W0 : List Addr} {A : List (Option Addr)} {rv : Rv} {v : V} {x : PyData} (R : RvR K H0 W0 H W A rv v) (S : Stp A H0 W0 H W) (h : rvD rv = some x) :
    ∃ W', (∀ q, q ∈ W' → q ∈ W) ∧ (∀ q, q ∈ W → q ∈ W0 → q ∈ W') ∧ Dp K (HW H W') v x := by
  obtain ⟨W', h1, h2, d⟩ := RvRs.keep (.cons (H1 := H) (W1 := W) R (fun p s e1 e2 => by
    subst e1
    obtain ⟨q, e3, _, m, _⟩ := R
    rw [e2] at e3; cases e3
    exact m) S .nil) (rvd_res h)
  cases d with
  | cons d _ => exact ⟨W', h1, h2, d⟩

/-! ### statements -/
def tdNext : TDS := fun D env => D.nx env
def tdSeq (t u : TDS) : TDS := fun D env => t { D with nx := u D } env
/-- name = e, what is new is held alone -/
def tdSet (i : Nat) (t : TD) : TDS := fun D env => t env fun rv env1 => match rv with
  | .d x => i < env1.length ∧ D.nx (env1.set i (some (.d x)))
  | .n s => (i < env1.length ∧ s.isD = false) ∧ D.nx (env1.set i (some s))
  | .o _ => False
/-- name = e, as data -/
def tdSetD (i : Nat) (t : TD) : TDS := fun D env => t env fun rv env1 => match rvD rv with
  | some x => i < env1.length ∧ D.nx (env1.set i (some (.d x)))
  | none => False
def tdDrop (t : TD) : TDS := fun D env => t env fun _ env1 => D.nx env1
def tdRet (N : List Nat × List Nat) (t : TD) : TDS := fun D env => t env fun rv env1 => match rv with
  | .d x => D.rt (.d x) env1
  | .n s => s.isD = false ∧ D.rt s env1
  | .o j => (j ∉ N.1 ∧ j ∉ N.2) ∧ match env1[j]? with
    | some (some s) => D.rt s env1
    | _ => False
def tdIfS (c : TDT) (t u : TDS) : TDS := fun D env => c env fun b env1 => if b = true then t D env1 else u D env1
/-- ahead of a statement: what a name holds alone is let go as data -/
def tdFrz (i : Nat) (t : TDS) : TDS := fun D env => match env[i]? with
  | some (some (.l xs)) => t D (env.set i (some (.d (.list xs))))
  | _ => False
section
variable {X : Cx} {N : List Nat × List Nat} {st : Stmt} {rest sts sts' : List Stmt} {t u : TDS} {e c : Expr} {te : TD} {tc : TDT} {pos pos' : Pos}
theorem psds_nil : PSDs X N [] tdNext := ⟨_, pss_nil, fun B D Dd σ H W A env hB R h O => O.nx σ H W A env R h⟩
theorem psds_cons (h1 : PSD X N st t) (h2 : PSDs X N rest u) : PSDs X N (st :: rest) (tdSeq t u) := by
  obtain ⟨t1, p1, q1⟩ := h1
  obtain ⟨t2, p2, q2⟩ := h2
  refine ⟨_, pss_cons p1 p2, fun B D Dd σ H W A env hB R h O => ?_⟩
  exact q1 B _ { Dd with nx := u Dd } σ H W A env hB R h ⟨fun σ H W A env R' h' => q2 B D Dd σ H W A env hB R' h' O, O.bk, O.ct, O.rt⟩
theorem psds_one (h1 : PSD X N st t) : PSDs X N [st] t := by
  obtain ⟨t1, p1, q1⟩ := h1
  exact ⟨_, pss_one p1, q1⟩
theorem psd_pass : PSD X N (.Pass pos) tdNext := ⟨_, ps_pass, fun B D Dd σ H W A env hB R h O => O.nx σ H W A env R h⟩
theorem psd_break : PSD X N (.Break pos) (fun D env => D.bk env) := ⟨_, ps_break, fun B D Dd σ H W A env hB R h O => O.bk σ H W A env R h⟩
theorem psd_continue : PSD X N (.Continue pos) (fun D env => D.ct env) := ⟨_, ps_continue, fun B D Dd σ H W A env hB R h O => O.ct σ H W A env R h⟩
theorem psd_never : PSD X N st (fun _ _ => False) := ⟨_, ps_never, fun B D Dd σ H W A env hB R h O => h⟩
theorem psd_if (h : PDT X c tc) (ha : PSDs X N sts t) (hb : PSDs X N sts' u) : PSD X N (.If c sts sts' pos) (tdIfS tc t u) := by
  obtain ⟨t1, p1, q1⟩ := h
  obtain ⟨t2, p2, q2⟩ := ha
  obtain ⟨t3, p3, q3⟩ := hb
  refine ⟨_, ps_if p1 p2 p3, fun B D Dd σ H W A env hB R h O => ?_⟩
  refine q1 σ H W A env _ _ R.en h fun b H1 W1 env1 E1 S1 h1 => ?_
  cases b with
  | true => exact q2 B D Dd σ H1 W1 A env1 hB (R.step S1 E1) h1 O
  | false => exact q3 B D Dd σ H1 W1 A env1 hB (R.step S1 E1) h1 O
theorem psd_expr (h : PD X e te) (hs : swapsWith e none pos.line X.env = pure false := by rfl) : PSD X N (.Expr e pos) (tdDrop te) := by
  obtain ⟨t1, p1, q1⟩ := h
  exact ⟨_, ps_expr p1 hs, fun B D Dd σ H W A env hB R h O => q1 σ H W A env _ _ R.en h fun v H1 W1 env1 rv E1 S1 R1 h1 => O.nx σ H1 W1 A env1 (R.step S1 E1) h1⟩
theorem back0 {K : PySem.W.Frag} {B : Bs} {H : Hp} {W : List Addr} {A : List (Option Addr)} {env : En} {σ : L2.St} (R : StR K B H W A env σ) {p : Addr} (h : H p = none) : B.H0 p = none := by
  cases e : B.H0 p with
  | none => rfl
  | some o => exact absurd h (R.there p (by rw [e]; simp))
theorem psd_ret (h : PD X e te) : PSD X N (.Return (some e) pos) (tdRet N te) := by
  obtain ⟨t1, p1, q1⟩ := h
  refine ⟨_, ps_ret p1, fun B D Dd σ H W A env hB R h O => ?_⟩
  refine q1 σ H W A env _ _ R.en h fun v H1 W1 env1 rv E1 S1 R1 h1 => ?_
  have R' := R.step S1 E1
  cases rv with
  | d x => exact O.rt σ H1 W1 A env1 v (.d x) R' R1 h1
  | n s =>
    obtain ⟨p, rfl, h2, h3, h4, h5⟩ := R1
    refine O.rt σ H1 W1 A env1 _ s R' ?_ h1.2
    cases s with
    | d x => cases h1.1
    | l _ => exact ⟨p, rfl, back0 R h2, h3, h5⟩
    | m _ => exact ⟨p, rfl, back0 R h2, h3, h5⟩
    | t _ => exact ⟨p, rfl, back0 R h2, h3, h5⟩
    | g _ _ => exact ⟨p, rfl, back0 R h2, h3, h5⟩
  | o j =>
    obtain ⟨a, ha, rfl⟩ := R1
    obtain ⟨hj, h1⟩ := h1
    split at h1
    · rename_i s hs
      obtain ⟨hw, s', hs', hd⟩ := E1.back j a ha
      rw [hs] at hs'; cases hs'
      obtain ⟨a', ha', _, ow⟩ := E1.own j s hs hd
      rw [ha] at ha'; cases ha'
      refine O.rt σ H1 W1 A env1 _ s R' ?_ h1
      have h0 : B.H0 a = none := by
        rcases R.own a (List.mem_of_getElem? ha) with (z | z) | z
        · obtain ⟨i, hi⟩ := List.mem_iff_getElem?.mp z
          have := E1.inj i j a (R.par i a hi) ha
          exact absurd (hB.n i a hi) (by rw [this]; exact hj.1)
        · exact absurd (hB.m j (R.mvs j a ha z)) hj.2
        · exact z
      cases s with
      | d x => cases hd
      | l _ => exact ⟨a, rfl, h0, hw, ow⟩
      | m _ => exact ⟨a, rfl, h0, hw, ow⟩
      | t _ => exact ⟨a, rfl, h0, hw, ow⟩
      | g _ _ => exact ⟨a, rfl, h0, hw, ow⟩
    · exact h1.elim
/-- name = e -/
theorem psd_set {i : Nat} {x : Str} (hN : X.N.Nodup) (hi : X.N[i]? = some x) (hx : Loc X.env.scope x) (he : PD X e te) (hM : i ∉ N.1 := by decide) (hs : swapsWith e (some (.Name x pos')) pos.line X.env = pure false := by rfl) (hf : X.fn x = true ∨ X.env.scope.names.lookup x = some .local := by first | exact .inl rfl | exact .inr rfl | assumption) :
    PSD X N (.Assign [.Name x pos'] e pos) (tdSet i te) := by
  obtain ⟨t1, p1, q1⟩ := he
  refine ⟨_, ps_set hN hi hx p1 hs hf, fun B D Dd σ H W A env hB R h O => ?_⟩
  refine q1 σ H W A env _ _ R.en h fun v H1 W1 env1 rv E1 S1 R1 h1 => ?_
  have R' := R.step S1 E1
  cases rv with
  | d x => exact O.nx _ H1 W1 _ _ (R'.setD hB hM h1.1 R1) h1.2
  | n s =>
    obtain ⟨p, rfl, h2, h3, h4, h5⟩ := R1
    exact O.nx _ H1 W1 _ _ (R'.setO hB hM h1.1.1 h3 (fun z => h4 (R.en.ain p z)) (back0 R h2) h5 h1.1.2 fun q hq e => by rw [← e, (R.fz q hq).1] at h2; cases h2) h1.2
  | o j => exact h1.elim
theorem set_d {te1 : TE} {B : Bs} {D : Ends} {Dd : DE} {σ : L2.St} {H : Hp} {W : List Addr} {A : List (Option Addr)} {env : En} {i : Nat}
    (q1 : ∀ (σ : L2.St) (H : Hp) (W : List Addr) (A : List (Option Addr)) (env : En) (Q : VK) (Qd : Rv → En → Prop), EnR X.K H W A env σ → te env Qd → (∀ v H' W' env' rv, EnR X.K H' W' A env' σ → Stp A H W H' W' → RvR X.K H W H' W' A rv v → Qd rv env' → Q v H') → te1 σ H Q)
    (hM : i ∉ N.1) (hB : OkN B N) (R : StR X.K B H W A env σ) (h : tdSetD i te Dd env) (O : Out X.K B D Dd) : tAsg te1 (gName i) D σ H := by
  refine q1 σ H W A env _ _ R.en h fun v H1 W1 env1 rv E1 S1 R1 h1 => ?_
  have R' := R.step S1 E1
  split at h1
  · rename_i x ex
    obtain ⟨W', s1, s2, d⟩ := R1.keepD S1 ex
    have R2 := R'.sub s1 (fun a ha => s2 a (E1.ain a ha) (R.en.ain a ha)) (fun q hq => s2 q (R'.up q hq) (R.up q hq)) fun q hq => s2 q.1 (R'.fz q hq).2.2 (R.fz q hq).2.2
    exact O.nx _ H1 W' _ _ (R2.setD hB hM h1.1 d) h1.2
  · exact h1.elim
theorem psd_setD {i : Nat} {x : Str} (hN : X.N.Nodup) (hi : X.N[i]? = some x) (hx : Loc X.env.scope x) (he : PD X e te) (hM : i ∉ N.1 := by decide) (hs : swapsWith e (some (.Name x pos')) pos.line X.env = pure false := by rfl) (hf : X.fn x = true ∨ X.env.scope.names.lookup x = some .local := by first | exact .inl rfl | exact .inr rfl | assumption) :
    PSD X N (.Assign [.Name x pos'] e pos) (tdSetD i te) := by
  obtain ⟨t1, p1, q1⟩ := he
  exact ⟨_, ps_set hN hi hx p1 hs hf, fun B D Dd σ H W A env hB R h O => set_d q1 hM hB R h O⟩
/-- what a name holds alone is let go -/
theorem StR.frz {K : PySem.W.Frag} {B : Bs} {H : Hp} {W : List Addr} {A : List (Option Addr)} {env : En} {σ : L2.St} {i : Nat} {xs : List PyData} (R : StR K B H W A env σ) (hB : OkN B N) (hM : i ∉ N.1) (hM2 : i ∉ N.2) (h : env[i]? = some (some (.l xs))) :
    ∃ W' A', StR K B H W' A' (env.set i (some (.d (.list xs)))) σ := by
  obtain ⟨a, ha, hv, vs, h1, h2⟩ := R.en.own i _ h rfl
  have hi : i < env.length := (List.getElem?_eq_some_iff.mp h).1
  have h0 : B.H0 a = none := by
    rcases R.own a (List.mem_of_getElem? ha) with (z | z) | z
    · obtain ⟨k, hk⟩ := List.mem_iff_getElem?.mp z
      have := R.en.inj k i a (R.par k a hk) ha
      exact absurd (hB.n k a hk) (by rw [this]; exact hM)
    · exact absurd (hB.m i (R.mvs i a ha z)) hM2
    · exact z
  refine ⟨rel W a, A.set i none, ?_⟩
  have hs : ∀ q, q ∈ rel W a → q ∈ W := fun q hq => (mem_rel.mp hq).1
  have d : Dp K (HW H (rel W a)) (.ref a) (.list xs) := .lst (.inl (.inl (hw_of (fun z => (mem_rel.mp z).2 rfl) h1))) (dpa_mono (sub_same hs) _ h2)
  have lA := R.en.lenA
  have eσ : σ.set i (some (.ref a)) = σ := by
    refine List.ext_getElem? fun j => ?_
    rw [set_get]
    by_cases c : i = j
    · subst c
      rw [if_pos rfl, if_pos (by rw [R.en.len]; exact hi), hv]
    · rw [if_neg c]
  -- first the name is told as any data, then less is held alone
  have E2 : EnR K H (rel W a) (A.set i none) (env.set i (some (.d (.list xs)))) σ := by
    refine ⟨by simp [R.en.len], by simp [R.en.lenA], fun j y e => ?_, fun j s e hz => ?_, fun j b e => ?_, fun j k b e1 e2 => ?_, fun p hp => R.en.trk p (hs p hp)⟩
    · rw [set_get] at e
      rw [set_get]
      by_cases c : i = j
      · subst c
        rw [if_pos rfl, if_pos hi] at e
        cases e
        rw [if_pos rfl, if_pos (by omega)]
        exact ⟨rfl, _, hv, d⟩
      · rw [if_neg c] at e
        rw [if_neg c]
        obtain ⟨x1, v, x2, x3⟩ := R.en.dat j y e
        exact ⟨x1, v, x2, dp_mono (sub_same hs) _ x3⟩
    · rw [set_get] at e
      rw [set_get]
      by_cases c : i = j
      · subst c
        rw [if_pos rfl, if_pos hi] at e
        cases e
        cases hz
      · rw [if_neg c] at e
        rw [if_neg c]
        obtain ⟨b, x1, x2, x3⟩ := R.en.own j s e hz
        exact ⟨b, x1, x2, x3.mono (sub_same hs) rfl⟩
    · rw [set_get] at e
      rw [set_get]
      by_cases c : i = j
      · rw [if_pos c] at e
        split at e <;> cases e
      · rw [if_neg c] at e
        rw [if_neg c]
        obtain ⟨x1, x2⟩ := R.en.back j b e
        exact ⟨mem_rel.mpr ⟨x1, fun z => c (R.en.inj i j b (by rw [z]; exact ha) e)⟩, x2⟩
    · rw [set_get] at e1 e2
      by_cases c : i = j
      · rw [if_pos c] at e1
        split at e1 <;> cases e1
      · by_cases d : i = k
        · rw [if_pos d] at e2
          split at e2 <;> cases e2
        · rw [if_neg c] at e1
          rw [if_neg d] at e2
          exact R.en.inj j k b e1 e2
  refine ⟨E2, R.old, R.there, fun p hp => mem_rel.mpr ⟨R.up p hp, fun z => hB.w p hp (by rw [z]; exact h0)⟩, fun p z => R.fr p (hs p z), fun b z => R.own b ((mem_set z).resolve_left (by simp)), fun j b e => ?_, fun j b e m => ?_, fun q hq => ⟨(R.fz q hq).1, fun z => (R.fz q hq).2.1 ((mem_set z).resolve_left (Option.some_ne_none _)), mem_rel.mpr ⟨(R.fz q hq).2.2, fun e => (R.fz q hq).2.1 (by rw [e]; exact List.mem_of_getElem? ha)⟩⟩, fun b o e => sub_same hs b o (R.seen b o e)⟩
  · rw [set_get, if_neg (fun c => hM (by rw [c]; exact hB.n j b e))]
    exact R.par j b e
  · rw [set_get] at e
    split at e
    · split at e <;> cases e
    · exact R.mvs j b e m
theorem psd_frz {i : Nat} (h : PSD X N st t) (hM : i ∉ N.1 := by decide) (hM2 : i ∉ N.2 := by decide) : PSD X N st (tdFrz i t) := by
  obtain ⟨t1, p1, q1⟩ := h
  refine ⟨_, p1, fun B D Dd σ H W A env hB R h O => ?_⟩
  unfold tdFrz at h
  split at h
  · rename_i xs hx
    obtain ⟨W', A', R'⟩ := R.frz hB hM hM2 hx
    exact q1 B D Dd σ H W' A' _ hB R' h O
  · exact h.elim
end
end DL

set_option Elab.async false
set_option linter.all false
set_option maxRecDepth 100000
set_option maxHeartbeats 4000000
set_option autoImplicit false
namespace DL
open PySem PySem.Spec L2

/-! ### what is walked -/
/-- the things that come, one a turn, while what G tells stands -/
def Walk (K : PySem.W.Frag) (J : It) (G : Hp) (xs : List PyData) : Prop := ∀ (H : Hp) (W : List Addr), Same G (HW H W) → (∀ p, p ∈ W → H p ≠ none) →
  ∀ i : Nat, (∀ x, xs[i]? = some x → J.go i H ∧ ∀ v H', J.yld i H v H' → Grow H W H' W ∧ Dp K (HW H' W) v x) ∧ (xs.length ≤ i → J.stop i H)
abbrev TDI := En → (List PyData → En → Prop) → Prop
def PDI (X : Cx) (tg iter : Expr) (t : TDI) : Prop := ∃ wi, PI X tg iter wi ∧ ∀ (σ : L2.St) (H : Hp) (W : List Addr) (A : List (Option Addr)) (env : En) (R : It → Hp → Prop) (Qd : List PyData → En → Prop), EnR X.K H W A env σ → t env Qd →
  (∀ J H' W' env' xs, EnR X.K H' W' A env' σ → Stp A H W H' W' → Walk X.K J (HW H' W') xs → Qd xs env' → R J H') → wi σ H R
def itemsOf : PyData → Option (List PyData)
  | .list xs => some xs
  | .tuple xs => some xs
  | .str z => some (z.cps.toList.map fun c => .str ⟨#[c]⟩)
  | _ => none
def tdIt (t : TD) : TDI := fun env Q => t env fun rv env1 => match rvD rv with
  | some y => match itemsOf y with
    | some xs => Q xs env1
    | none => False
  | none => False
def rngL (lo hi : Int) : List PyData := (List.range (hi - lo).toNat).map fun i => .int (lo + (i : Nat))
def tdRng1 (t : TDA) : TDI := fun env Q => t env fun rvs env1 => match resR env1 rvs with
  | some [.int j] => (-(2 ^ 62) ≤ j ∧ j < 2 ^ 62) ∧ Q (rngL 0 j) env1
  | _ => False
def tdRng2 (t : TDA) : TDI := fun env Q => t env fun rvs env1 => match resR env1 rvs with
  | some [.int i, .int j] => (-(2 ^ 62) ≤ i ∧ i < 2 ^ 62 ∧ -(2 ^ 62) ≤ j ∧ j < 2 ^ 62) ∧ Q (rngL i j) env1
  | _ => False
/-- enumerate(list) -/
def enumL (xs : List PyData) : List PyData := (List.range xs.length).zipWith (fun i x => .tuple [.int (i : Nat), x]) xs
def tdEnum (t : TDA) : TDI := fun env Q => t env fun rvs env1 => match resAll rvs with
  | some [.list xs] => Q (enumL xs) env1
  | _ => False
def tdZip (t : TDA) : TDI := fun env Q => t env fun rvs env1 => match resAll rvs with
  | some [.list xs, .list ys] => Q (xs.zipWith (fun x y => .tuple [x, y]) ys) env1
  | _ => False
section
variable {X : Cx} {tg e a b : Expr} {te : TD} {ta : TDA} {tl : TE} {pos p : Pos}
def iAny (K : PySem.W.Frag) (tl : TE) : TI := fun σ H R => tl σ H fun x H1 => (∃ a, x = .ref a ∧ (∃ xs, SqL K H1 a xs) ∧ R (Itl K a) H1) ∨ (∃ a, x = .ref a ∧ (∃ xs, SqT K H1 a xs) ∧ R (Itt K a) H1) ∨ ∃ z, x = .str z ∧ R (Its z) H1
theorem pi_any (hl : PE X e tl) : PI X tg e (iAny X.K tl) := by
  refine ⟨fun pins s σ H R I h => ?_⟩
  refine thn (hl.run pins s σ H _ I h) fun v s1 ⟨x, H1, I1, r1, q1⟩ => ?_
  have fp : ∀ b : Addr, b ∈ [s1.heap.objs.size] → FpOk X pins H1 b := fun b hb => by
    obtain rfl : b = s1.heap.objs.size := by simpa using hb
    exact I1.fpOk (Nat.le_refl _) (I1.hok.fresh (Nat.le_refl _))
  rcases q1 with ⟨a, rfl, ⟨xs, hq⟩, q⟩ | ⟨a, rfl, ⟨xs, hq⟩, q⟩ | ⟨z, rfl, q⟩
  · cases r1
    obtain ⟨its, rv, pl, _⟩ := I1.list hq
    exact wpAny_pyIter_list pl.isList ⟨_, [s1.heap.objs.size], _, _, H1, rfl, I1.kept (t' := s1.toks) (fun b o e => Heap.get?_push_of_some _ e), turn_list a _, ⟨_, Heap.get?_push_size _ rfl, rfl, rfl⟩, fp, q⟩
  · cases r1
    obtain ⟨its, rv, pl, _⟩ := I1.tuple hq
    exact wpAny_pyIter_tuple (show s1.heap.IsTuple a its.toArray from pl) ⟨_, [s1.heap.objs.size], _, _, H1, rfl, I1.kept (t' := s1.toks) (fun b o e => Heap.get?_push_of_some _ e), turn_tuple a _, ⟨_, Heap.get?_push_size _ rfl, rfl, rfl⟩, fp, q⟩
  · obtain ⟨t, rfl⟩ := r1
    cases ha : z.cps.all (· < 128)
    · exact wpAny_pyIter_wide ha (pi_one (tk := s1.toks) I1 _ (turn_str _ z t "str_iterator" (.inr rfl)) ⟨_, Heap.get?_push_size _ rfl, rfl, rfl⟩ q)
    · exact wpAny_pyIter_ascii ha (pi_one (tk := s1.toks) I1 _ (turn_str _ z t "str_ascii_iterator" (.inl rfl)) ⟨_, Heap.get?_push_size _ rfl, rfl, rfl⟩ q)
theorem sql_inj {K : PySem.W.Frag} {H : Hp} {a : Addr} {xs : List V} (h : SqL K H a xs) : True := True.intro
theorem walk_list {K : PySem.W.Frag} {G : Hp} {a : Addr} {vs : List V} {xs : List PyData} (s : SqL K G a vs) (d : DpAll K G vs xs) : Walk K (Itl K a) G xs := by
  intro H W e hw i
  have s' : SqL K H a vs := hw_same.seq (e.seq s)
  refine ⟨fun x hx => ?_, fun hl => ⟨vs, s', by rw [d.len]; exact hl⟩⟩
  obtain ⟨v, hv, dv⟩ := d.get hx
  refine ⟨⟨vs, v, s', hv⟩, fun u H' y => ?_⟩
  obtain ⟨rfl, y⟩ := y
  have := y vs s'
  rw [hv] at this; cases this
  exact ⟨.refl, dp_mono e _ dv⟩
theorem walk_tup {K : PySem.W.Frag} {G : Hp} {a : Addr} {vs : List V} {xs : List PyData} (s : SqT K G a vs) (d : DpAll K G vs xs) : Walk K (Itt K a) G xs := by
  intro H W e hw i
  have s' : SqT K H a vs := same_t hw_same (same_t e s)
  refine ⟨fun x hx => ?_, fun hl => ⟨vs, s', by rw [d.len]; exact hl⟩⟩
  obtain ⟨v, hv, dv⟩ := d.get hx
  refine ⟨⟨vs, v, s', hv⟩, fun u H' y => ?_⟩
  obtain ⟨rfl, y⟩ := y
  have := y vs s'
  rw [hv] at this; cases this
  exact ⟨.refl, dp_mono e _ dv⟩
theorem walk_str {K : PySem.W.Frag} {G : Hp} {z : Str} : Walk K (Its z) G (z.cps.toList.map fun c => .str ⟨#[c]⟩) := by
  intro H W e hw i
  refine ⟨fun x hx => ?_, fun hl => by
    show z.cps.size ≤ i
    simpa using hl⟩
  rw [List.getElem?_map, Array.getElem?_toList] at hx
  obtain ⟨c, hc, rfl⟩ := Option.map_eq_some_iff.mp hx
  refine ⟨(Array.getElem?_eq_some_iff.mp hc).1, fun u H' y => ?_⟩
  obtain ⟨rfl, c', hc', rfl⟩ := y
  rw [hc] at hc'; cases hc'
  exact ⟨.refl, .str _⟩
theorem walk_rng {K : PySem.W.Frag} {G : Hp} {lo hi : Int} : Walk K (Itr lo (hi - lo).toNat) G (rngL lo hi) := by
  intro H W e hw i
  unfold rngL
  refine ⟨fun x hx => ?_, fun hl => by
    rw [List.length_map, List.length_range] at hl
    exact hl⟩
  rw [List.getElem?_map] at hx
  obtain ⟨j, hj, rfl⟩ := Option.map_eq_some_iff.mp hx
  obtain ⟨h1, h2⟩ := List.getElem?_eq_some_iff.mp hj
  rw [List.getElem_range] at h2
  subst h2
  rw [List.length_range] at h1
  refine ⟨h1, fun u H' y => ?_⟩
  obtain ⟨rfl, rfl⟩ := y
  exact ⟨.refl, .int _⟩
theorem pdi_seq (h : PD X e te) : PDI X tg e (tdIt te) := by
  obtain ⟨t1, p1, q1⟩ := h
  refine ⟨_, pi_any p1, fun σ H W A env R Qd E ht k => ?_⟩
  refine q1 σ H W A env _ _ E ht fun v H1 W1 env1 rv E1 S1 R1 h1 => ?_
  split at h1
  · rename_i y ey
    split at h1
    · rename_i xs ex
      obtain ⟨W', s1, s2, d⟩ := R1.keepD S1 ey
      have E' := E1.sub s1 fun a ha => s2 a (E1.ain a ha) (E.ain a ha)
      have S' := S1.sub s1 s2
      cases y with
      | list ys =>
        cases ex
        cases d with
        | lst s r => exact .inl ⟨_, rfl, ⟨_, hw_same.seq s⟩, k _ H1 W' env1 _ E' S' (walk_list s r) h1⟩
      | tuple ys =>
        cases ex
        cases d with
        | tup s r => exact .inr (.inl ⟨_, rfl, ⟨_, same_t hw_same s⟩, k _ H1 W' env1 _ E' S' (walk_tup s r) h1⟩)
      | str z =>
        cases ex
        cases d
        exact .inr (.inr ⟨_, rfl, k _ H1 W' env1 _ E' S' walk_str h1⟩)
      | _ => cases ex
    · exact h1.elim
  · exact h1.elim
theorem pdi_rng1 (hg : Gl X "range") (hm : X.mg "range" = none) (ha : PDA X [a] ta) (hs : starEach [a] X.env = [(false, eval a X.env)] := by rfl) : PDI X tg (.Call (.Name "range" p) [a] [] pos) (tdRng1 ta) := by
  obtain ⟨t1, p1, q1⟩ := ha
  refine ⟨_, pi_range1 hg hm p1 hs, fun σ H W A env R Qd E ht k => ?_⟩
  refine q1 σ H W A env _ _ E ht fun vs H1 W1 env1 rvs E1 S1 R1 h1 => ?_
  split at h1
  · rename_i j ej
    obtain ⟨v, rfl, d⟩ := dqall1 (R1.read E1 ej)
    refine ⟨j, by rw [d.int], h1.1.1, h1.1.2, ?_⟩
    have w := k (Itr 0 (j - 0).toNat) H1 W1 env1 _ E1 S1 walk_rng h1.2
    rwa [show j - 0 = j by omega] at w
  · exact h1.elim
theorem pdi_rng2 (hg : Gl X "range") (hm : X.mg "range" = none) (ha : PDA X [a, b] ta) (hs : starEach [a, b] X.env = [(false, eval a X.env), (false, eval b X.env)] := by rfl) (hs2 : starEach [b] X.env = [(false, eval b X.env)] := by rfl) :
    PDI X tg (.Call (.Name "range" p) [a, b] [] pos) (tdRng2 ta) := by
  obtain ⟨t1, p1, q1⟩ := ha
  refine ⟨_, pi_range2 hg hm p1 hs hs2, fun σ H W A env R Qd E ht k => ?_⟩
  refine q1 σ H W A env _ _ E ht fun vs H1 W1 env1 rvs E1 S1 R1 h1 => ?_
  split at h1
  · rename_i i j ej
    obtain ⟨v, u, rfl, d, d2⟩ := dqall2 (R1.read E1 ej)
    exact ⟨i, j, by rw [d.int, d2.int], h1.1, k _ H1 W1 env1 _ E1 S1 walk_rng h1.2⟩
  · exact h1.elim
end

/-! ### targets -/
abbrev TDG := PyData → En → (En → Prop) → Prop
abbrev TDGs := List PyData → En → (En → Prop) → Prop
def PDG (X : Cx) (N : List Nat × List Nat) (tg : Expr) (t : TDG) : Prop := ∃ g, PG X tg g ∧ ∀ (B : Bs) (v : V) (x : PyData) (σ : L2.St) (H : Hp) (W : List Addr) (A : List (Option Addr)) (env : En) (Q : L2.St → Hp → Prop) (Qd : En → Prop), OkN B N → StR X.K B H W A env σ → Dp X.K (HW H W) v x → t x env Qd →
  (∀ σ' A' env', StR X.K B H W A' env' σ' → Qd env' → Q σ' H) → g v σ H Q
def PDGs (X : Cx) (N : List Nat × List Nat) (tgs : List Expr) (t : TDGs) : Prop := ∃ g, PGs X tgs g ∧ ∀ (B : Bs) (vs : List V) (xs : List PyData) (σ : L2.St) (H : Hp) (W : List Addr) (A : List (Option Addr)) (env : En) (Q : L2.St → Hp → Prop) (Qd : En → Prop), OkN B N → StR X.K B H W A env σ → DpAll X.K (HW H W) vs xs → t xs env Qd →
  (∀ σ' A' env', StR X.K B H W A' env' σ' → Qd env' → Q σ' H) → g vs σ H Q
def gdName (i : Nat) : TDG := fun x env Q => i < env.length ∧ Q (env.set i (some (.d x)))
def gdNil : TDGs := fun xs env Q => match xs with
  | [] => Q env
  | _ => False
def gdCons (t : TDG) (u : TDGs) : TDGs := fun xs env Q => match xs with
  | x :: r => t x env fun env1 => u r env1 Q
  | [] => False
def gdTup (n : Nat) (t : TDGs) : TDG := fun x env Q => match x with
  | .tuple xs => xs.length = n ∧ t xs env Q
  | _ => False
section
variable {X : Cx} {N : List Nat × List Nat} {tg e : Expr} {es : List Expr} {t : TDG} {u : TDGs} {pos : Pos}
theorem pdg_name {i : Nat} {x : Str} (hN : X.N.Nodup) (hi : X.N[i]? = some x) (hx : Loc X.env.scope x) (hM : i ∉ N.1 := by decide) (hf : X.fn x = true ∨ X.env.scope.names.lookup x = some .local := by first | exact .inl rfl | exact .inr rfl | assumption) : PDG X N (.Name x pos) (gdName i) :=
  ⟨_, pg_name hN hi hx hf, fun B v x σ H W A env Q Qd hB R d h k => k _ _ _ (R.setD hB hM h.1 d) h.2⟩
theorem pdgs_nil : PDGs X N [] gdNil := ⟨_, pgs_nil, fun B vs xs σ H W A env Q Qd hB R d h k => by
  cases xs with
  | nil => cases d; exact ⟨rfl, k _ _ _ R h⟩
  | cons _ _ => exact h.elim⟩
theorem pdgs_cons (h1 : PDG X N e t) (h2 : PDGs X N es u) (hs : (assignEach (e :: es) X.env).map (·.2) = assign e X.env :: (assignEach es X.env).map (·.2) := by rfl) : PDGs X N (e :: es) (gdCons t u) := by
  obtain ⟨g1, p1, q1⟩ := h1
  obtain ⟨g2, p2, q2⟩ := h2
  refine ⟨_, pgs_cons p1 p2 hs, fun B vs xs σ H W A env Q Qd hB R d h k => ?_⟩
  cases d with
  | nil => exact h.elim
  | cons d1 d2 =>
    refine ⟨_, _, rfl, q1 B _ _ σ H W A env _ _ hB R d1 h fun σ' A' env' R' h' => ?_⟩
    exact q2 B _ _ σ' H W A' env' Q Qd hB R' d2 h' k
theorem pdg_tup {k n : Nat} (hc : X.calm = true) (h : PDGs X N es u) (hn : (assignEach es X.env).length = n := by rfl) (hst : (assignEach es X.env).findIdx? (·.1) = none := by rfl) : PDG X N (.Tuple es k pos) (gdTup n u) := by
  obtain ⟨g, p, q⟩ := h
  refine ⟨_, pg_tup hc p hn hst, fun B v x σ H W A env Q Qd hB R d h k => ?_⟩
  cases x with
  | tuple xs =>
    cases d with
    | tup s r => exact ⟨_, _, rfl, same_t hw_same s, r.len.trans h.1, q B _ _ σ H W A env Q Qd hB R r h.2 k⟩
  | _ => exact h.elim
end
/-- target = e: data taken apart -/
def tdAsg (te : TD) (g : TDG) : TDS := fun D env => te env fun rv env1 => match rvD rv with
  | some x => g x env1 D.nx
  | none => False
section
variable {X : Cx} {N : List Nat × List Nat} {tg e iter c : Expr} {body : List Stmt} {te : TD} {g : TDG} {tc : TDT} {ti : TDI} {tb : TDS} {pos : Pos}
theorem psd_asg (he : PD X e te) (hg : PDG X N tg g) (hs : swapsWithSole [tg] e pos.line X.env = pure false := by rfl) (hw : swappedStores [tg] e X.env = pure none := by rfl)
    (h1 : (assignEach [tg] X.env).map (·.2) = [assign tg X.env] := by rfl) : PSD X N (.Assign [tg] e pos) (tdAsg te g) := by
  obtain ⟨t1, p1, q1⟩ := he
  obtain ⟨g1, p2, q2⟩ := hg
  refine ⟨_, ps_asg p1 p2 hs hw h1, fun B D Dd σ H W A env hB R h O => ?_⟩
  refine q1 σ H W A env _ _ R.en h fun v H1 W1 env1 rv E1 S1 R1 h1 => ?_
  have R' := R.step S1 E1
  split at h1
  · rename_i x ex
    obtain ⟨W', s1, s2, d⟩ := R1.keepD S1 ex
    have R2 := R'.sub s1 (fun a ha => s2 a (E1.ain a ha) (R.en.ain a ha)) (fun q hq => s2 q (R'.up q hq) (R.up q hq)) fun q hq => s2 q.1 (R'.fz q hq).2.2 (R.fz q hq).2.2
    exact q2 B v x σ H1 W' A env1 _ _ hB R2 d h1 fun σ' A' env' R3 h3 => O.nx σ' H1 W' A' env' R3 h3
  · exact h1.elim
/-- for: Pv what holds ahead of turn i -/
def tdFor (ti : TDI) (g : TDG) (tb : TDS) : TDS := fun D env => ti env fun xs env1 => ∃ Pv : Nat → En → Prop, Pv 0 env1 ∧
  (∀ i x env, xs[i]? = some x → Pv i env → g x env fun env2 => tb { D with nx := Pv (i + 1), ct := Pv (i + 1), bk := D.nx } env2) ∧ ∀ env, Pv xs.length env → D.nx env
theorem psd_for (hp : PassesOwn (model X.prog X.w) X.A X.env X.xe) (hc : X.calm = true) (hi : PDI X tg iter ti) (hg : PDG X N tg g) (hb : PSDs X N body tb) (hs : ∀ x, foldedSetIterable iter X.env x = pure x := by intro _; rfl) :
    PSD X N (.For tg iter body [] pos) (tdFor ti g tb) := by
  obtain ⟨w1, p1, q1⟩ := hi
  obtain ⟨g1, p2, q2⟩ := hg
  obtain ⟨b1, p3, q3⟩ := hb
  refine ⟨_, ps_for hp hc p1 p2 p3 hs, fun B D Dd σ H W A env hB R h O => ?_⟩
  refine q1 σ H W A env _ _ R.en h fun J H1 W1 env1 xs E1 S1 Wk h1 => ?_
  obtain ⟨Pv, h0, hs, hd⟩ := h1
  have R1 := R.step S1 E1
  -- in the loop what was seen at its start stands
  have up : ∀ {H W A env σ}, StR X.K { B with G := HW H1 W1 } H W A env σ → StR X.K B H W A env σ := fun {H W A env σ} r => ⟨r.en, r.old, r.there, r.up, r.fr, r.own, r.par, r.mvs, r.fz, fun b o e => r.seen b o (R1.seen b o e)⟩
  have hB' : OkN { B with G := HW H1 W1 } N := ⟨hB.n, hB.m, hB.w, hB.v⟩
  refine ⟨fun i m σ H => m = xs.length - i ∧ i ≤ xs.length ∧ ∃ W A env, StR X.K { B with G := HW H1 W1 } H W A env σ ∧ Pv i env,
    ⟨_, rfl, Nat.zero_le _, W1, A, env1, ⟨R1.en, R1.old, R1.there, R1.up, R1.fr, R1.own, R1.par, R1.mvs, R1.fz, Same.refl _⟩, h0⟩, ?_⟩
  rintro i m σ2 H2 ⟨rfl, hle, W2, A2, env2, R2, hP⟩
  obtain ⟨wg, ws⟩ := Wk H2 W2 R2.seen R2.en.trk i
  by_cases hlt : i < xs.length
  · obtain ⟨go, yl⟩ := wg xs[i] (by simp [hlt])
    refine .inr ⟨go, fun σ' H' => ∃ W A env, StR X.K { B with G := HW H1 W1 } H' W A env σ' ∧ Pv (i + 1) env, fun σ' H' q => ⟨xs.length - (i + 1), by omega, rfl, hlt, q⟩, fun v H3 y => ?_⟩
    obtain ⟨gr, dv⟩ := yl v H3 y
    have R3 := R2.step gr.stp (gr.en R2.en)
    refine q2 { B with G := HW H1 W1 } v xs[i] σ2 H3 W2 A2 env2 _ _ hB' R3 dv (hs i _ env2 (by simp [hlt]) hP) fun σ' A' env' R4 h4 => ?_
    exact q3 { B with G := HW H1 W1 } _ { Dd with nx := Pv (i + 1), ct := Pv (i + 1), bk := Dd.nx } σ' H3 W2 A' env' hB' R4 h4
      ⟨fun σ H W A env r q => ⟨W, A, env, r, q⟩, fun σ H W A env r q => O.nx σ H W A env (up r) q, fun σ H W A env r q => ⟨W, A, env, r, q⟩, fun σ H W A env v s r q q' => O.rt σ H W A env v s (up r) q q'⟩
  · have e : i = xs.length := by omega
    subst e
    exact .inl ⟨ws (Nat.le_refl _), O.nx σ2 H2 W2 A2 env2 (up R2) (hd env2 hP)⟩
/-- while: by a word and a measure -/
def tdWhile (c : TDT) (tb : TDS) : TDS := fun D env => ∃ (Pv : Nat → En → Prop), (∃ m, Pv m env) ∧ ∀ m env, Pv m env → c env fun b env1 => if b = true then tb { D with nx := fun env' => ∃ m', m' < m ∧ Pv m' env', ct := fun env' => ∃ m', m' < m ∧ Pv m' env', bk := D.nx } env1 else D.nx env1
theorem psd_while (hp : PassesOwn (model X.prog X.w) X.A X.env X.xe) (hc : PDT X c tc) (hb : PSDs X N body tb) : PSD X N (.While c body [] pos) (tdWhile tc tb) := by
  obtain ⟨t1, p1, q1⟩ := hc
  obtain ⟨b1, p3, q3⟩ := hb
  refine ⟨_, ps_while hp p1 p3, fun B D Dd σ H W A env hB R h O => ?_⟩
  obtain ⟨Pv, ⟨m0, h0⟩, ht⟩ := h
  refine ⟨fun m σ H => ∃ W A env, StR X.K B H W A env σ ∧ Pv m env, ⟨m0, W, A, env, R, h0⟩, ?_⟩
  rintro m σ2 H2 ⟨W2, A2, env2, R2, hP⟩
  refine q1 σ2 H2 W2 A2 env2 _ _ R2.en (ht m env2 hP) fun b H3 W3 env3 E3 S3 h3 => ?_
  have R3 := R2.step S3 E3
  cases b with
  | false => exact O.nx σ2 H3 W3 A2 env3 R3 h3
  | true =>
    refine ⟨fun σ' H' => ∃ m', m' < m ∧ ∃ W A env, StR X.K B H' W A env σ' ∧ Pv m' env, fun σ' H' ⟨m', l, q⟩ => ⟨m', l, q⟩, ?_⟩
    exact q3 B _ { Dd with nx := fun env' => ∃ m', m' < m ∧ Pv m' env', ct := fun env' => ∃ m', m' < m ∧ Pv m' env', bk := Dd.nx } σ2 H3 W3 A2 env3 hB R3 h3
      ⟨fun σ H W A env r ⟨m', l, q⟩ => ⟨m', l, W, A, env, r, q⟩, fun σ H W A env r q => O.nx σ H W A env r q, fun σ H W A env r ⟨m', l, q⟩ => ⟨m', l, W, A, env, r, q⟩, fun σ H W A env v s r q q' => O.rt σ H W A env v s r q q'⟩
end
end DL

set_option Elab.async false
set_option linter.all false
set_option maxRecDepth 100000
set_option maxHeartbeats 4000000
set_option autoImplicit false
namespace DL
open PySem PySem.Spec L2

/-! ### what is held alone is changed -/
section
variable {K : PySem.W.Frag} {H : Hp} {W : List Addr} {A : List (Option Addr)} {env : En} {σ : L2.St} {a : Addr} {o : HO} {i : Nat}
theorem hw_upd (h : a ∈ W) : HW (upd H a o) W = HW H W := by
  funext b
  unfold HW
  by_cases e : b ∈ W
  · rw [if_pos e, if_pos e]
  · rw [if_neg e, if_neg e, upd_ne fun z => e (by rw [z]; exact h)]
theorem EnR.write (E : EnR K H W A env σ) (ha : A[i]? = some (some a)) {s : Sl} (hs : s.isD = false) (h : OwR K (upd H a o) W a s) : EnR K (upd H a o) W A (env.set i (some s)) σ := by
  obtain ⟨hw, s0, hs0, hd0⟩ := E.back i a ha
  have hi : i < env.length := (List.getElem?_eq_some_iff.mp hs0).1
  obtain ⟨a', ha', hv, ow0⟩ := E.own i s0 hs0 hd0
  rw [ha] at ha'; cases ha'
  refine ⟨by simp [E.len], by simp [E.lenA], fun j x e => ?_, fun j z e hz => ?_, fun j b e => ?_, E.inj, fun p hp => ?_⟩
  · rw [set_get] at e
    by_cases c : i = j
    · subst c
      rw [if_pos rfl, if_pos hi] at e
      cases e
      cases hs
    · rw [if_neg c] at e
      obtain ⟨x1, v, x2, x3⟩ := E.dat j x e
      exact ⟨x1, v, x2, by rw [hw_upd hw]; exact x3⟩
  · rw [set_get] at e
    by_cases c : i = j
    · subst c
      rw [if_pos rfl, if_pos hi] at e
      cases e
      exact ⟨a, ha, hv, h⟩
    · rw [if_neg c] at e
      obtain ⟨b, x1, x2, x3⟩ := E.own j z e hz
      refine ⟨b, x1, x2, x3.mono (by rw [hw_upd hw]; exact Same.refl _) (upd_ne fun q => c (E.inj i j a ha (by rw [← q]; exact x1)))⟩
  · obtain ⟨x1, z, x2, x3⟩ := E.back j b e
    refine ⟨x1, ?_⟩
    rw [set_get]
    by_cases c : i = j
    · subst c
      rw [if_pos rfl, if_pos hi]
      exact ⟨s, rfl, hs⟩
    · rw [if_neg c]
      exact ⟨z, x2, x3⟩
  · by_cases c : p = a
    · rw [c, upd_same]; simp
    · rw [upd_ne c]; exact E.trk p hp
theorem stp_write (h : some a ∈ A) : Stp A H W (upd H a o) W := ⟨fun b u e n => by rw [upd_ne fun z => n (by rw [z]; exact h)]; exact e, fun b e => by
  by_cases c : b = a
  · rw [c, upd_same]; simp
  · rw [upd_ne c]; exact e, fun _ h => h, fun _ h => .inl h⟩
theorem EnR.lst (E : EnR K H W A env σ) {xs : List PyData} (h : env[i]? = some (some (.l xs))) : ∃ a vs, A[i]? = some (some a) ∧ a ∈ W ∧ σ[i]? = some (some (.ref a)) ∧ H a = some (.lst vs) ∧ DpAll K (HW H W) vs xs := by
  obtain ⟨a, ha, hv, vs, h1, h2⟩ := E.own i _ h rfl
  exact ⟨a, vs, ha, (E.back i a ha).1, hv, h1, h2⟩
end
def rdIadd : PyData → PyData → (Rv → Prop) → Prop
  | .int i, .int j, Q => Q (.d (.int (i + j)))
  | _, _, _ => False
/-- a method of a list that a name holds alone: its items and the arguments; the answer is data, the items behind it -/
def MD (X : Cx) (id : String) (r : List PyData → List PyData → (PyData → List PyData → Prop) → Prop) : Prop :=
  ∃ rV, MtR X id rV ∧ ∀ (H : Hp) (W : List Addr) (a : Addr) (vs ws : List V) (xs ys : List PyData) (Q : VK) (Qd : PyData → List PyData → Prop), H a = some (.lst vs) → DpAll X.K (HW H W) vs xs → DpAll X.K (HW H W) ws ys → r xs ys Qd →
    (∀ v z vs' xs', Dp X.K (HW H W) v z → DpAll X.K (HW H W) vs' xs' → Qd z xs' → Q v (upd H a (.lst vs'))) → rV (.ref a) ws H Q
def tdM (i : Nat) (r : List PyData → List PyData → (PyData → List PyData → Prop) → Prop) (t : TDA) : TD := fun env Q => match env[i]? with
  | some (some (.l _)) => t env fun rvs env1 => match env1[i]?, resAll rvs with
    | some (some (.l xs)), some ys => r xs ys fun z xs' => Q (.d z) (env1.set i (some (.l xs')))
    | _, _ => False
  | _ => False
def rdAppend : List PyData → List PyData → (PyData → List PyData → Prop) → Prop
  | xs, [y], Q => xs.length < sizeLine ∧ Q .none (xs ++ [y])
  | _, _, _ => False
def rdPop : List PyData → List PyData → (PyData → List PyData → Prop) → Prop
  | xs, [], Q => match xs[xs.length - 1]? with
    | some y => Q y xs.dropLast
    | none => False
  | _, _, _ => False
def rdPopAt : List PyData → List PyData → (PyData → List PyData → Prop) → Prop
  | xs, [.int i], Q => (-(2 ^ 63) ≤ i ∧ i < 2 ^ 63) ∧ match seqIndex? i xs.length with
    | some k => match xs[k]? with
      | some y => Q y (xs.eraseIdx k)
      | none => False
    | none => False
  | _, _, _ => False
section
variable {X : Cx} {N : List Nat × List Nat} {e o f idx value : Expr} {es : List Expr} {te tk : TD} {ta : TDA} {pos pos' apos cpos tpos : Pos} {i : Nat} {x name : Str} {id : String} {r : List PyData → List PyData → (PyData → List PyData → Prop) → Prop}
theorem md_append : MD X "list.append" rdAppend := by
  refine ⟨_, mt_append, fun H W a vs ws xs ys Q Qd h d dw q k => ?_⟩
  unfold rdAppend at q
  split at q
  · cases dw with
    | cons d1 d2 =>
      cases d2
      exact ⟨a, vs, _, rfl, rfl, h, by rw [d.len]; exact q.1, k .non .none _ _ .non (d.app (.cons d1 .nil)) q.2⟩
  · exact q.elim
theorem DpAll.dl {K : PySem.W.Frag} {H : Hp} {vs : List V} {xs : List PyData} (d : DpAll K H vs xs) : DpAll K H vs.dropLast xs.dropLast := by
  rw [List.dropLast_eq_take, List.dropLast_eq_take, d.len]
  exact d.take _
theorem md_pop : MD X "list.pop" rdPop := by
  refine ⟨_, mt_pop, fun H W a vs ws xs ys Q Qd h d dw q k => ?_⟩
  unfold rdPop at q
  split at q
  · cases dw
    split at q
    · rename_i y ey
      obtain ⟨v, hv, dv⟩ := d.get ey
      exact ⟨a, vs, v, rfl, rfl, h, by rw [d.len]; exact hv, k v y _ _ dv (DpAll.dl d) q⟩
    · exact q.elim
  · exact q.elim
theorem md_popAt : MD X "list.pop" rdPopAt := by
  refine ⟨_, mt_popAt, fun H W a vs ws xs ys Q Qd h d dw q k => ?_⟩
  unfold rdPopAt at q
  split at q
  · cases dw with
    | cons d1 d2 =>
      cases d2
      cases d1
      obtain ⟨hb, q⟩ := q
      split at q
      · rename_i k' ek
        split at q
        · rename_i y ey
          obtain ⟨v, hv, dv⟩ := d.get ey
          exact ⟨a, vs, _, k', v, rfl, rfl, h, hb.1, hb.2, by rw [d.len]; exact ek, hv, k v y _ _ dv (d.erase _) q⟩
        · exact q.elim
      · exact q.elim
  · exact q.elim
theorem m_end {a : Addr} {H0 H : Hp} {W0 W : List Addr} {A : List (Option Addr)} {env : En} {σ : L2.St} {vs : List V} {xs : List PyData} {Qd : Rv → En → Prop} {Q : VK} {v : V} {z : PyData} (E : EnR X.K H W A env σ) (S : Stp A H0 W0 H W) (ha : A[i]? = some (some a)) (hw : a ∈ W)
    (k : ∀ v H' W' env' rv, EnR X.K H' W' A env' σ → Stp A H0 W0 H' W' → RvR X.K H0 W0 H' W' A rv v → Qd rv env' → Q v H') (dv : Dp X.K (HW H W) v z) (d : DpAll X.K (HW H W) vs xs) (q : Qd (.d z) (env.set i (some (.l xs)))) : Q v (upd H a (.lst vs)) := by
  refine k v _ W _ (.d z) (E.write (s := .l xs) ha rfl ⟨vs, upd_same, by rw [hw_upd hw]; exact d⟩) (S.trans (stp_write (List.mem_of_getElem? ha))) ?_ q
  show Dp X.K (HW (upd H a (.lst vs)) W) v z
  rw [hw_upd hw]
  exact dv
/-- x.m(e, ..), x a name of the def -/
theorem pd_m (pa : PlainAttrs "list") (slot : Slot "list" name id) (hty : typeOf (.builtin id) = pure (.type "method_descriptor")) (hm : MD X id r) (ho : PE X o (tVar i)) (ha : PDA X (e :: es) ta)
    (hbase : attributeBase o name X.env (eval o X.env) = eval o X.env := by rfl)
    (hfew : ((backTo cpos (starEach (e :: es) X.env)).all (fun x => !x.1) && (backToKw cpos (keywordEach [] X.env)).all (fun x => x.1.isSome)
      && decide ((e :: es).length + ([] : List Keyword).length + (if ([] : List Keyword).isEmpty then 0 else 1) < 30)) = true := by rfl)
    (hline : (apos.endLine == cpos.line) = true := by rfl) (hs : starEach (e :: es) X.env = (false, eval e X.env) :: starEach es X.env := by rfl) (hplain : (backTo cpos (starEach es X.env)).any (·.1) = false := by rfl) :
    PD X (.Call (.Attribute o name apos) (e :: es) [] cpos) (tdM i r ta) := by
  obtain ⟨rV, h1, h2⟩ := hm
  obtain ⟨t1, p1, q1⟩ := ha
  refine ⟨_, pe_bm pa slot hty h1 ho p1 hbase hfew hline hs hplain, fun σ H W A env Q Qd E ht k => ?_⟩
  unfold tdM at ht
  split at ht
  · rename_i xs0 hx0
    obtain ⟨a, vs0, ha, hw, hv, h3, h4⟩ := E.lst hx0
    refine ⟨.ref a, hv, .inl ⟨rfl, vs0, SqL.of h3⟩, ?_⟩
    refine q1 σ H W A env _ _ E ht fun ws H1 W1 env1 rvs E1 S1 R1 q2 => ?_
    split at q2
    · rename_i xs ys hx ey
      obtain ⟨W', s1, s2, dw⟩ := R1.keep ey
      have E' := E1.sub s1 fun a ha => s2 a (E1.ain a ha) (E.ain a ha)
      have S' := S1.sub s1 s2
      obtain ⟨a', vs, ha', hw', hv', h5, h6⟩ := E'.lst hx
      rw [ha] at ha'; cases ha'
      exact h2 H1 W' a vs ws xs ys Q _ h5 h6 dw q2 fun v z vs' xs' dv d' q' => m_end E' S' ha hw' k dv d' q'
    · exact q2.elim
  · exact ht.elim
theorem pd_m0 (pa : PlainAttrs "list") (slot : Slot "list" name id) (hty : typeOf (.builtin id) = pure (.type "method_descriptor")) (hm : MD X id r) (ho : PE X o (tVar i))
    (hbase : attributeBase o name X.env (eval o X.env) = eval o X.env := by rfl) (hline : (apos.endLine == cpos.line) = true := by rfl) : PD X (.Call (.Attribute o name apos) [] [] cpos) (tdM i r tdNil) := by
  obtain ⟨rV, h1, h2⟩ := hm
  refine ⟨_, pe_bm0 pa slot hty h1 ho hbase hline, fun σ H W A env Q Qd E ht k => ?_⟩
  unfold tdM at ht
  split at ht
  · rename_i xs0 hx0
    obtain ⟨a, vs0, ha, hw, hv, h3, h4⟩ := E.lst hx0
    refine ⟨.ref a, hv, .inl ⟨rfl, vs0, SqL.of h3⟩, ?_⟩
    have q2 : r xs0 [] fun z xs' => Qd (.d z) (env.set i (some (.l xs'))) := by
      have q2 := ht
      simp only [tdNil, hx0, resAll] at q2
      exact q2
    exact h2 H W a vs0 [] xs0 [] Q _ h3 h4 .nil q2 fun v z vs' xs' dv d' q' => m_end E .refl ha hw k dv d' q'
  · exact ht.elim
/-- x.remove(e), ints, e is there -/
def rdRemove : List PyData → List PyData → (PyData → List PyData → Prop) → Prop
  | xs, [.int n], Q => ∃ ns : List Int, xs = ns.map PyData.int ∧ n ∈ ns ∧ Q .none ((ns.erase n).map PyData.int)
  | _, _, _ => False
theorem pd_remove (hc : X.calm = true) (ho : PE X o (tVar i)) (ha : PD X e te) (hbase : attributeBase o "remove" X.env (eval o X.env) = eval o X.env := by rfl)
    (hfew : ((backTo cpos (starEach [e] X.env)).all (fun x => !x.1) && (backToKw cpos (keywordEach [] X.env)).all (fun x => x.1.isSome)
      && decide (([e] : List Expr).length + ([] : List Keyword).length + (if ([] : List Keyword).isEmpty then 0 else 1) < 30)) = true := by rfl)
    (hline : (apos.endLine == cpos.line) = true := by rfl) (hs : starEach [e] X.env = (false, eval e X.env) :: starEach [] X.env := by rfl) (hplain : (backTo cpos (starEach [] X.env)).any (·.1) = false := by rfl) :
    PD X (.Call (.Attribute o "remove" apos) [e] [] cpos) (tdM i rdRemove (tdCons te tdNil)) := by
  obtain ⟨t1, p1, q1⟩ := ha
  refine ⟨_, pe_remX hc (takes0 (X := X)) ho p1 hbase hfew hline hs hplain, fun σ H W A env Q Qd E ht k => ?_⟩
  unfold tdM at ht
  split at ht
  · rename_i xs0 hx0
    obtain ⟨a, vs0, ha, hw, hv, h3, h4⟩ := E.lst hx0
    refine ⟨.ref a, hv, .inl ⟨rfl, vs0, SqL.of h3⟩, ?_⟩
    refine q1 σ H W A env _ _ E ht fun v H1 W1 env1 rv E1 S1 R1 q2 => ?_
    simp only [tdNil] at q2
    split at q2
    · rename_i xs ys hx ey
      unfold rdRemove at q2
      split at q2
      · rename_i n
        have er : rv = .d (.int n) := by
          cases rv with
          | d y => simp [resAll] at ey; rw [ey]
          | o j => cases ey
          | n s => cases s <;> simp [resAll] at ey
        subst er
        obtain ⟨ns, rfl, hn, q2⟩ := q2
        obtain ⟨a', vs, ha', hw', hv', h5, h6⟩ := E1.lst hx
        rw [ha] at ha'; cases ha'
        rw [h6.ints] at h5
        refine ⟨a, ns, n, rfl, Dq.int (.of_dp R1), h5, fun _ => ?_, fun z => absurd hn z⟩
        exact m_end E1 S1 ha hw' k .non (.of_ints (ns.erase n)) q2
      · exact q2.elim
    · exact q2.elim
  · exact ht.elim
/-- x[k] = e, x a name of the def -/
def tdSetIx (i : Nat) (tk te : TD) : TDS := fun D env => te env fun rv env1 => match env1[i]? with
  | some (some (.l _)) => tk env1 fun rk env2 => match env2[i]?, res env2 rk, rvD rv with
    | some (some (.l xs)), some (.int k), some x => match ixN xs.length k with
      | some j => D.nx (env2.set i (some (.l (xs.set j x))))
      | none => False
    | _, _, _ => False
  | _ => False
theorem psd_setIx {N : List Nat × List Nat} (ho : PE X o (tVar i)) (hk : PD X idx tk) (he : PD X e te) (ha : ∀ v, assign (.Subscript o idx tpos) X.env v = (do
      let ov ← holding [v] (eval o X.env)
      let iv ← holding [v, ov] (eval idx X.env)
      standAt tpos
      holding [v, ov, iv] (setItem ov iv v)
      release [v, ov, iv] []) := by intro _; rfl)
    (hs : swapsWithSole [.Subscript o idx tpos] e pos.line X.env = pure false := by rfl) (hw : swappedStores [.Subscript o idx tpos] e X.env = pure none := by rfl)
    (h1 : (assignEach [.Subscript o idx tpos] X.env).map (·.2) = [assign (.Subscript o idx tpos) X.env] := by rfl) : PSD X N (.Assign [.Subscript o idx tpos] e pos) (tdSetIx i tk te) := by
  obtain ⟨t1, p1, q1⟩ := he
  obtain ⟨t2, p2, q2⟩ := hk
  refine ⟨_, ps_asg p1 (pg_sub ho p2 set_list ha) hs hw h1, fun B D Dd σ H W A env hB R h O => ?_⟩
  refine q1 σ H W A env _ _ R.en h fun v H1 W1 env1 rv E1 S1 R1 h1 => ?_
  split at h1
  · rename_i xs0 hx0
    obtain ⟨a, vs0, ha, hwa, hv, h3, h4⟩ := E1.lst hx0
    refine ⟨.ref a, hv, ?_⟩
    refine q2 σ H1 W1 A env1 _ _ E1 h1 fun u H2 W2 env2 rk E2 S2 R2 h2 => ?_
    split at h2
    · rename_i xs k x hx ek ex
      split at h2
      · rename_i j ej
        obtain ⟨W', s1, s2, d⟩ := (R1.step S2 E1.ain R.en.ain).keepD (S1.trans S2) ex
        have E' := E2.sub s1 fun a ha => s2 a (E2.ain a ha) (R.en.ain a ha)
        have R' := (R.step (S1.trans S2) E2).sub s1 (fun a ha => s2 a (E2.ain a ha) (R.en.ain a ha)) (fun q hq => s2 q ((S1.trans S2).up q (R.up q hq)) (R.up q hq)) fun q hq => s2 q.1 ((S1.trans S2).up _ (R.fz q hq).2.2) (R.fz q hq).2.2
        obtain ⟨a', vs, ha', hw', hv', h5, h6⟩ := E'.lst hx
        rw [ha] at ha'; cases ha'
        refine ⟨a, vs, k, j, rfl, (Dq.of_rv E2 R2 ek).int, h5, by rw [h6.len]; exact ej, ?_⟩
        have E3 : EnR X.K (upd H2 a (.lst (vs.set j v))) W' A (env2.set i (some (.l (xs.set j x)))) σ := E'.write (s := .l (xs.set j x)) ha rfl ⟨_, upd_same, by rw [hw_upd hw']; exact h6.set d j⟩
        exact O.nx σ _ W' A _ (R'.step (stp_write (List.mem_of_getElem? ha)) E3) h2
      · exact h2.elim
    · exact h2.elim
  · exact h1.elim
/-- x op= e, data -/
def tdAug (i : Nat) (r : PyData → PyData → (Rv → Prop) → Prop) (t : TD) : TDS := fun D env => match env[i]? with
  | some (some (.d _)) => t env fun rv env1 => match env1[i]?, res env1 rv with
    | some (some (.d a)), some b => r a b fun z => match rvD z with
      | some y => i < env1.length ∧ D.nx (env1.set i (some (.d y)))
      | none => False
    | _, _ => False
  | _ => False
theorem psd_aug {N : List Nat × List Nat} {op : Operator} {r : PyData → PyData → (Rv → Prop) → Prop} (hN : X.N.Nodup) (hi : X.N[i]? = some x) (hx : Loc X.env.scope x) (he : PD X e te) (ho : OpD X (inplaceOp op) r) (hM : i ∉ N.1 := by decide) (hf : X.fn x = true ∨ X.env.scope.names.lookup x = some .local := by first | exact .inl rfl | exact .inr rfl | assumption) :
    PSD X N (.AugAssign (.Name x pos') op e pos) (tdAug i r te) := by
  obtain ⟨rV, o1, o2⟩ := ho
  obtain ⟨t1, p1, q1⟩ := he
  refine ⟨_, ps_aug hN hi hx p1 (fun pins s σ H x y v u Q I rx ry h => o1 pins s σ H x y v u Q I rx ry h) hf, fun B D Dd σ H W A env hB R h O => ?_⟩
  unfold tdAug at h
  split at h
  · rename_i a0 ha0
    obtain ⟨_, v0, hv0, d0⟩ := R.en.dat i a0 ha0
    refine ⟨v0, hv0, ?_⟩
    refine q1 σ H W A env _ _ R.en h fun v H1 W1 env1 rv E1 S1 R1 h1 => ?_
    split at h1
    · rename_i a b ea eb
      obtain ⟨_, v1, hv1, d1⟩ := E1.dat i a ea
      rw [hv0] at hv1; cases hv1
      have R' := R.step S1 E1
      refine o2 H1 W1 v0 v a b _ _ E1.trk (.of_dp d1) (.of_rv E1 R1 eb) h1 fun u H2 W2 z g Rz hz => ?_
      split at hz
      · rename_i y ey
        have E2 := g.en E1
        have R2 := R'.step g.stp E2
        have Rz' : RvR X.K H1 W1 H2 W2 A z u := by
          cases z with
          | d x => exact Rz
          | o i => obtain ⟨a, ha, _⟩ := Rz; cases i <;> simp at ha
          | n s => exact Rz
        obtain ⟨W', s1, s2, d⟩ := Rz'.keepD g.stp ey
        have R3 := R2.sub s1 (fun a ha => s2 a (E2.ain a ha) (E1.ain a ha)) (fun q hq => s2 q (R2.up q hq) (R'.up q hq)) fun q hq => s2 q.1 (R2.fz q hq).2.2 (R'.fz q hq).2.2
        exact O.nx _ H2 W' _ _ (R3.setD hB hM hz.1 d) hz.2
      · exact hz.elim
    · exact h1.elim
  · exact h.elim
theorem od_iadd : OpD X (inplaceOp .Add) rdIadd := by
  refine ⟨_, ip_add, fun H W x y a b Q Qd hw ra rb q k => ?_⟩
  unfold rdIadd at q
  split at q
  · exact ⟨_, _, ra.int, rb.int, k.int q⟩
  · exact q.elim
end
end DL

set_option Elab.async false
set_option linter.all false
set_option maxRecDepth 100000
set_option maxHeartbeats 4000000
set_option autoImplicit false
namespace DL
open PySem PySem.Spec L2

/-! ### what a def promises: its arguments, what it hands back, what the lists hold that it was lent -/
abbrev FD := List Sl → (Sl → (Nat → Option Sl) → Prop) → Prop
/-- what is handed back, for the caller -/
def RtC (K : PySem.W.Frag) (H H' : Hp) (W' : List Addr) : Sl → V → Prop
  | .d x, v => Dp K (HW H' W') v x
  | s, v => ∃ p, v = .ref p ∧ H p = none ∧ p ∈ W' ∧ OwR K H' W' p s
structure Back (K : PySem.W.Frag) (N : List Nat × List Nat) (H : Hp) (W : List Addr) (A : List (Option Addr)) (H' : Hp) (W' : List Addr) (os : Nat → Option Sl) : Prop where
  old : ∀ b o, H b = some o → some b ∉ A → H' b = some o
  there : ∀ b, H b ≠ none → H' b ≠ none
  up : ∀ p, p ∈ W → p ∈ W'
  fr : ∀ p, p ∈ W' → p ∈ W ∨ (H p = none ∧ H' p ≠ none)
  io : ∀ i, i ∈ N.1 → ∀ a : Addr, A[i]? = some (some a) → ∃ s : Sl, os i = some s ∧ s.isD = false ∧ OwR K H' W' a s
def spD (K : PySem.W.Frag) (N : List Nat × List Nat) (n : Nat) (f : FD) : Sp := fun vs H Q _ => ∃ (W : List Addr) (A : List (Option Addr)) (args : List Sl) (Q0 : Sl → (Nat → Option Sl) → Prop), args.length = n ∧ EnR K H W A (args.map some) (vs.map some) ∧ (∀ (i : Nat) (a : Addr), A[i]? = some (some a) → i ∈ N.1 ∨ i ∈ N.2) ∧
  f args Q0 ∧ ∀ s os, Q0 s os → ∀ v H' W', Back K N H W A H' W' os → RtC K H H' W' s v → Q v H'
theorem spD_len {K : PySem.W.Frag} {N : List Nat × List Nat} {n : Nat} {f : FD} {vs : List V} {H : Hp} {Q : VK} {E : XK} (h : spD K N n f vs H Q E) : vs.length = n := by
  obtain ⟨W, A, args, Q0, hl, hE, _⟩ := h
  have := hE.len
  rw [List.length_map, List.length_map] at this
  omega
def osOf (env : En) : Nat → Option Sl := fun i => match env[i]? with
  | some (some s) => some s
  | _ => none
def startE (n : Nat) (args : List Sl) : En := args.map some ++ List.replicate (n - args.length) none
def mask (A : List (Option Addr)) (N : List Nat) : List (Option Addr) := A.mapIdx fun i a => if i ∈ N then a else none
theorem mask_get {A : List (Option Addr)} {N : List Nat} {i : Nat} {a : Addr} : (mask A N)[i]? = some (some a) ↔ A[i]? = some (some a) ∧ i ∈ N := by
  unfold mask
  rw [List.getElem?_mapIdx]
  cases e : A[i]? with
  | none => simp
  | some x =>
    by_cases c : i ∈ N
    · simp [c]
    · simp [c]
theorem app_none {α : Type} {l : List α} {m : Nat} {i : Nat} {x : α} : (l.map some ++ List.replicate m (none : Option α))[i]? = some (some x) ↔ l[i]? = some x := by
  by_cases c : i < l.length
  · rw [List.getElem?_append_left (by simpa using c), List.getElem?_map]
    simp
  · rw [List.getElem?_append_right (by simp; omega), List.getElem?_eq_none (l := l) (by omega)]
    constructor
    · intro h
      obtain ⟨_, h⟩ := List.getElem?_eq_some_iff.mp h
      simp at h
    · intro h; cases h
theorem app_noneA {l : List (Option Addr)} {m : Nat} {i : Nat} {x : Addr} : (l ++ List.replicate m (none : Option Addr))[i]? = some (some x) ↔ l[i]? = some (some x) := by
  by_cases c : i < l.length
  · rw [List.getElem?_append_left c]
  · rw [List.getElem?_append_right (by omega), List.getElem?_eq_none (l := l) (by omega)]
    constructor
    · intro h
      obtain ⟨_, h⟩ := List.getElem?_eq_some_iff.mp h
      simp at h
    · intro h; cases h
theorem startR {K : PySem.W.Frag} {H : Hp} {W : List Addr} {A : List (Option Addr)} {args : List Sl} {vs : List V} (E : EnR K H W A (args.map some) (vs.map some)) (m : Nat) :
    EnR K H W (A ++ List.replicate m none) (args.map some ++ List.replicate m none) (vs.map some ++ List.replicate m none) := by
  have l1 := E.len
  have l2 := E.lenA
  simp only [List.length_map] at l1 l2
  refine ⟨by simp [l1], by simp [l2], fun i x h => ?_, fun i s h hs => ?_, fun i a h => ?_, fun i j a h1 h2 => ?_, E.trk⟩
  · have h' := app_none.mp h
    have hi := (List.getElem?_eq_some_iff.mp h').1
    obtain ⟨x1, v, x2, x3⟩ := E.dat i x (by rw [List.getElem?_map, h']; rfl)
    refine ⟨by rw [List.getElem?_append_left (by omega)]; exact x1, v, ?_, x3⟩
    rw [List.getElem?_append_left (by simp; omega)]
    exact x2
  · have h' := app_none.mp h
    have hi := (List.getElem?_eq_some_iff.mp h').1
    obtain ⟨a, x1, x2, x3⟩ := E.own i s (by rw [List.getElem?_map, h']; rfl) hs
    refine ⟨a, app_noneA.mpr x1, ?_, x3⟩
    rw [List.getElem?_append_left (by simp; omega)]
    exact x2
  · obtain ⟨x1, s, x2, x3⟩ := E.back i a (app_noneA.mp h)
    refine ⟨x1, s, ?_, x3⟩
    rw [List.getElem?_append_left (List.getElem?_eq_some_iff.mp x2).1]
    exact x2
  · exact E.inj i j a (app_noneA.mp h1) (app_noneA.mp h2)
/-- a def keeps its promise, by its body -/
theorem body_go {X : Cx} {Ns : List Str} {N : List Nat × List Nat} {n : Nat} {sp : FD} {body : List Stmt} {t : TDS} {vs : List V} {H : Hp} {Q : VK} {E : XK} (hp : PSDs X N body t)
    (ht : ∀ (args : List Sl) (Q : Sl → (Nat → Option Sl) → Prop), args.length = n → sp args Q → t { nx := fun env => Q (.d .none) (osOf env), rt := fun r env => Q r (osOf env) } (startE Ns.length args))
    (h : spD X.K N n sp vs H Q E) : ∃ ts, PSs X body ts ∧ ts { nx := fun _ H' => Q .non H', rt := Q } (L2.start Ns vs) H := by
  obtain ⟨ts, p1, q1⟩ := hp
  obtain ⟨W, Ac, args, Q0, hl, hE, hA, hf, hQ⟩ := h
  have hlv : vs.length = args.length := by
    have := hE.len
    simpa using this
  refine ⟨ts, p1, ?_⟩
  have E0 := startR hE (Ns.length - args.length)
  have eσ : L2.start Ns vs = vs.map some ++ List.replicate (Ns.length - args.length) none := by unfold L2.start; rw [hlv]
  rw [eσ]
  have hmA : ∀ (i : Nat) (a : Addr), (Ac ++ List.replicate (Ns.length - args.length) none)[i]? = some (some a) → Ac[i]? = some (some a) := fun i a h => app_noneA.mp h
  have hmv : ∀ a, a ∈ (N.2.filterMap fun i => (Ac[i]?).join) ↔ ∃ i, i ∈ N.2 ∧ Ac[i]? = some (some a) := fun a => by
    rw [List.mem_filterMap]
    constructor
    · rintro ⟨i, h1, h2⟩
      refine ⟨i, h1, ?_⟩
      cases e : Ac[i]? with
      | none => rw [e] at h2; cases h2
      | some o => rw [e] at h2; exact congrArg some h2
    · rintro ⟨i, h1, h2⟩
      exact ⟨i, h1, by rw [h2]; rfl⟩
  refine q1 ⟨H, W, mask Ac N.1, fun _ => none, N.2.filterMap fun i => (Ac[i]?).join, N.2, []⟩ _ { nx := fun env => Q0 (.d .none) (osOf env), rt := fun r env => Q0 r (osOf env) } _ H W (Ac ++ List.replicate (Ns.length - args.length) none) _ ⟨fun i a h => (mask_get.mp h).2, fun i h => h, hE.trk, fun p hp => ?_⟩ ?_ (ht args _ hl hf) ?_
  · obtain ⟨i, _, h2⟩ := (hmv p).mp hp
    exact hE.trk p (hE.back i p h2).1
  · refine ⟨E0, fun b o h _ _ => h, fun b h => h, fun p h => h, fun p h => .inl h, fun a h => .inl ?_, fun i a h => app_noneA.mpr (mask_get.mp h).1, fun i a h hm => ?_, fun q hq => absurd hq (by simp), fun b o h => by cases h⟩
    · obtain ⟨i, hi⟩ := List.mem_iff_getElem?.mp h
      have hi' := hmA i a hi
      rcases hA i a hi' with c | c
      · exact .inl (List.mem_of_getElem? (mask_get.mpr ⟨hi', c⟩))
      · exact .inr ((hmv a).mpr ⟨i, c, hi'⟩)
    · obtain ⟨j, hj, h2⟩ := (hmv a).mp hm
      have := hE.inj i j a (hmA i a h) h2
      show i ∈ N.2
      rw [this]; exact hj
  · have bk : ∀ {σ' H' W' A' env'}, StR X.K ⟨H, W, mask Ac N.1, fun _ => none, N.2.filterMap fun i => (Ac[i]?).join, N.2, []⟩ H' W' A' env' σ' → Back X.K N H W Ac H' W' (osOf env') := fun {σ' H' W' A' env'} R => by
      refine ⟨fun b o h hb => R.old b o h (fun z => hb ?_) (fun z => hb ?_), R.there, R.up, fun p hp => ?_, fun i hi a ha => ?_⟩
      · obtain ⟨i, hi⟩ := List.mem_iff_getElem?.mp z
        exact List.mem_of_getElem? (mask_get.mp hi).1
      · obtain ⟨i, _, h2⟩ := (hmv b).mp z
        exact List.mem_of_getElem? h2
      · rcases R.fr p hp with z | z
        · exact .inl z
        · exact .inr ⟨z, R.en.trk p hp⟩
      · have ha' := R.par i a (mask_get.mpr ⟨ha, hi⟩)
        obtain ⟨_, s, hs, hd⟩ := R.en.back i a ha'
        obtain ⟨a', h1, _, ow⟩ := R.en.own i s hs hd
        rw [ha'] at h1; cases h1
        exact ⟨s, by unfold osOf; rw [hs], hd, ow⟩
    refine ⟨fun σ' H' W' A' env' R q => hQ _ _ q .non H' W' (bk R) .non, fun σ' H' W' A' env' R q => q.elim, fun σ' H' W' A' env' R q => q.elim, fun σ' H' W' A' env' v r R hr q => hQ _ _ q v H' W' (bk R) ?_⟩
    cases r with
    | d y => exact hr
    | l _ => exact hr
    | m _ => exact hr
    | t _ => exact hr
    | g _ _ => exact hr

theorem fnd {P : Program} {w : World} {K : PySem.W.Frag} {mg : Str → Option Value} {base : Heap} {x qual : Str} {st : Stmt} {f : Addr} {fd : FuncData} {Ns ps : List Str} {k : Nat} {N : List Nat × List Nat} {n : Nat} {sp : FD}
    (F : Fun K x qual st f fd) (S : FnScope Ns ps (defScope st)) (hn : ps.length = n)
    (hb : ∀ (cdv : Value) (A : Around) (outer : List Env) (s : Shared) (H : Hp) (E : XK), Room k (A.deeper (PyProof.Rows.envOfC qual (defScope st) s.heap.objs.size f cdv)) →
      ∃ t, PSDs (cxOf CX0 P w K mg base Ns qual (defScope st) f cdv A outer s H E).nox N (defBody st) t ∧ ∀ (args : List Sl) (Q : Sl → (Nat → Option Sl) → Prop), args.length = n → sp args Q → t { nx := fun env => Q (.d .none) (osOf env), rt := fun r env => Q r (osOf env) } (startE Ns.length args)) :
    FnOk P w K mg base CX0 (k + 1) f fd ps (spD K N n sp) := by
  refine F.ok S (fun vs H Q E h => by rw [hn]; exact spD_len h) (fun cdv A outer s H vs Q E hr h => ?_)
  obtain ⟨t, hp, ht⟩ := hb cdv A outer s H E hr
  exact body_go (X := (cxOf CX0 P w K mg base Ns qual (defScope st) f cdv A outer s H E).nox) hp ht h

/-! ### calls -/
def argOf (N : List Nat × List Nat) (env : En) (i : Nat) (rv : Rv) : Option Sl :=
  if i ∈ N.1 then (match rv with
    | .o j => (match env[j]? with
      | some (some s) => if s.isD = true then none else some s
      | _ => none)
    | _ => none)
  else if i ∈ N.2 then (match rv with
    | .n s => if s.isD = true then none else some s
    | _ => none)
  else (rvD rv).map Sl.d
def argsOf (N : List Nat × List Nat) (env : En) : Nat → List Rv → Option (List Sl)
  | _, [] => some []
  | i, rv :: r => match argOf N env i rv with
    | some s => (argsOf N env (i + 1) r).map (s :: ·)
    | none => none
def outE (N : List Nat × List Nat) (rvs : List Rv) (os : Nat → Option Sl) (env : En) : En := match N.1 with
  | [i] => match rvs[i]? with
    | some (.o j) => env.set j (os i)
    | _ => env
  | _ => env
def rvOf : Sl → Rv
  | .d x => .d x
  | s => .n s
def tdCall (N : List Nat × List Nat) (n : Nat) (f : FD) (t : TDA) : TD := fun env Q => t env fun rvs env1 => match argsOf N env1 0 rvs with
  | some args => args.length = n ∧ f args fun s os => Q (rvOf s) (outE N rvs os env1)
  | none => False
inductive ArgR (K : PySem.W.Frag) (H : Hp) (W W0 : List Addr) (env : En) (A : List (Option Addr)) (N : List Nat × List Nat) (i : Nat) : Rv → V → Sl → Option Addr → Prop
  | d {rv : Rv} {v : V} {x : PyData} : i ∉ N.1 → i ∉ N.2 → Dp K (HW H W) v x → ArgR K H W W0 env A N i rv v (.d x) none
  | io {j : Nat} {s : Sl} {a : Addr} : i ∈ N.1 → env[j]? = some (some s) → s.isD = false → A[j]? = some (some a) → OwR K H W a s → ArgR K H W W0 env A N i (.o j) (.ref a) s (some a)
  | mv {s : Sl} {p : Addr} : i ∉ N.1 → i ∈ N.2 → s.isD = false → p ∈ W → p ∉ W0 → OwR K H W p s → ArgR K H W W0 env A N i (.n s) (.ref p) s (some p)
theorem ArgR.sub {K : PySem.W.Frag} {H : Hp} {W W' W0 : List Addr} {env : En} {A : List (Option Addr)} {N : List Nat × List Nat} {i : Nat} {rv : Rv} {v : V} {s : Sl} {oa : Option Addr} (h : ArgR K H W W0 env A N i rv v s oa) (hs : ∀ q, q ∈ W' → q ∈ W) (hp : ∀ p z, rv = .n z → v = .ref p → i ∈ N.2 → p ∈ W') :
    ArgR K H W' W0 env A N i rv v s oa := by
  cases h with
  | d h1 h2 d => exact .d h1 h2 (dp_mono (sub_same hs) _ d)
  | io h1 h2 h3 h4 o => exact .io h1 h2 h3 h4 (o.mono (sub_same hs) rfl)
  | mv h0 h1 h2 h3 h4 o => exact .mv h0 h1 h2 (hp _ _ rfl rfl h1) h4 (o.mono (sub_same hs) rfl)
theorem RvRs.args {K : PySem.W.Frag} {H : Hp} {W : List Addr} {env : En} {A : List (Option Addr)} {σ : L2.St} {N : List Nat × List Nat} (E : EnR K H W A env σ) : ∀ {rvs : List Rv} {vs : List V} {H0 : Hp} {W0 : List Addr} {i : Nat} {args : List Sl}, RvRs K H W A H0 W0 rvs vs → argsOf N env i rvs = some args →
    ∃ (W' : List Addr) (Ac : List (Option Addr)), (∀ q, q ∈ W' → q ∈ W) ∧ (∀ q, q ∈ W → q ∈ W0 → q ∈ W') ∧ args.length = rvs.length ∧ vs.length = rvs.length ∧ Ac.length = rvs.length ∧
      (∀ (k : Nat) (rv : Rv), rvs[k]? = some rv → ∃ v s oa, vs[k]? = some v ∧ args[k]? = some s ∧ Ac[k]? = some oa ∧ ArgR K H W' W0 env A N (i + k) rv v s oa) ∧
      ∀ (k k' : Nat) (p : Addr), i + k ∈ N.2 → i + k' ∈ N.2 → i + k ∉ N.1 → i + k' ∉ N.1 → Ac[k]? = some (some p) → Ac[k']? = some (some p) → k = k' := by
  intro rvs
  induction rvs with
  | nil =>
    intro vs H0 W0 i args r e
    cases r
    cases e
    exact ⟨W, [], fun _ h => h, fun _ h _ => h, rfl, rfl, rfl, fun k rv h => by simp at h, fun k k' p _ _ _ _ h => by simp at h⟩
  | cons rv rvs ih =>
    intro vs H0 W0 i args r e
    cases r with
    | @cons _ _ _ v _ vs H1 W1 r1 m S1 r2 =>
      unfold argsOf at e
      split at e
      · rename_i s es
        obtain ⟨ys, e1, e2⟩ := Option.map_eq_some_iff.mp e
        subst e2
        obtain ⟨W', Ac, h1, h2, l1, l2, l3, h3, h4⟩ := ih r2 e1
        have ix : ∀ k, i + 1 + k = i + (k + 1) := fun k => by omega
        -- the tail, for a lesser W
        have tail : ∀ {W2 : List Addr}, (∀ q, q ∈ W2 → q ∈ W') → (∀ q, q ∈ W' → q ∈ W2 ∨ (i ∉ N.2 ∧ v = .ref q) ∨ q ∈ W1) → (∀ q, q ∈ W2 → True) → (∀ (k : Nat) (rv : Rv), rvs[k]? = some rv → ∃ v s oa, vs[k]? = some v ∧ ys[k]? = some s ∧ Ac[k]? = some oa ∧ (ArgR K H W' W1 env A N (i + 1 + k) rv v s oa)) := fun _ _ _ k rv h => h3 k rv h
        have mvne : ∀ (k : Nat) (p : Addr), i + 1 + k ∈ N.2 → i + 1 + k ∉ N.1 → Ac[k]? = some (some p) → p ∉ W1 := fun k p hk hk1 hp => by
          have hk2 : k < rvs.length := by rw [← l3]; exact (List.getElem?_eq_some_iff.mp hp).1
          obtain ⟨rv2, hrv2⟩ : ∃ rv2, rvs[k]? = some rv2 := ⟨_, List.getElem?_eq_getElem hk2⟩
          obtain ⟨v', s', oa, _, _, h5, h6⟩ := h3 k rv2 hrv2
          rw [hp] at h5; cases h5
          cases h6 with
          | io z => exact absurd z hk1
          | mv _ _ _ _ z => exact z
        -- the head
        have head : ∃ W2 oa, (∀ q, q ∈ W2 → q ∈ W') ∧ (∀ q, q ∈ W' → q ∈ W0 → q ∈ W2) ∧ (∀ q, q ∈ W' → q ∉ W1 → q ∈ W2) ∧ ArgR K H W2 W0 env A N i rv v s oa ∧ (∀ p, oa = some p → i ∈ N.2 → i ∉ N.1 → p ∈ W1) := by
          unfold argOf at es
          split at es
          · rename_i c
            cases rv with
            | o j =>
              dsimp only at es
              split at es
              · rename_i z hz
                split at es
                · cases es
                · rename_i hd
                  cases es
                  have hd' : s.isD = false := by simpa using hd
                  obtain ⟨a, ha, rfl⟩ := r1
                  obtain ⟨a', ha', _, ow⟩ := E.own j s hz hd'
                  rw [ha] at ha'; cases ha'
                  exact ⟨W', some a, fun _ h => h, fun _ h _ => h, fun _ h _ => h, .io c hz hd' ha (ow.mono (sub_same h1) rfl), fun p e hn hn' => absurd c hn'⟩
              · cases es
            | d _ => cases es
            | n _ => cases es
          · rename_i c
            split at es
            · rename_i c2
              cases rv with
              | n z =>
                dsimp only at es
                split at es
                · cases es
                · rename_i hd
                  cases es
                  have hd' : s.isD = false := by simpa using hd
                  have pw := m
                  obtain ⟨p, rfl, _, hp, np, ow⟩ := r1
                  have pW1 := pw p s rfl rfl
                  exact ⟨W', some p, fun _ h => h, fun _ h _ => h, fun _ h _ => h, .mv c c2 hd' (h2 p hp pW1) np (ow.mono (sub_same h1) rfl), fun q e _ _ => by cases e; exact pW1⟩
              | d _ => cases es
              | o _ => cases es
            · rename_i c2
              obtain ⟨x, ex, e4⟩ := Option.map_eq_some_iff.mp es
              subst e4
              cases rv with
              | d y =>
                cases ex
                exact ⟨W', none, fun _ h => h, fun _ h _ => h, fun _ h _ => h, .d c c2 (dp_mono (sub_same h1) _ r1), fun p e => by cases e⟩
              | o j => cases ex
              | n z =>
                cases z with
                | l zs =>
                  cases ex
                  have pw := m
                  obtain ⟨p, rfl, _, hp, np, ws, hpl, dz⟩ := r1
                  have pW1 := pw p _ rfl rfl
                  refine ⟨rel W' p, none, fun q hq => (mem_rel.mp hq).1, fun q hq z => mem_rel.mpr ⟨hq, fun e => np (by rw [← e]; exact z)⟩, fun q hq z => mem_rel.mpr ⟨hq, fun e => z (by rw [e]; exact pW1)⟩, .d c c2 ?_, fun p e => by cases e⟩
                  exact .lst (.inl (.inl (hw_of (fun z => (mem_rel.mp z).2 rfl) hpl))) (dpa_mono (sub_same fun q hq => h1 q (mem_rel.mp hq).1) _ dz)
                | _ => cases ex
        obtain ⟨W2, oa, g1, g2, g3, g4, g5⟩ := head
        refine ⟨W2, oa :: Ac, fun q hq => h1 q (g1 q hq), fun q hq z => g2 q (h2 q hq (S1.up q z)) z, by simp [l1], by simp [l2], by simp [l3], fun k rv' hk => ?_, fun k k' p hk hk' hn hn' e1 e2 => ?_⟩
        · cases k with
          | zero =>
            simp only [List.getElem?_cons_zero, Option.some.injEq] at hk
            subst hk
            exact ⟨v, s, oa, rfl, rfl, rfl, g4⟩
          | succ k =>
            simp only [List.getElem?_cons_succ] at hk
            obtain ⟨v', s', oa', x1, x2, x3, x4⟩ := h3 k rv' hk
            refine ⟨v', s', oa', x1, x2, x3, ?_⟩
            rw [ix] at x4
            have x5 : ArgR K H W2 W1 env A N (i + (k + 1)) rv' v' s' oa' := by
              refine x4.sub g1 fun p z ez ev hN => ?_
              subst ez ev
              cases x4 with
              | d _ c => exact absurd hN c
              | mv c0 c1 c2 c3 c4 _ => exact g3 _ c3 c4
            cases x5 with
            | d a b c => exact .d a b c
            | io a b c d f => exact .io a b c d f
            | mv a0 a b c d f => exact .mv a0 a b c (fun z => d (S1.up _ z)) f
        · cases k with
          | zero =>
            cases k' with
            | zero => rfl
            | succ k' =>
              simp only [List.getElem?_cons_zero, Option.some.injEq] at e1
              simp only [List.getElem?_cons_succ] at e2
              exact absurd (g5 p e1 hk hn) (mvne k' p (by rw [ix]; exact hk') (by rw [ix]; exact hn') e2)
          | succ k =>
            cases k' with
            | zero =>
              simp only [List.getElem?_cons_zero, Option.some.injEq] at e2
              simp only [List.getElem?_cons_succ] at e1
              exact absurd (g5 p e2 hk' hn') (mvne k p (by rw [ix]; exact hk) (by rw [ix]; exact hn) e1)
            | succ k' =>
              simp only [List.getElem?_cons_succ] at e1 e2
              have := h4 k k' p (by rw [ix]; exact hk) (by rw [ix]; exact hk') (by rw [ix]; exact hn) (by rw [ix]; exact hn') e1 e2
              omega
      · cases e
section
variable {X : Cx} {N : List Nat × List Nat} {n k : Nat} {g : FD} {f : Addr} {fd : FuncData} {ps : List Str} {x : Str} {e : Expr} {es : List Expr} {ta : TDA} {p pos : Pos}
theorem pd_callP {E0 : XK} (h : ∀ t : TA, PA X (e :: es) t → PE X (.Call (.Name x p) (e :: es) [] pos) (tCall (spD X.K N n g) [] E0 t)) (ha : PDA X (e :: es) ta) (hN : N.1.length ≤ 1) :
    PD X (.Call (.Name x p) (e :: es) [] pos) (tdCall N n g ta) := by
  obtain ⟨t1, p1, q1⟩ := ha
  refine ⟨_, h _ p1, fun σ H W A env Q Qd E ht kk => ?_⟩
  refine q1 σ H W A env _ _ E ht fun vs H1 W1 env1 rvs E1 S1 R1 q2 => ?_
  split at q2
  · rename_i args ea
    obtain ⟨hln, q2⟩ := q2
    obtain ⟨W', Ac, s1, s2, l1, l2, l3, hA, hI⟩ := R1.args E1 ea
    have one : ∀ i j, i ∈ N.1 → j ∈ N.1 → i = j := fun i j hi hj => by
      cases e1 : N.1 with
      | nil => rw [e1] at hi; cases hi
      | cons a r =>
        cases r with
        | nil => rw [e1] at hi hj; simp at hi hj; omega
        | cons b r => rw [e1] at hN; simp at hN
    have at_ : ∀ (i : Nat), i < rvs.length → ∃ rv v s oa, rvs[i]? = some rv ∧ vs[i]? = some v ∧ args[i]? = some s ∧ Ac[i]? = some oa ∧ ArgR X.K H1 W' W env1 A N i rv v s oa := fun i hi => by
      obtain ⟨v, s, oa, x1, x2, x3, x4⟩ := hA i rvs[i] (by simp [hi])
      rw [Nat.zero_add] at x4
      exact ⟨rvs[i], v, s, oa, by simp [hi], x1, x2, x3, x4⟩
    have ain1 : ∀ a, some a ∈ A → a ∈ W' := fun a ha => s2 a (E1.ain a ha) (E.ain a ha)
    have Ec : EnR X.K H1 W' Ac (args.map some) (vs.map some) := by
      refine ⟨by simp [l1, l2], by simp [l1, l3], fun i x h => ?_, fun i s h hs => ?_, fun i a h => ?_, fun i j a h1 h2 => ?_, fun p hp => E1.trk p (s1 p hp)⟩
      · rw [List.getElem?_map] at h
        obtain ⟨s0, h, e0⟩ := Option.map_eq_some_iff.mp h
        cases e0
        obtain ⟨rv, v, s, oa, x0, x1, x2, x3, x4⟩ := at_ i (by rw [← l1]; exact (List.getElem?_eq_some_iff.mp h).1)
        rw [h] at x2; cases x2
        cases x4 with
        | d _ _ d => exact ⟨x3, v, by rw [List.getElem?_map, x1]; rfl, d⟩
        | io _ _ hd _ _ => cases hd
        | mv _ _ hd _ _ _ => cases hd
      · rw [List.getElem?_map] at h
        obtain ⟨s0, h, e0⟩ := Option.map_eq_some_iff.mp h
        cases e0
        obtain ⟨rv, v, s', oa, x0, x1, x2, x3, x4⟩ := at_ i (by rw [← l1]; exact (List.getElem?_eq_some_iff.mp h).1)
        rw [h] at x2; cases x2
        cases x4 with
        | d _ _ d => cases hs
        | io _ _ hd _ ow => exact ⟨_, x3, by rw [List.getElem?_map, x1]; rfl, ow⟩
        | mv _ _ hd _ _ ow => exact ⟨_, x3, by rw [List.getElem?_map, x1]; rfl, ow⟩
      · obtain ⟨rv, v, s, oa, x0, x1, x2, x3, x4⟩ := at_ i (by rw [← l3]; exact (List.getElem?_eq_some_iff.mp h).1)
        rw [h] at x3; cases x3
        cases x4 with
        | io _ _ hd hA _ => exact ⟨ain1 a (List.mem_of_getElem? hA), s, by rw [List.getElem?_map, x2]; rfl, hd⟩
        | mv _ _ hd hp _ _ => exact ⟨hp, s, by rw [List.getElem?_map, x2]; rfl, hd⟩
      · obtain ⟨rv, v, s, oa, x0, x1, x2, x3, x4⟩ := at_ i (by rw [← l3]; exact (List.getElem?_eq_some_iff.mp h1).1)
        obtain ⟨rv', v', s', oa', y0, y1, y2, y3, y4⟩ := at_ j (by rw [← l3]; exact (List.getElem?_eq_some_iff.mp h2).1)
        have h1' := h1
        have h2' := h2
        rw [h1] at x3; cases x3
        rw [h2] at y3; cases y3
        cases x4 with
        | io hi _ _ hA _ =>
          cases y4 with
          | io hj _ _ _ _ => exact one i j hi hj
          | mv _ _ _ _ hn _ => exact absurd (E.ain a (List.mem_of_getElem? hA)) hn
        | mv hi1 hi2 _ _ hn _ =>
          cases y4 with
          | io hj _ _ hA _ => exact absurd (E.ain a (List.mem_of_getElem? hA)) hn
          | mv hj1 hj2 _ _ _ _ => exact hI i j a (by rw [Nat.zero_add]; exact hi2) (by rw [Nat.zero_add]; exact hj2) (by rw [Nat.zero_add]; exact hi1) (by rw [Nat.zero_add]; exact hj1) h1' h2'
    have hAc : ∀ (i : Nat) (a : Addr), Ac[i]? = some (some a) → (i ∈ N.1 ∧ some a ∈ A) ∨ (i ∈ N.2 ∧ a ∉ W) := fun i a h => by
      obtain ⟨rv, v, s, oa, x0, x1, x2, x3, x4⟩ := at_ i (by rw [← l3]; exact (List.getElem?_eq_some_iff.mp h).1)
      rw [h] at x3; cases x3
      cases x4 with
      | io hi _ _ hA _ => exact .inl ⟨hi, List.mem_of_getElem? hA⟩
      | mv _ hi _ _ hn _ => exact .inr ⟨hi, hn⟩
    have E' := E1.sub s1 ain1
    have S' := S1.sub s1 s2
    refine ⟨W', Ac, args, _, hln, by rw [List.append_nil]; exact Ec, fun i a h => (hAc i a h).imp (·.1) (·.1), q2, fun s os q v H2 W2 bk rt => ?_⟩
    -- behind the call
    have S2 : Stp A H W H2 W2 := by
      refine ⟨fun b o h n => bk.old b o (S'.ext b o h n) fun z => ?_, fun b h => bk.there b (S'.there b h), fun p h => bk.up p (S'.up p h), fun p h => ?_⟩
      · obtain ⟨i, hi⟩ := List.mem_iff_getElem?.mp z
        rcases hAc i b hi with ⟨_, c⟩ | ⟨c1, c2⟩
        · exact n c
        · obtain ⟨rv, v, s, oa, x0, x1, x2, x3, x4⟩ := at_ i (by rw [← l3]; exact (List.getElem?_eq_some_iff.mp hi).1)
          rw [hi] at x3; cases x3
          cases x4 with
          | io _ _ _ hA _ => exact n (List.mem_of_getElem? hA)
          | mv _ _ _ hp hn _ =>
            rcases S'.fr b hp with z | z
            · exact hn z
            · rw [z.1] at h; cases h
      · rcases bk.fr p h with z | z
        · rcases S'.fr p z with y | y
          · exact .inl y
          · exact .inr ⟨y.1, bk.there p y.2⟩
        · exact .inr ⟨S'.back z.1, z.2⟩
    have sm : Same (HW H1 W') (HW H2 W2) := fun b o e => by
      obtain ⟨n, e⟩ := hw_some e
      refine hw_of (fun z => ?_) (bk.old b o e fun z => ?_)
      · rcases bk.fr b z with y | y
        · exact n y
        · rw [y.1] at e; cases e
      · obtain ⟨i, hi⟩ := List.mem_iff_getElem?.mp z
        exact n (Ec.back i b hi).1
    have E2 : EnR X.K H2 W2 A (outE N rvs os env1) σ := by
      have base : (∀ a, some a ∈ A → some a ∉ Ac → H2 a = H1 a) := fun a ha hn => by
        obtain ⟨i, hi⟩ := List.mem_iff_getElem?.mp ha
        obtain ⟨_, s, hs, hd⟩ := E1.back i a hi
        obtain ⟨a', h1, _, ow⟩ := E1.own i s hs hd
        rw [hi] at h1; cases h1
        obtain ⟨o, e⟩ := ow.ex
        rw [e]; exact bk.old a o e hn
      have trk2 : ∀ p, p ∈ W2 → H2 p ≠ none := fun p hp => (bk.fr p hp).elim (fun z => bk.there p (E'.trk p z)) (·.2)
      -- all names but the one that was lent
      have lent : ∀ (j : Nat), (∀ i a, i ∈ N.1 → Ac[i]? = some (some a) → A[j]? ≠ some (some a)) → ∀ (s : Sl), env1[j]? = some (some s) → s.isD = false → ∃ a : Addr, A[j]? = some (some a) ∧ σ[j]? = some (some (.ref a)) ∧ OwR X.K H2 W2 a s := fun j hj s hs hd => by
        obtain ⟨a, x1, x2, x3⟩ := E'.own j s hs hd
        refine ⟨a, x1, x2, x3.mono sm (base a (List.mem_of_getElem? x1) fun z => ?_)⟩
        obtain ⟨i, hi⟩ := List.mem_iff_getElem?.mp z
        rcases hAc i a hi with ⟨c, _⟩ | ⟨_, c⟩
        · exact hj i a c hi x1
        · exact c (E.ain a (List.mem_of_getElem? x1))
      have plain : (∀ i a, i ∈ N.1 → Ac[i]? ≠ some (some a)) → EnR X.K H2 W2 A env1 σ := fun hno =>
        ⟨E1.len, E1.lenA, fun i x h => by
          obtain ⟨x1, v, x2, x3⟩ := E'.dat i x h
          exact ⟨x1, v, x2, dp_mono sm _ x3⟩, fun i s h hs => lent i (fun i' a hi ha => absurd ha (hno i' a hi)) s h hs, fun i a h => by
          obtain ⟨x1, x2⟩ := E'.back i a h
          exact ⟨bk.up a x1, x2⟩, E1.inj, trk2⟩
      cases eN : N.1 with
      | nil =>
        unfold outE
        rw [eN]
        exact plain fun i a hi => by rw [eN] at hi; cases hi
      | cons i0 r =>
        cases r with
        | cons b r => rw [eN] at hN; simp at hN
        | nil =>
          unfold outE
          rw [eN]
          dsimp only
          have hi0 : i0 ∈ N.1 := by rw [eN]; simp
          have only : ∀ i, i ∈ N.1 → i = i0 := fun i hi => one i i0 hi hi0
          cases er : rvs[i0]? with
          | none =>
            exact plain fun i a hi h => by
              rw [only i hi] at h
              have := (List.getElem?_eq_some_iff.mp h).1
              rw [l3] at this
              rw [List.getElem?_eq_none_iff] at er
              omega
          | some rv =>
            obtain ⟨rv', v', s', oa', y0, y1, y2, y3, y4⟩ := at_ i0 (List.getElem?_eq_some_iff.mp er).1
            rw [er] at y0; cases y0
            cases y4 with
            | d c _ _ => exact absurd hi0 c
            | mv c _ _ _ _ _ => exact absurd hi0 c
            | @io j s' a c hs' hd' hA' ow' =>
              obtain ⟨sn, e1, e2, e3⟩ := bk.io i0 hi0 a y3
              rw [e1]
              have hj : j < env1.length := (List.getElem?_eq_some_iff.mp hs').1
              obtain ⟨_, _, vj, _⟩ := E1.own j s' hs' hd'
              refine ⟨by simp [E1.len], by simp [E1.lenA], fun i x h => ?_, fun i s h hs => ?_, fun i b h => ?_, E1.inj, trk2⟩
              · rw [set_get] at h
                by_cases cc : j = i
                · subst cc
                  rw [if_pos rfl, if_pos hj] at h
                  cases h
                  cases e2
                · rw [if_neg cc] at h
                  obtain ⟨x1, v, x2, x3⟩ := E'.dat i x h
                  exact ⟨x1, v, x2, dp_mono sm _ x3⟩
              · rw [set_get] at h
                by_cases cc : j = i
                · subst cc
                  rw [if_pos rfl, if_pos hj] at h
                  cases h
                  obtain ⟨a', z1, z2, _⟩ := E1.own j s' hs' hd'
                  rw [hA'] at z1; cases z1
                  exact ⟨a, hA', z2, e3⟩
                · rw [if_neg cc] at h
                  refine lent i (fun i' b hi hb hz => ?_) s h hs
                  rw [only i' hi, y3] at hb
                  cases hb
                  exact cc (E1.inj j i a hA' hz)
              · obtain ⟨x1, z, x2, x3⟩ := E'.back i b h
                refine ⟨bk.up b x1, ?_⟩
                rw [set_get]
                by_cases cc : j = i
                · subst cc
                  rw [if_pos rfl, if_pos hj]
                  exact ⟨sn, rfl, e2⟩
                · rw [if_neg cc]
                  exact ⟨z, x2, x3⟩
    refine kk v H2 W2 _ (rvOf s) E2 S2 ?_ q
    cases s with
    | d y => exact rt
    | l _ => obtain ⟨p, e1, e2, e3, e4⟩ := rt; exact ⟨p, e1, S'.back e2, e3, fun z => E.trk p z (S'.back e2), e4⟩
    | m _ => obtain ⟨p, e1, e2, e3, e4⟩ := rt; exact ⟨p, e1, S'.back e2, e3, fun z => E.trk p z (S'.back e2), e4⟩
    | t _ => obtain ⟨p, e1, e2, e3, e4⟩ := rt; exact ⟨p, e1, S'.back e2, e3, fun z => E.trk p z (S'.back e2), e4⟩
    | g _ _ => obtain ⟨p, e1, e2, e3, e4⟩ := rt; exact ⟨p, e1, S'.back e2, e3, fun z => E.trk p z (S'.back e2), e4⟩
  · exact q2.elim
theorem pd_call (F : FnOk X.prog X.w X.K X.mg X.base CX0 k f fd ps (spD X.K N n g)) (hr : Room k X.A) (hg : Gl X x) (hm : X.mg x = some (.ref f)) (hk : PySem.W.keepIn X.K (.ref f) = true) (hb : Binds X.K fd ps [])
    (ha : PDA X (e :: es) ta) (hN : N.1.length ≤ 1 := by decide) (hdb : (x == ("__debug__" : Str)) = false := by decide) (he : starEach (e :: es) X.env = (false, eval e X.env) :: starEach es X.env := by rfl) (hpl : (backTo pos (starEach es X.env)).any (·.1) = false := by rfl) :
    PD X (.Call (.Name x p) (e :: es) [] pos) (tdCall N n g ta) := pd_callP (E0 := fun _ _ _ => False) (fun _ p1 => pe_call F hr hg hm hk hb .nil pass0 p1 hdb he hpl) ha hN
end
end DL

set_option Elab.async false
set_option linter.all false
set_option maxRecDepth 100000
set_option maxHeartbeats 4000000
set_option autoImplicit false
namespace DL
open PySem PySem.Spec L2

/-! ### one reading for a family of contexts -/
def upE (K : PySem.W.Frag) (t : TD) : TE := fun σ H Q => ∃ (W : List Addr) (A : List (Option Addr)) (env : En) (Qd : Rv → En → Prop), EnR K H W A env σ ∧ t env Qd ∧ ∀ v H' W' env' rv, EnR K H' W' A env' σ → Stp A H W H' W' → RvR K H W H' W' A rv v → Qd rv env' → Q v H'
def upT (K : PySem.W.Frag) (t : TDT) : TT := fun σ H Q => ∃ (W : List Addr) (A : List (Option Addr)) (env : En) (Qd : Bool → En → Prop), EnR K H W A env σ ∧ t env Qd ∧ ∀ b H' W' env', EnR K H' W' A env' σ → Stp A H W H' W' → Qd b env' → Q b H'
theorem PD.up {X : Cx} {e : Expr} {t : TD} (h : PD X e t) : PE X e (upE X.K t) := by
  obtain ⟨t1, p1, q1⟩ := h
  exact ⟨fun pins s σ H Q I ⟨W, A, env, Qd, E, ht, k⟩ => p1.run pins s σ H Q I (q1 σ H W A env Q Qd E ht k)⟩
def PDTs (X : Cx) (ifs : List Expr) (t : TDT) : Prop := PTs X ifs (upT X.K t)
def tdYes : TDT := fun env Q => Q true env
theorem pdts_nil {X : Cx} : PDTs X [] tdYes := ⟨fun pins s σ H Q I ⟨W, A, env, Qd, E, ht, k⟩ => pts_nil.run pins s σ H Q I (k true H W env E .refl ht)⟩
theorem pdts_one {X : Cx} {c : Expr} {t : TDT} (h : PDT X c t) : PDTs X [c] t := by
  obtain ⟨t1, p1, q1⟩ := h
  exact ⟨fun pins s σ H Q I ⟨W, A, env, Qd, E, ht, k⟩ => (pts_one p1).run pins s σ H Q I (q1 σ H W A env Q Qd E ht k)⟩

/-! ### the target of a comprehension -/
abbrev TDC := PyData → En → (En → Prop) → Prop
abbrev TDCs := List PyData → En → (En → Prop) → Prop
def upG (K : PySem.W.Frag) (T : List Nat) (t : TDC) : TG := fun v σ H Q => ∃ (W : List Addr) (A : List (Option Addr)) (env : En) (x : PyData) (Qd : En → Prop), EnR K H W A env σ ∧ Dp K (HW H W) v x ∧ t x env Qd ∧
  ∀ σ' env', EnR K H W A env' σ' → (∀ vs : List Nat, (∀ i, i ∈ T → i ∈ vs) → wipe σ' vs = wipe σ vs) → Qd env' → Q σ' H
def upGs (K : PySem.W.Frag) (T : List Nat) (t : TDCs) : TGs := fun vs σ H Q => ∃ (W : List Addr) (A : List (Option Addr)) (env : En) (xs : List PyData) (Qd : En → Prop), EnR K H W A env σ ∧ DpAll K (HW H W) vs xs ∧ t xs env Qd ∧
  ∀ σ' env', EnR K H W A env' σ' → (∀ vs : List Nat, (∀ i, i ∈ T → i ∈ vs) → wipe σ' vs = wipe σ vs) → Qd env' → Q σ' H
def PDC (X : Cx) (T : List Nat) (tg : Expr) (t : TDC) : Prop := PG X tg (upG X.K T t)
def PDCs (X : Cx) (T : List Nat) (tgs : List Expr) (t : TDCs) : Prop := PGs X tgs (upGs X.K T t)
def gcName (i : Nat) : TDC := fun x env Q => env[i]? = some none ∧ Q (env.set i (some (.d x)))
def gcNil : TDCs := fun xs env Q => match xs with
  | [] => Q env
  | _ => False
def gcCons (t : TDC) (u : TDCs) : TDCs := fun xs env Q => match xs with
  | x :: r => t x env fun env1 => u r env1 Q
  | [] => False
def gcTup (n : Nat) (t : TDCs) : TDC := fun x env Q => match x with
  | .tuple xs => xs.length = n ∧ t xs env Q
  | _ => False
theorem wipe_get (σ : L2.St) : ∀ (vs : List Nat) (j : Nat), (wipe σ vs)[j]? = if j ∈ vs ∧ j < σ.length then some none else σ[j]?
  | [], j => by simp [wipe]
  | v :: vs, j => by
    show ((wipe σ vs).set v none)[j]? = _
    rw [set_get, wipe_get σ vs j, wipe_length]
    by_cases c : v = j
    · subst c
      by_cases d : v < σ.length
      · simp [d]
      · simp [d]
    · have : j ≠ v := fun e => c e.symm
      simp [c, this]
theorem wipe_eq {σ σ' : L2.St} {vs : List Nat} (h : ∀ j, j ∉ vs → σ'[j]? = σ[j]?) (hl : σ'.length = σ.length) : wipe σ' vs = wipe σ vs := by
  refine List.ext_getElem? fun j => ?_
  rw [wipe_get, wipe_get, hl]
  by_cases c : j ∈ vs ∧ j < σ.length
  · rw [if_pos c, if_pos c]
  · rw [if_neg c, if_neg c]
    by_cases d : j ∈ vs
    · have : ¬ j < σ.length := fun z => c ⟨d, z⟩
      rw [List.getElem?_eq_none (by omega), List.getElem?_eq_none (by omega)]
    · exact h j d
section
variable {K : PySem.W.Frag} {H H' : Hp} {W W' : List Addr} {A : List (Option Addr)} {env env' : En} {σ σ' : L2.St} {vs : List Nat}
theorem EnR.noneA (E : EnR K H W A env σ) {i : Nat} (h : env[i]? = some none) : A.set i none = A := by
  refine List.ext_getElem? fun j => ?_
  rw [set_get]
  by_cases c : i = j
  · subst c
    have hi : i < A.length := by rw [E.lenA]; exact (List.getElem?_eq_some_iff.mp h).1
    rw [if_pos rfl, if_pos hi, List.getElem?_eq_getElem hi]
    cases e : A[i] with
    | none => rfl
    | some a =>
      obtain ⟨_, s, hs, _⟩ := E.back i a (by rw [List.getElem?_eq_getElem hi, e])
      rw [h] at hs; cases hs
  · rw [if_neg c]
end
section
variable {X : Cx} {T T1 T2 : List Nat} {tg e : Expr} {es : List Expr} {t : TDC} {u : TDCs} {pos : Pos}
theorem pdc_name {i : Nat} {x : Str} (h : PG X (.Name x pos) (gName i)) : PDC X [i] (.Name x pos) (gcName i) := by
  refine ⟨fun pins s σ H v w Q I r ⟨W, A, env, y, Qd, E, d, ⟨h1, h2⟩, k⟩ => h.run pins s σ H v w Q I r ?_⟩
  have hi : i < env.length := (List.getElem?_eq_some_iff.mp h1).1
  have E2 := E.setD hi d
  rw [E.noneA h1] at E2
  refine k _ _ E2 (fun vs hv => wipe_eq (fun j hj => ?_) (by simp)) h2
  rw [set_get, if_neg fun c => hj (by rw [← c]; exact hv i (by simp))]
theorem pdcs_nil : PDCs X [] [] gcNil := by
  refine ⟨fun pins s σ H vs us Q I r ⟨W, A, env, xs, Qd, E, d, ht, k⟩ => pgs_nil.run pins s σ H vs us Q I r ?_⟩
  cases d with
  | nil => exact ⟨rfl, k σ env E (fun _ _ => rfl) ht⟩
  | cons _ _ => exact ht.elim
theorem pdcs_cons (h1 : PDC X T1 e t) (h2 : PDCs X T2 es u) (hs : (assignEach (e :: es) X.env).map (·.2) = assign e X.env :: (assignEach es X.env).map (·.2) := by rfl) : PDCs X (T1 ++ T2) (e :: es) (gcCons t u) := by
  refine ⟨fun pins s σ H vs us Q I r ⟨W, A, env, xs, Qd, E, d, ht, k⟩ => (pgs_cons h1 h2 hs).run pins s σ H vs us Q I r ?_⟩
  cases d with
  | nil => exact ht.elim
  | cons d1 d2 =>
    refine ⟨_, _, rfl, W, A, env, _, _, E, d1, ht, fun σ1 env1 E1 w1 h3 => ⟨W, A, env1, _, _, E1, d2, h3, fun σ2 env2 E2 w2 h4 => k σ2 env2 E2 (fun vs hv => ?_) h4⟩⟩
    rw [w2 vs fun i hi => hv i (List.mem_append_right _ hi), w1 vs fun i hi => hv i (List.mem_append_left _ hi)]
theorem pdc_tup {k n : Nat} (hc : X.calm = true) (h : PDCs X T es u) (hn : (assignEach es X.env).length = n := by rfl) (hst : (assignEach es X.env).findIdx? (·.1) = none := by rfl) : PDC X T (.Tuple es k pos) (gcTup n u) := by
  refine ⟨fun pins s σ H v w Q I r ⟨W, A, env, x, Qd, E, d, ht, k⟩ => (pg_tup hc h hn hst).run pins s σ H v w Q I r ?_⟩
  cases x with
  | tuple xs =>
    cases d with
    | tup sq dl => exact ⟨_, _, rfl, same_t hw_same sq, dl.len.trans ht.1, W, A, env, xs, Qd, E, dl, ht.2, k⟩
  | _ => exact ht.elim
end

/-! ### comprehensions -/
def wipeE (env : En) : List Nat → En
  | [] => env
  | v :: vs => (wipeE env vs).set v none
def mergeE (env env' : En) : List Nat → En
  | [] => env'
  | v :: vs => (mergeE env env' vs).set v (match env[v]? with
    | some s => s
    | none => none)
def noOwn (env : En) : List Nat → Prop
  | [] => True
  | v :: vs => (match env[v]? with
    | some (some s) => s.isD = true
    | _ => True) ∧ noOwn env vs
theorem noOwn_at {env : En} {v : Nat} {s : Sl} (e : env[v]? = some (some s)) : ∀ (vs : List Nat), noOwn env vs → v ∈ vs → s.isD = true := by
  intro vs
  induction vs with
  | nil => intro _ h; exact absurd h (by simp)
  | cons w r ih =>
    intro h hv
    by_cases c : v = w
    · subst c
      have h1 := h.1
      simp only [e] at h1
      exact h1
    · exact ih h.2 ((List.mem_cons.mp hv).resolve_left c)
theorem wipeE_get (env : En) : ∀ (vs : List Nat) (j : Nat), (wipeE env vs)[j]? = if j ∈ vs ∧ j < env.length then some none else env[j]?
  | [], j => by simp [wipeE]
  | v :: vs, j => by
    have hl : ∀ vs : List Nat, (wipeE env vs).length = env.length := fun vs => by
      induction vs with
      | nil => rfl
      | cons a r ih => show ((wipeE env r).set a none).length = _; rw [List.length_set, ih]
    show ((wipeE env vs).set v none)[j]? = _
    rw [set_get, wipeE_get env vs j, hl]
    by_cases c : v = j
    · subst c
      by_cases d : v < env.length
      · simp [d]
      · simp [d]
    · have : j ≠ v := fun e => c e.symm
      simp [c, this]
theorem wipeE_len (env : En) : ∀ vs : List Nat, (wipeE env vs).length = env.length
  | [] => rfl
  | v :: vs => by show ((wipeE env vs).set v none).length = _; rw [List.length_set, wipeE_len env vs]
theorem mergeE_len (env env' : En) : ∀ vs : List Nat, (mergeE env env' vs).length = env'.length
  | [] => rfl
  | v :: vs => by unfold mergeE; rw [List.length_set, mergeE_len env env' vs]
theorem mergeE_get (env env' : En) (hl : env'.length = env.length) : ∀ (vs : List Nat) (j : Nat), (mergeE env env' vs)[j]? = if j ∈ vs then env[j]? else env'[j]?
  | [], j => by simp [mergeE]
  | v :: vs, j => by
    unfold mergeE
    rw [set_get, mergeE_get env env' hl vs j, mergeE_len]
    by_cases c : v = j
    · subst c
      simp only [if_true, List.mem_cons, true_or]
      by_cases d : v < env'.length
      · rw [if_pos d, List.getElem?_eq_getElem (show v < env.length by omega)]
      · rw [if_neg d, List.getElem?_eq_none (by omega)]
    · have : j ≠ v := fun e => c e.symm
      simp [c, this]
section
variable {K : PySem.W.Frag} {H H' : Hp} {W W' : List Addr} {A : List (Option Addr)} {env env' : En} {σ σ' : L2.St} {vs : List Nat}
theorem EnR.notA (E : EnR K H W A env σ) (hn : noOwn env vs) {i : Nat} {a : Addr} (hi : i ∈ vs) : A[i]? ≠ some (some a) := fun e => by
  obtain ⟨_, s, hs, hd⟩ := E.back i a e
  rw [noOwn_at hs vs hn hi] at hd; cases hd
theorem EnR.wipe (E : EnR K H W A env σ) (hn : noOwn env vs) : EnR K H W A (wipeE env vs) (L2.wipe σ vs) := by
  refine ⟨by rw [wipeE_len, wipe_length]; exact E.len, by rw [wipeE_len]; exact E.lenA, fun i x h => ?_, fun i s h hs => ?_, fun i a h => ?_, E.inj, E.trk⟩
  · rw [wipeE_get] at h
    split at h
    · cases h
    · rename_i c
      obtain ⟨x1, v, x2, x3⟩ := E.dat i x h
      refine ⟨x1, v, ?_, x3⟩
      rw [wipe_get, E.len, if_neg c]
      exact x2
  · rw [wipeE_get] at h
    split at h
    · cases h
    · rename_i c
      obtain ⟨a, x1, x2, x3⟩ := E.own i s h hs
      refine ⟨a, x1, ?_, x3⟩
      rw [wipe_get, E.len, if_neg c]
      exact x2
  · obtain ⟨x1, s, x2, x3⟩ := E.back i a h
    refine ⟨x1, s, ?_, x3⟩
    rw [wipeE_get, if_neg fun c => E.notA hn c.1 h]
    exact x2
theorem EnR.merge (E : EnR K H W A env σ) (E' : EnR K H' W' A env' σ') (S : Stp A H W H' W') (hw : L2.wipe σ' vs = L2.wipe σ vs) (hn : noOwn env vs) : EnR K H' W' A (mergeE env env' vs) σ := by
  have hl : env'.length = env.length := by rw [← E'.lenA, ← E.lenA]
  have hσ : ∀ j, j ∉ vs → σ'[j]? = σ[j]? := fun j hj => by
    have := congrArg (fun l => l[j]?) hw
    simp only [wipe_get, hj, false_and, if_false] at this
    exact this
  refine ⟨by rw [mergeE_len, hl]; exact E.len, by rw [mergeE_len]; exact E'.lenA, fun i x h => ?_, fun i s h hs => ?_, fun i a h => ?_, E.inj, E'.trk⟩
  · rw [mergeE_get env env' hl] at h
    split at h
    · obtain ⟨x1, v, x2, x3⟩ := E.dat i x h
      exact ⟨x1, v, x2, S.dp E.ain x3⟩
    · rename_i c
      obtain ⟨x1, v, x2, x3⟩ := E'.dat i x h
      exact ⟨x1, v, by rw [← hσ i c]; exact x2, x3⟩
  · rw [mergeE_get env env' hl] at h
    split at h
    · rename_i c
      rw [noOwn_at h vs hn c] at hs; cases hs
    · rename_i c
      obtain ⟨a, x1, x2, x3⟩ := E'.own i s h hs
      exact ⟨a, x1, by rw [← hσ i c]; exact x2, x3⟩
  · obtain ⟨x1, s, x2, x3⟩ := E'.back i a h
    refine ⟨x1, s, ?_, x3⟩
    rw [mergeE_get env env' hl, if_neg fun c => E.notA hn c h]
    exact x2
end
theorem EnR.hid {K : PySem.W.Frag} {H : Hp} {W : List Addr} {A : List (Option Addr)} {env : En} {σ : L2.St} {D : Addr} {o : HO} (E : EnR K H W A env σ) (hD : D ∈ W) (hA : some D ∉ A) : EnR K (upd H D o) W A env σ := by
  refine ⟨E.len, E.lenA, fun i x h => ?_, fun i s h hs => ?_, E.back, E.inj, fun p hp => ?_⟩
  · obtain ⟨x1, v, x2, x3⟩ := E.dat i x h
    exact ⟨x1, v, x2, by rw [hw_upd hD]; exact x3⟩
  · obtain ⟨a, x1, x2, x3⟩ := E.own i s h hs
    exact ⟨a, x1, x2, x3.mono (by rw [hw_upd hD]; exact Same.refl _) (upd_ne fun z => hA (by rw [← z]; exact List.mem_of_getElem? x1))⟩
  · by_cases c : p = D
    · rw [c, upd_same]; simp
    · rw [upd_ne c]; exact E.trk p hp
/-- [elt for target in iter if ..] -/
def tdLc (ti : TDI) (g : TDC) (tt : TDT) (te : TD) (vs : List Nat) : TD := fun env Q => ti env fun xs env1 => ∃ Pv : Nat → List PyData → En → Prop, Pv 0 [] env1 ∧
  (∀ i x acc env, xs[i]? = some x → Pv i acc env → noOwn env vs ∧ g x (wipeE env vs) fun env2 => tt env2 fun b env3 => if b = true then te env3 fun rv env4 => (match rvD rv with
    | some y => acc.length < sizeLine ∧ Pv (i + 1) (acc ++ [y]) (mergeE env env4 vs)
    | none => False) else Pv (i + 1) acc (mergeE env env3 vs)) ∧
  ∀ acc env, Pv xs.length acc env → Q (.n (.l acc)) env
section
variable {X : Cx} {T : List Nat} {tg iter elt : Expr} {ifs : List Expr} {scope : Scope} {own : List (Str × Nat)} {pos spos : Pos} {ti : TDI} {g : TDC} {tt : TDT} {te : TD}
theorem lc_go {wi : TI} {σ : L2.St} {H : Hp} {W : List Addr} {A : List (Option Addr)} {env : En} {Q : VK} {Qd : Rv → En → Prop} {vs : List Nat} (hT : ∀ i, i ∈ T → i ∈ vs)
    (q1 : ∀ (σ : L2.St) (H : Hp) (W : List Addr) (A : List (Option Addr)) (env : En) (R : It → Hp → Prop) (Qd : List PyData → En → Prop), EnR X.K H W A env σ → ti env Qd → (∀ J H' W' env' xs, EnR X.K H' W' A env' σ → Stp A H W H' W' → Walk X.K J (HW H' W') xs → Qd xs env' → R J H') → wi σ H R)
    (E : EnR X.K H W A env σ) (ht : tdLc ti g tt te vs env Qd) (k : ∀ v H' W' env' rv, EnR X.K H' W' A env' σ → Stp A H W H' W' → RvR X.K H W H' W' A rv v → Qd rv env' → Q v H') :
    tLc wi (upG X.K T g) (upT X.K tt) (upE X.K te) vs σ H Q := by
  refine q1 σ H W A env _ _ E ht fun J H1 W1 env1 xs E1 S1 Wk h1 => ?_
  obtain ⟨Pv, h0, hs, hd⟩ := h1
  intro D hD
  have nDA : some D ∉ A := fun z => E1.trk D (E1.ain D z) hD
  have nDW : D ∉ W1 := fun z => E1.trk D z hD
  have g0 : Grow H1 W1 (upd H1 D (.lst [])) (D :: W1) := grow_own hD
  refine ⟨fun i m H2 => m = xs.length - i ∧ i ≤ xs.length ∧ ∃ W2 env2 acc accV, EnR X.K H2 W2 A env2 σ ∧ D ∈ W2 ∧ H2 D = some (.lst accV) ∧ DpAll X.K (HW H2 W2) accV acc ∧ Stp A H1 W1 H2 W2 ∧ Pv i acc env2,
    ⟨_, rfl, Nat.zero_le _, D :: W1, env1, [], [], g0.en E1, List.mem_cons_self, upd_same, .nil, g0.stp, h0⟩, ?_⟩
  rintro i m H2 ⟨rfl, hle, W2, env2, acc, accV, E2, hDW, hDl, dacc, S2, hP⟩
  obtain ⟨wg, ws⟩ := Wk H2 W2 (S2.same E1.ain) E2.trk i
  by_cases hlt : i < xs.length
  · obtain ⟨go, yl⟩ := wg xs[i] (by simp [hlt])
    refine .inr ⟨go, fun H' => ∃ W2 env2 acc accV, EnR X.K H' W2 A env2 σ ∧ D ∈ W2 ∧ H' D = some (.lst accV) ∧ DpAll X.K (HW H' W2) accV acc ∧ Stp A H1 W1 H' W2 ∧ Pv (i + 1) acc env2, fun H' q => ⟨xs.length - (i + 1), by omega, rfl, hlt, q⟩, fun v H3 y => ?_⟩
    obtain ⟨gr, dv⟩ := yl v H3 y
    obtain ⟨hno, hg⟩ := hs i xs[i] acc env2 (by simp [hlt]) hP
    have E3 := (gr.en E2)
    refine ⟨W2, A, wipeE env2 vs, xs[i], _, E3.wipe hno, dv, hg, fun σ4 env4 E4 w4 h4 => ?_⟩
    have hw4 : L2.wipe σ4 vs = L2.wipe σ vs := by
      rw [w4 vs hT]
      exact wipe_eq (fun j hj => by rw [wipe_get]; simp [hj]) (wipe_length _ _)
    refine ⟨hw4, W2, A, env4, _, E4, h4, fun b H5 W5 env5 E5 S5 h5 => ?_⟩
    have Sg : Stp A H2 W2 H5 W5 := gr.stp.trans S5
    have keepD : ∀ {H6 : Hp} {W6 : List Addr}, Stp A H2 W2 H6 W6 → H6 D = some (.lst accV) ∧ D ∈ W6 ∧ DpAll X.K (HW H6 W6) accV acc := fun {H6 W6} S => ⟨S.ext D _ hDl nDA, S.up D hDW, S.dpa E2.ain dacc⟩
    cases b with
    | false =>
      obtain ⟨k1, k2, k3⟩ := keepD Sg
      exact ⟨W5, _, acc, accV, E2.merge E5 Sg hw4 hno, k2, k1, k3, S2.trans Sg, h5⟩
    | true =>
      refine ⟨W5, A, env5, _, E5, h5, fun u H6 W6 env6 rv E6 S6 R6 h6 => ?_⟩
      split at h6
      · rename_i y ey
        have S26 := Sg.trans S6
        obtain ⟨W7, s1, s2, d⟩ := R6.keepD S6 ey
        obtain ⟨k1, k2, k3⟩ := keepD S26
        have hD7 : D ∈ W7 := s2 D k2 (Sg.up D hDW)
        have S7 : Stp A H2 W2 H6 W7 := S26.sub s1 fun q hq hq0 => s2 q hq (Sg.up q hq0)
        have E7 := E6.sub s1 fun a ha => s2 a (E6.ain a ha) (E5.ain a ha)
        have E8 := E2.merge E7 S7 hw4 hno
        refine ⟨accV, k1, by rw [k3.len]; exact h6.1, W7, _, acc ++ [y], accV ++ [u], ?_, hD7, upd_same, ?_, ?_, h6.2⟩
        · exact E8.hid hD7 nDA
        · rw [hw_upd hD7]
          exact (dpa_mono (sub_same s1) _ k3).app (.cons d .nil)
        · have S8 := S2.trans S7
          refine ⟨fun b o h n => ?_, fun b h => ?_, S8.up, fun p hp => ?_⟩
          · have c : b ≠ D := fun z => by rw [z, hD] at h; cases h
            rw [upd_ne c]
            exact S8.ext b o h n
          · by_cases c : b = D
            · rw [c, upd_same]; simp
            · rw [upd_ne c]; exact S8.there b h
          · rcases S8.fr p hp with z | z
            · exact .inl z
            · refine .inr ⟨z.1, ?_⟩
              by_cases c : p = D
              · rw [c, upd_same]; simp
              · rw [upd_ne c]; exact z.2
      · exact h6.elim
  · have e : i = xs.length := by omega
    subst e
    refine .inl ⟨ws (Nat.le_refl _), ?_⟩
    refine k (.ref D) H2 W2 env2 (.n (.l acc)) E2 (S1.trans S2) ⟨D, rfl, S1.back hD, hDW, fun z => nDW (S1.up D z), accV, hDl, dacc⟩ (hd acc env2 hP)
theorem pd_lc (hc : X.calm = true) (hN : X.N.Nodup) (hi : PDI X tg iter ti) (ok : BlkOk X.N X.env.scope scope own) (hT : ∀ i, i ∈ T → i ∈ own.map (·.2))
    (hg : ∀ (s : Shared) (H : Hp) (C : Addr) (cl : List (Str × Addr)) (fp : List Addr), PDC (X.blk s H scope (compEnvC scope cl C X.env) fp) T tg g) (ht : ∀ (s : Shared) (H : Hp) (C : Addr) (cl : List (Str × Addr)) (fp : List Addr), PDTs (X.blk s H scope (compEnvC scope cl C X.env) fp) ifs tt)
    (he : ∀ (s : Shared) (H : Hp) (C : Addr) (cl : List (Str × Addr)) (fp : List Addr), PD (X.blk s H scope (compEnvC scope cl C X.env) fp) elt te) (hs : ∀ x, foldedSetIterable iter X.env x = pure x := by intro _; rfl) :
    PD X (.ListComp elt [⟨tg, iter, ifs, 0⟩] scope pos) (tdLc ti g tt te (own.map (·.2))) := by
  obtain ⟨wi, p1, q1⟩ := hi
  exact ⟨_, pe_lc (g := upG X.K T g) (tt := upT X.K tt) (te := upE X.K te) hc hN p1 ok hg ht (fun s H C cl fp => (he s H C cl fp).up) hs, fun σ H W A env Q Qd E h k => lc_go hT q1 E h k⟩
/-- name = [..] on one line, the name a local -/
theorem psd_setLc {N : List Nat × List Nat} {keep : Bool} {i : Nat} {y : Str} {py : Pos} (hc : X.calm = true) (hN : X.N.Nodup) (hy : X.N[i]? = some y) (hyl : X.env.scope.names.lookup y = some .local)
    (hsw : swapsWith (.ListComp elt [⟨tg, iter, ifs, 0⟩] scope pos) (some (.Name y py)) spos.line X.env = pure true) (hi : PDI X tg iter ti) (ok : BlkOk X.N X.env.scope scope own) (hT : ∀ i, i ∈ T → i ∈ own.map (·.2))
    (hg : ∀ (s : Shared) (H : Hp) (C : Addr) (cl : List (Str × Addr)) (fp : List Addr), PDC (X.blk s H scope (compEnvC scope cl C X.env) fp) T tg g) (ht : ∀ (s : Shared) (H : Hp) (C : Addr) (cl : List (Str × Addr)) (fp : List Addr), PDTs (X.blk s H scope (compEnvC scope cl C X.env) fp) ifs tt)
    (he : ∀ (s : Shared) (H : Hp) (C : Addr) (cl : List (Str × Addr)) (fp : List Addr), PD (X.blk s H scope (compEnvC scope cl C X.env) fp) elt te) (hM : i ∉ N.1 := by decide) (hs : ∀ x, foldedSetIterable iter X.env x = pure x := by intro _; rfl) :
    PSD X N (.Assign [.Name y py] (.ListComp elt [⟨tg, iter, ifs, 0⟩] scope pos) spos) (if keep = true then tdSet i (tdLc ti g tt te (own.map (·.2))) else tdSetD i (tdLc ti g tt te (own.map (·.2)))) := by
  obtain ⟨wi, p1, q1⟩ := hi
  refine ⟨_, ps_setLc (g := upG X.K T g) (tt := upT X.K tt) (te := upE X.K te) hc hN hy hyl hsw p1 ok hg ht (fun s H C cl fp => (he s H C cl fp).up) hs, fun B D Dd σ H W A env hB R h O => ?_⟩
  have q2 : ∀ (σ : L2.St) (H : Hp) (W : List Addr) (A : List (Option Addr)) (env : En) (Q : VK) (Qd : Rv → En → Prop), EnR X.K H W A env σ → tdLc ti g tt te (own.map (·.2)) env Qd → (∀ v H' W' env' rv, EnR X.K H' W' A env' σ → Stp A H W H' W' → RvR X.K H W H' W' A rv v → Qd rv env' → Q v H') → tLc wi (upG X.K T g) (upT X.K tt) (upE X.K te) (own.map (·.2)) σ H Q :=
    fun σ H W A env Q Qd E h k => lc_go hT q1 E h k
  cases keep with
  | false => exact set_d q2 hM hB R h O
  | true =>
    have h : tdSet i (tdLc ti g tt te (own.map (·.2))) Dd env := h
    refine q2 σ H W A env _ _ R.en h fun v H1 W1 env1 rv E1 S1 R1 h1 => ?_
    have R' := R.step S1 E1
    cases rv with
    | d x => exact O.nx _ H1 W1 _ _ (R'.setD hB hM h1.1 R1) h1.2
    | n s =>
      obtain ⟨p, rfl, h2, h3, h4, h5⟩ := R1
      exact O.nx _ H1 W1 _ _ (R'.setO hB hM h1.1.1 h3 (fun z => h4 (R.en.ain p z)) (back0 R h2) h5 h1.1.2 fun q hq e => by rw [← e, (R.fz q hq).1] at h2; cases h2) h1.2
    | o j => exact h1.elim
end
end DL

set_option Elab.async false
set_option linter.all false
set_option maxRecDepth 100000
set_option maxHeartbeats 4000000
set_option autoImplicit false
namespace DL
open PySem PySem.Spec L2

/-! ### dicts whose keys are ints and texts -/
def valD (kvs : List (Key × PyData)) (k : Key) : Option PyData := (kvs.find? fun kv => decide (kv.1 = k)).map (·.2)
def putD (kvs : List (Key × PyData)) (k : Key) (v : PyData) : List (Key × PyData) :=
  if (kvs.any fun kv => decide (kv.1 = k)) = true then kvs.map (fun kv => if kv.1 = k then (kv.1, v) else kv) else kvs ++ [(k, v)]
def keyD : PyData → Option Key
  | .int i => some (.inl i)
  | .str s => some (.inr s)
  | _ => none
def keyOf : Key → PyData
  | .inl i => .int i
  | .inr s => .str s
section
variable {K : PySem.W.Frag} {H : Hp} {W : List Addr} {v : V} {x : PyData} {k : Key}
theorem keyD_v (h : keyD x = some k) (d : Dq K H W v x) : v = kV k := by
  cases x with
  | int i => cases h; exact d.int
  | str s => cases h; exact d.str
  | _ => cases h
theorem key_dp (k : Key) : Dp K H (kV k) (keyOf k) := by
  cases k with
  | inl i => exact .int i
  | inr s => exact .str s
abbrev DP (K : PySem.W.Frag) (H : Hp) : List (Key × V) → List (Key × PyData) → Prop := Paired fun p q => p.1 = q.1 ∧ Dp K H p.2 q.2
theorem dp_in : ∀ {ws : List (Key × V)} {kvs : List (Key × PyData)}, ws.map (·.1) = kvs.map (·.1) → DpAll K H (ws.map (·.2)) (kvs.map (·.2)) → DP K H ws kvs
  | [], [], _, _ => .nil
  | [], _ :: _, e, _ => by simp at e
  | _ :: _, [], e, _ => by simp at e
  | p :: ws, q :: kvs, e, d => by
    simp only [List.map_cons, List.cons.injEq] at e
    rw [List.map_cons, List.map_cons] at d
    cases d with
    | cons d1 d2 => exact .cons ⟨e.1, d1⟩ (dp_in e.2 d2)
theorem dp_out : ∀ {ws : List (Key × V)} {kvs : List (Key × PyData)}, DP K H ws kvs → ws.map (·.1) = kvs.map (·.1) ∧ DpAll K H (ws.map (·.2)) (kvs.map (·.2))
  | _, _, .nil => ⟨rfl, .nil⟩
  | _, _, .cons a b => by
    obtain ⟨h1, h2⟩ := dp_out b
    exact ⟨by simp [a.1, h1], .cons a.2 h2⟩
theorem dp_len {ws : List (Key × V)} {kvs : List (Key × PyData)} (h : DP K H ws kvs) : ws.length = kvs.length := Paired.length h
theorem dp_val (k : Key) {ws : List (Key × V)} {kvs : List (Key × PyData)} (h : DP K H ws kvs) : (valV ws k = none ∧ valD kvs k = none) ∨ ∃ v x, valV ws k = some v ∧ valD kvs k = some x ∧ Dp K H v x := by
  induction h with
  | nil => exact .inl ⟨rfl, rfl⟩
  | @cons p q ws kvs a b ih =>
    by_cases c : p.1 = k
    · refine .inr ⟨p.2, q.2, ?_, ?_, a.2⟩
      · simp [valV, List.find?_cons, c]
      · simp [valD, List.find?_cons, ← a.1, c]
    · have c' : ¬ q.1 = k := by rw [← a.1]; exact c
      have e1 : valV (p :: ws) k = valV ws k := by simp [valV, List.find?_cons, c]
      have e2 : valD (q :: kvs) k = valD kvs k := by simp [valD, List.find?_cons, c']
      rw [e1, e2]
      exact ih
theorem dp_any (k : Key) {ws : List (Key × V)} {kvs : List (Key × PyData)} (h : DP K H ws kvs) : (ws.any fun kv => decide (kv.1 = k)) = kvs.any fun kv => decide (kv.1 = k) := by
  induction h with
  | nil => rfl
  | cons a b ih => rw [List.any_cons, List.any_cons, ih, a.1]
theorem dp_map (k : Key) {v : V} {x : PyData} (d : Dp K H v x) {ws : List (Key × V)} {kvs : List (Key × PyData)} (h : DP K H ws kvs) : DP K H (ws.map fun kv => if kv.1 = k then (kv.1, v) else kv) (kvs.map fun kv => if kv.1 = k then (kv.1, x) else kv) := by
  induction h with
  | nil => exact .nil
  | @cons p q ws kvs a b ih =>
    rw [List.map_cons, List.map_cons]
    refine .cons ?_ ih
    by_cases c : p.1 = k
    · rw [if_pos c, if_pos (by rw [← a.1]; exact c)]
      exact ⟨a.1, d⟩
    · rw [if_neg c, if_neg (by rw [← a.1]; exact c)]
      exact a
theorem dp_snoc {p : Key × V} {q : Key × PyData} (hp : p.1 = q.1 ∧ Dp K H p.2 q.2) {ws : List (Key × V)} {kvs : List (Key × PyData)} (h : DP K H ws kvs) : DP K H (ws ++ [p]) (kvs ++ [q]) := by
  induction h with
  | nil => exact .cons hp .nil
  | cons a b ih => exact .cons a ih
theorem dp_put (k : Key) {v : V} {x : PyData} (d : Dp K H v x) {ws : List (Key × V)} {kvs : List (Key × PyData)} (h : DP K H ws kvs) : DP K H (putK ws k v) (putD kvs k x) := by
  unfold putK putD
  rw [dp_any k h]
  split
  · exact dp_map k d h
  · exact dp_snoc ⟨rfl, d⟩ h
theorem dp_get {i : Nat} {k : Key} {x : PyData} {ws : List (Key × V)} {kvs : List (Key × PyData)} (h : DP K H ws kvs) (e : kvs[i]? = some (k, x)) : ∃ v, ws[i]? = some (k, v) ∧ Dp K H v x := by
  induction h generalizing i with
  | nil => simp at e
  | @cons p q ws kvs a b ih =>
    cases i with
    | zero =>
      simp only [List.getElem?_cons_zero, Option.some.injEq] at e
      refine ⟨p.2, ?_, by rw [show x = q.2 by rw [e]]; exact a.2⟩
      simp only [List.getElem?_cons_zero, Option.some.injEq]
      rw [show k = p.1 by rw [a.1, e]]
    | succ i =>
      simp only [List.getElem?_cons_succ] at e ⊢
      exact ih e
end
/-- {} -/
def tdNew : TD := fun env Q => Q (.n (.m [])) env
/-- d.get(k, x), d a name of the def -/
def tdGet2 (i : Nat) (tk tx : TD) : TD := fun env Q => match env[i]? with
  | some (some (.m _)) => tk env fun rk env1 => tx env1 fun rx env2 => match env2[i]?, res env2 rk, rvD rx with
    | some (some (.m kvs)), some y, some z => match keyD y with
      | some k => Q (.d ((valD kvs k).getD z)) env2
      | none => False
    | _, _, _ => False
  | _ => False
/-- d[k] = e -/
def tdPut (i : Nat) (tk te : TD) : TDS := fun D env => te env fun rv env1 => match env1[i]? with
  | some (some (.m _)) => tk env1 fun rk env2 => match env2[i]?, res env2 rk, rvD rv with
    | some (some (.m kvs)), some y, some x => match keyD y with
      | some k => kvs.length < sizeLine ∧ D.nx (env2.set i (some (.m (putD kvs k x))))
      | none => False
    | _, _, _ => False
  | _ => False
section
variable {X : Cx} {o e f idx : Expr} {te tk tx : TD} {pos pos' apos cpos tpos : Pos} {i : Nat}
theorem EnR.dct {K : PySem.W.Frag} {H : Hp} {W : List Addr} {A : List (Option Addr)} {env : En} {σ : L2.St} {i : Nat} {kvs : List (Key × PyData)} (E : EnR K H W A env σ) (h : env[i]? = some (some (.m kvs))) :
    ∃ a ws, A[i]? = some (some a) ∧ a ∈ W ∧ σ[i]? = some (some (.ref a)) ∧ H a = some (.dK ws) ∧ DP K (HW H W) ws kvs := by
  obtain ⟨a, ha, hv, ws, h1, h2, h3⟩ := E.own i _ h rfl
  exact ⟨a, ws, ha, (E.back i a ha).1, hv, h1, dp_in h2 h3⟩
theorem pd_new : PD X (.Dict [] [] pos) tdNew := by
  refine ⟨_, pe_dnewK, fun σ H W A env Q Qd E ht k => ?_⟩
  intro p hp
  have g : Grow H W (upd H p (.dK [])) (p :: W) := grow_own hp
  exact k (.ref p) _ (p :: W) env (.n (.m [])) (g.en E) g.stp ⟨p, rfl, hp, List.mem_cons_self, fun z => E.trk p z hp, [], upd_same, rfl, .nil⟩ ht
theorem pd_get2 (hu : X.A.units + 1 < cLine) (ho : PE X o (tVar i)) (he : PD X e tk) (hf : PD X f tx) (m : M2 X o "get" apos e f cpos := by exact ⟨rfl, rfl, rfl, rfl⟩) : PD X (.Call (.Attribute o "get" apos) [e, f] [] cpos) (tdGet2 i tk tx) := by
  obtain ⟨t1, p1, q1⟩ := he
  obtain ⟨t2, p2, q2⟩ := hf
  refine ⟨_, pe_dget2 hu ho p1 p2 m, fun σ H W A env Q Qd E ht k => ?_⟩
  unfold tdGet2 at ht
  split at ht
  · rename_i kvs0 h0
    obtain ⟨a, ws0, ha, hw, hv, h3, h4⟩ := E.dct h0
    refine ⟨_, hv, a, rfl, .inl ⟨ws0, .inl h3⟩, ?_⟩
    refine q1 σ H W A env _ _ E ht fun y H1 W1 env1 rk E1 S1 R1 h1 => ?_
    refine q2 σ H1 W1 A env1 _ _ E1 h1 fun z H2 W2 env2 rx E2 S2 R2 h2 => ?_
    split at h2
    · rename_i kvs y' z' hd ey ez
      split at h2
      · rename_i key ek
        obtain ⟨W', s1, s2, d⟩ := R2.keepD S2 ez
        have E' := E2.sub s1 fun a ha => s2 a (E2.ain a ha) (E1.ain a ha)
        have S' := (S1.trans S2).sub s1 fun q hq hq0 => s2 q hq (S1.up q hq0)
        obtain ⟨a', ws, ha', hw', hv', h5, h6⟩ := E'.dct hd
        rw [ha] at ha'; cases ha'
        have hy := keyD_v ek (Dq.of_rv E2 (R1.step S2 E1.ain E.ain) ey)
        subst hy
        refine ⟨valV ws key, DGet.k h5, ?_⟩
        rcases dp_val key h6 with ⟨e1, e2⟩ | ⟨v, x, e1, e2, dv⟩
        · rw [e1]
          rw [e2] at h2
          exact k z H2 W' env2 (.d z') E' S' d h2
        · rw [e1]
          rw [e2] at h2
          exact k v H2 W' env2 (.d x) E' S' dv h2
      · exact h2.elim
    · exact h2.elim
  · exact ht.elim
theorem psd_put {N : List Nat × List Nat} (hu : X.A.units + 1 < cLine) (ho : PE X o (tVar i)) (hk : PD X idx tk) (he : PD X e te) (hs : swapsWith e (some (.Subscript o idx pos')) pos.line X.env = pure false := by rfl) : PSD X N (.Assign [.Subscript o idx pos'] e pos) (tdPut i tk te) := by
  obtain ⟨t1, p1, q1⟩ := he
  obtain ⟨t2, p2, q2⟩ := hk
  refine ⟨_, ps_dput hu ho p2 p1 hs, fun B D Dd σ H W A env hB R h O => ?_⟩
  refine q1 σ H W A env _ _ R.en h fun v H1 W1 env1 rv E1 S1 R1 h1 => ?_
  split at h1
  · rename_i kvs0 h0
    obtain ⟨a, ws0, ha, hw, hv, h3, h4⟩ := E1.dct h0
    refine ⟨_, hv, ?_⟩
    refine q2 σ H1 W1 A env1 _ _ E1 h1 fun y H2 W2 env2 rk E2 S2 R2 h2 => ?_
    split at h2
    · rename_i kvs y' x hd ey ex
      split at h2
      · rename_i key ek
        obtain ⟨W', s1, s2, d⟩ := (R1.step S2 E1.ain R.en.ain).keepD (S1.trans S2) ex
        have E' := E2.sub s1 fun a ha => s2 a (E2.ain a ha) (R.en.ain a ha)
        have R' := (R.step (S1.trans S2) E2).sub s1 (fun a ha => s2 a (E2.ain a ha) (R.en.ain a ha)) (fun q hq => s2 q ((S1.trans S2).up q (R.up q hq)) (R.up q hq)) fun q hq => s2 q.1 ((S1.trans S2).up _ (R.fz q hq).2.2) (R.fz q hq).2.2
        obtain ⟨a', ws, ha', hw', hv', h5, h6⟩ := E'.dct hd
        rw [ha] at ha'; cases ha'
        have hy := keyD_v ek (Dq.of_rv E2 R2 ey)
        subst hy
        refine ⟨a, _, rfl, DPut.k h5 (by rw [dp_len h6]; exact h2.1), ?_⟩
        have dp := dp_out (dp_put key d h6)
        have E3 : EnR X.K (upd H2 a (.dK (putK ws key v))) W' A (env2.set i (some (.m (putD kvs key x)))) σ := E'.write (s := .m (putD kvs key x)) ha rfl ⟨_, upd_same, dp.1, by rw [hw_upd hw']; exact dp.2⟩
        exact O.nx σ _ W' A _ (R'.step (stp_write (List.mem_of_getElem? ha)) E3) h2.2
      · exact h2.elim
    · exact h2.elim
  · exact h1.elim
/-- for k, v in d.items(), d a name of the def; behind it the name is told no more -/
def tdForItems (i : Nat) (g : TDG) (tb : TDS) : TDS := fun D env => match env[i]? with
  | some (some (.m kvs)) => ∃ Pv : Nat → En → Prop, Pv 0 (env.set i none) ∧ (∀ j x env, (kvs.map fun kv => PyData.tuple [keyOf kv.1, kv.2])[j]? = some x → Pv j env → g x env fun env2 => tb { D with nx := Pv (j + 1), ct := Pv (j + 1), bk := D.nx } env2) ∧ ∀ env, Pv kvs.length env → D.nx env
  | _ => False
theorem walk_items {K : PySem.W.Frag} {G : Hp} {d : Addr} {o : Obj} {ws : List (Key × V)} {kvs : List (Key × PyData)} (h : DP K G ws kvs) (H : Hp) (W : List Addr) (hd : H d = some (.frz o (.dK ws))) (e : Same G (HW H W)) (hw : ∀ p, p ∈ W → H p ≠ none) (i : Nat) :
    (∀ x, (kvs.map fun kv => PyData.tuple [keyOf kv.1, kv.2])[i]? = some x → (Iti d o ws).go i H ∧ ∀ v H', (Iti d o ws).yld i H v H' → Grow H W H' W ∧ Dp K (HW H' W) v x) ∧ (kvs.length ≤ i → (Iti d o ws).stop i H) := by
  have hl := dp_len h
  refine ⟨fun x hx => ?_, fun hle => ⟨hd, by omega⟩⟩
  rw [List.getElem?_map] at hx
  obtain ⟨kv, hkv, rfl⟩ := Option.map_eq_some_iff.mp hx
  obtain ⟨k, y⟩ := kv
  obtain ⟨v, hv, dv⟩ := dp_get h hkv
  refine ⟨⟨hd, by rw [hl]; exact (List.getElem?_eq_some_iff.mp hkv).1⟩, fun u H' q => ?_⟩
  obtain ⟨T, k', v', h1, rfl, hT, rfl⟩ := q
  rw [hv] at h1; cases h1
  have g : Grow H W (upd H T (.tup [kV k, v])) W := grow_new hT
  refine ⟨g, .tup (.inl (.inl (hw_of (fun z => hw T z hT) upd_same))) ?_⟩
  refine dpa_mono ((g.stp (A := [])).same fun _ z => absurd z (by simp)) _ (.cons (key_dp k) (.cons (dp_mono e _ dv) .nil))
theorem psd_forItems {N : List Nat × List Nat} {elts : List Expr} {kk : Nat} {g : TDG} {tb : TDS} {body : List Stmt} (hp : PassesOwn (model X.prog X.w) X.A X.env X.xe) (hc : X.calm = true) (ho : PE X o (tVar i)) (hg : PDG X N (.Tuple elts kk tpos) g) (hb : PSDs X N body tb) (hM : i ∉ N.1 := by decide)
    (hbase : attributeBase o "items" X.env (eval o X.env) = eval o X.env := by rfl) (hline : (apos.endLine == cpos.line) = true := by rfl) (hs : ∀ x, foldedSetIterable (.Call (.Attribute o "items" apos) [] [] cpos) X.env x = pure x := by intro _; rfl) :
    PSD X N (.For (.Tuple elts kk tpos) (.Call (.Attribute o "items" apos) [] [] cpos) body [] pos) (tdForItems i g tb) := by
  obtain ⟨g1, p2, q2⟩ := hg
  obtain ⟨b1, p3, q3⟩ := hb
  refine ⟨_, ps_lock (ps_for hp hc (pi_items ho hbase hline) p2 p3 hs), fun B D Dd σ H W A env hB R h O => ?_⟩
  unfold tdForItems at h
  split at h
  · rename_i kvs hkv
    obtain ⟨Pv, h0, hs, hd⟩ := h
    obtain ⟨a, ws, ha, hw, hv, h1, h2⟩ := R.en.dct hkv
    have hi : i < env.length := (List.getElem?_eq_some_iff.mp hkv).1
    refine ⟨a, .dK ws, h1, True.intro, fun od => ?_⟩
    -- in the loop the dict is nobody's
    have notA : some a ∉ A.set i none := fun z => by
      obtain ⟨j, hj⟩ := List.mem_iff_getElem?.mp z
      rw [set_get] at hj
      split at hj
      · split at hj <;> cases hj
      · rename_i c
        exact c (R.en.inj i j a ha hj)
    have E1 : EnR X.K (upd H a (.frz od (.dK ws))) W (A.set i none) (env.set i none) σ := by
      refine ⟨by simp [R.en.len], by simp [R.en.lenA], fun j x e => ?_, fun j s e hz => ?_, fun j b e => ?_, fun j k b e1 e2 => ?_, fun p hp => ?_⟩
      · rw [set_get] at e
        split at e
        · split at e <;> cases e
        · rename_i c
          obtain ⟨x1, v, x2, x3⟩ := R.en.dat j x e
          exact ⟨by rw [set_get, if_neg c]; exact x1, v, x2, by rw [hw_upd hw]; exact x3⟩
      · rw [set_get] at e
        split at e
        · split at e <;> cases e
        · rename_i c
          obtain ⟨b, x1, x2, x3⟩ := R.en.own j s e hz
          exact ⟨b, by rw [set_get, if_neg c]; exact x1, x2, x3.mono (by rw [hw_upd hw]; exact Same.refl _) (upd_ne fun z => c (R.en.inj i j a ha (by rw [← z]; exact x1)))⟩
      · rw [set_get] at e
        split at e
        · split at e <;> cases e
        · rename_i c
          obtain ⟨x1, s, x2, x3⟩ := R.en.back j b e
          exact ⟨x1, s, by rw [set_get, if_neg c]; exact x2, x3⟩
      · rw [set_get] at e1 e2
        split at e1
        · split at e1 <;> cases e1
        · split at e2
          · split at e2 <;> cases e2
          · exact R.en.inj j k b e1 e2
      · by_cases c : p = a
        · rw [c, upd_same]; simp
        · rw [upd_ne c]; exact R.en.trk p hp
    have R1 : StR X.K { B with G := HW H W, Fz := (a, .frz od (.dK ws)) :: B.Fz } (upd H a (.frz od (.dK ws))) W (A.set i none) (env.set i none) σ := by
      refine ⟨E1, fun b o e n m => ?_, fun b e => ?_, R.up, R.fr, fun b z => R.own b ((mem_set z).resolve_left (by simp)), fun j b e => ?_, fun j b e m => ?_, fun q hq => ?_, ?_⟩
      · have c : b ≠ a := fun z => by
          rcases R.own a (List.mem_of_getElem? ha) with (y | y) | y
          · exact n (by rw [z]; exact y)
          · exact m (by rw [z]; exact y)
          · rw [z, y] at e; cases e
        rw [upd_ne c]
        exact R.old b o e n m
      · by_cases c : b = a
        · rw [c, upd_same]; simp
        · rw [upd_ne c]; exact R.there b e
      · rw [set_get, if_neg fun c => hM (by rw [c]; exact hB.n j b e)]
        exact R.par j b e
      · rw [set_get] at e
        split at e
        · split at e <;> cases e
        · exact R.mvs j b e m
      · rcases List.mem_cons.mp hq with rfl | hq
        · exact ⟨upd_same, notA, hw⟩
        · obtain ⟨z1, z2, z3⟩ := R.fz q hq
          exact ⟨by rw [upd_ne fun z => z2 (by rw [z]; exact List.mem_of_getElem? ha)]; exact z1, fun z => z2 ((mem_set z).resolve_left (Option.some_ne_none _)), z3⟩
      · rw [hw_upd hw]; exact Same.refl _
    -- behind the loop: the dict as it was
    have dn : ∀ {σ' H' W' A' env'}, StR X.K { B with G := HW H W, Fz := (a, .frz od (.dK ws)) :: B.Fz } H' W' A' env' σ' → H' a = some (.frz od (.dK ws)) ∧ StR X.K B (upd H' a (.dK ws)) W' A' env' σ' ∧ a ∈ W' := fun {σ' H' W' A' env'} r => by
      obtain ⟨f1, f2, aW⟩ := r.fz (a, .frz od (.dK ws)) List.mem_cons_self
      refine ⟨f1, ⟨r.en.hid aW f2, fun b o e n m => ?_, fun b e => ?_, r.up, r.fr, r.own, r.par, r.mvs, fun q hq => ?_, ?_⟩, aW⟩
      · have c : b ≠ a := fun z => by
          rcases R.own a (List.mem_of_getElem? ha) with (y | y) | y
          · exact n (by rw [z]; exact y)
          · exact m (by rw [z]; exact y)
          · rw [z, y] at e; cases e
        rw [upd_ne c]
        exact r.old b o e n m
      · by_cases c : b = a
        · rw [c, upd_same]; simp
        · rw [upd_ne c]; exact r.there b e
      · obtain ⟨z1, z2, z3⟩ := r.fz q (List.mem_cons_of_mem _ hq)
        have c : q.1 ≠ a := fun z => by
          obtain ⟨y1, y2, _⟩ := R.fz q hq
          exact y2 (by rw [z]; exact List.mem_of_getElem? ha)
        exact ⟨by rw [upd_ne c]; exact z1, z2, z3⟩
      · rw [hw_upd aW]
        exact fun b o e => r.seen b o (R.seen b o e)
    have hB1 : OkN { B with G := HW H W, Fz := (a, .frz od (.dK ws)) :: B.Fz } N := ⟨hB.n, hB.m, hB.w, hB.v⟩
    refine ⟨.ref a, hv, a, od, ws, rfl, upd_same, ?_⟩
    refine ⟨fun j m σ H' => m = kvs.length - j ∧ j ≤ kvs.length ∧ ∃ W' A env, StR X.K { B with G := HW H W, Fz := (a, .frz od (.dK ws)) :: B.Fz } H' W' A env σ ∧ Pv j env, ?_, ?_⟩
    · exact ⟨_, rfl, Nat.zero_le _, W, A.set i none, env.set i none, R1, h0⟩
    · rintro j m σ2 H2 ⟨rfl, hle, W2, A2, env2, R2, hP⟩
      obtain ⟨fd, _, _⟩ := R2.fz (a, .frz od (.dK ws)) List.mem_cons_self
      obtain ⟨wg, wst⟩ := walk_items (G := HW H W) h2 H2 W2 fd R2.seen R2.en.trk j
      by_cases hlt : j < kvs.length
      · obtain ⟨y0, hy0⟩ : ∃ y0, (kvs.map fun kv => PyData.tuple [keyOf kv.1, kv.2])[j]? = some y0 := ⟨_, by rw [List.getElem?_map, List.getElem?_eq_getElem hlt]; rfl⟩
        obtain ⟨go, yl⟩ := wg y0 hy0
        refine .inr ⟨go, fun σ' H' => ∃ W' A env, StR X.K { B with G := HW H W, Fz := (a, .frz od (.dK ws)) :: B.Fz } H' W' A env σ' ∧ Pv (j + 1) env, fun σ' H' q => ⟨kvs.length - (j + 1), by omega, rfl, hlt, ?_⟩, fun v H3 y => ?_⟩
        · exact q
        · obtain ⟨gr, dv⟩ := yl v H3 y
          have R3 := R2.step gr.stp (gr.en R2.en)
          refine q2 _ v y0 σ2 H3 W2 A2 env2 _ _ hB1 R3 dv (hs j _ env2 hy0 hP) fun σ' A' env' R4 h4 => ?_
          refine q3 _ _ { Dd with nx := Pv (j + 1), ct := Pv (j + 1), bk := Dd.nx } σ' H3 W2 A' env' hB1 R4 h4 ⟨fun σ H W A env r q => ⟨W, A, env, r, q⟩, fun σ H W A env r q => ?_, fun σ H W A env r q => ⟨W, A, env, r, q⟩, fun σ H W A env v s r q q' => ?_⟩
          · obtain ⟨f1, r', _⟩ := dn r
            exact ⟨f1, O.nx σ _ W A env r' q⟩
          · obtain ⟨f1, r', aW⟩ := dn r
            refine ⟨f1, O.rt σ _ W A env v s r' ?_ q'⟩
            have ow : ∀ p, OwR X.K H W p s → OwR X.K (upd H a (.dK ws)) W p s := fun p h => by
              have c : p ≠ a := fun z => by
                rw [z] at h
                cases s with
                | d _ => exact h
                | l _ => obtain ⟨_, h, _⟩ := h; rw [f1] at h; cases h
                | m _ => obtain ⟨_, h, _⟩ := h; rw [f1] at h; cases h
                | t _ => obtain ⟨_, h, _⟩ := h; rw [f1] at h; cases h
                | g _ _ => (have h2 := Eq.trans (Eq.symm h) f1; cases h2)
              exact h.mono (by rw [hw_upd aW]; exact Same.refl _) (upd_ne c)
            cases s with
            | d y => show Dp X.K (HW (upd H a (.dK ws)) W) v y; rw [hw_upd aW]; exact q
            | l _ => obtain ⟨p, e1, e2, e3, e4⟩ := q; exact ⟨p, e1, e2, e3, ow p e4⟩
            | m _ => obtain ⟨p, e1, e2, e3, e4⟩ := q; exact ⟨p, e1, e2, e3, ow p e4⟩
            | t _ => obtain ⟨p, e1, e2, e3, e4⟩ := q; exact ⟨p, e1, e2, e3, ow p e4⟩
            | g _ _ => obtain ⟨p, e1, e2, e3, e4⟩ := q; exact ⟨p, e1, e2, e3, ow p e4⟩
      · have ej : j = kvs.length := by omega
        subst ej
        obtain ⟨f1, r', _⟩ := dn R2
        exact .inl ⟨wst (Nat.le_refl _), f1, O.nx σ2 _ W2 A2 env2 r' (hd env2 hP)⟩
  · exact h.elim
end
end DL

set_option Elab.async false
set_option linter.all false
set_option maxRecDepth 100000
set_option maxHeartbeats 4000000
set_option autoImplicit false
namespace DL
open PySem PySem.Spec L2

/-! ### isinstance(x, T), T a built-in class -/
def tyN : PyData → Option String
  | .none => some "NoneType"
  | .bool _ => some "bool"
  | .int _ => some "int"
  | .str _ => some "str"
  | .list _ => some "list"
  | .tuple _ => some "tuple"
  | .dict _ => none
def isT (T : String) (x : PyData) : Bool := match x with
  | .bool _ => T == "bool" || T == "int"
  | .int _ => T == "int"
  | .str _ => T == "str"
  | .list _ => T == "list"
  | .tuple _ => T == "tuple"
  | _ => false
def IsTy (T : String) : Prop := ∀ (x : PyData) (n : String), tyN x = some n → L2.kitB n T = some (isT T x)
theorem isTy_tuple : IsTy "tuple" := fun x n h => by cases x <;> cases h <;> (simp only [isT]; decide +kernel)
theorem isTy_str : IsTy "str" := fun x n h => by cases x <;> cases h <;> (simp only [isT]; decide +kernel)
theorem isTy_int : IsTy "int" := fun x n h => by cases x <;> cases h <;> (simp only [isT]; decide +kernel)
theorem isTy_bool : IsTy "bool" := fun x n h => by cases x <;> cases h <;> (simp only [isT]; decide +kernel)
theorem isTy_list : IsTy "list" := fun x n h => by cases x <;> cases h <;> (simp only [isT]; decide +kernel)
def tdIsi (T : String) (t : TD) : TD := fun env Q => t env fun rv env1 => match res env1 rv with
  | some x => Q (.d (.bool (isT T x))) env1
  | none => False
theorem tyX_of {K : PySem.W.Frag} {H : Hp} {v : V} {x : PyData} (d : Dp K H v x) : ∃ n, tyN x = some n ∧ TyX K H v (.type n) := by
  cases d with
  | non => exact ⟨_, rfl, .base .non⟩
  | bl b => exact ⟨_, rfl, .base (.bl b)⟩
  | int i => exact ⟨_, rfl, .base (.int i)⟩
  | str s => exact ⟨_, rfl, .base (.str s)⟩
  | lst s _ =>
    refine ⟨_, rfl, ?_⟩
    rcases s with (s | ⟨o, s⟩) | ⟨o, its, n, h1, h2, _⟩
    · exact .base (.lst s)
    · exact .base (.frz s)
    · exact .kList h1 h2
  | tup s _ =>
    refine ⟨_, rfl, ?_⟩
    rcases s with (s | ⟨o, s⟩) | ⟨o, its, n, h1, h2, _⟩
    · exact .base (.tup s)
    · exact .fTuple s
    · exact .kTuple h1 h2
section
variable {X : Cx} {e o a : Expr} {te to_ : TD} {p pos q apos : Pos} {T Tn : Str}
theorem pd_isi {ty : String} (hT : IsTy ty) (hg : Gl X "isinstance") (hm : X.mg "isinstance" = none) (hg2 : Gl X Tn) (hm2 : X.mg Tn = none) (hv2 : bootBuiltins Tn = some (.type ty)) (he : PD X e te) (hn : Tn ≠ "__name__" := by decide) (hd : (Tn == ("__debug__" : Str)) = false := by decide)
    (h1 : starEach (e :: [.Name Tn q]) X.env = (false, eval e X.env) :: starEach [.Name Tn q] X.env := by rfl) (h2 : (backTo pos (starEach [.Name Tn q] X.env)).any (·.1) = false := by rfl) (h3 : starEach (.Name Tn q :: []) X.env = (false, eval (.Name Tn q) X.env) :: starEach [] X.env := by rfl) :
    PD X (.Call (.Name "isinstance" p) [e, .Name Tn q] [] pos) (tdIsi ty te) := by
  obtain ⟨t1, p1, q1⟩ := he
  refine ⟨_, pe_callB call_isi hg hm PyProof.Rows.boot_isinstance (pa_cons p1 (pa_cons (pe_bltn (v := .ty ty) hg2 hm2 hv2 rfl hn hd) pa_nil h3) h1) (by decide) (by decide) h1 h2, fun σ H W A env Q Qd E ht k => ?_⟩
  refine q1 σ H W A env _ _ E ht fun v H1 W1 env1 rv E1 S1 R1 h1 => ?_
  split at h1
  · rename_i x ex
    obtain ⟨n, e1, e2⟩ := tyX_of (Dq.of_rv E1 R1 ex).dp
    exact ⟨v, .ty ty, _, _, _, rfl, .ty ty, e2, kit_ty (hT x n e1), k (.bl _) H1 W1 env1 (.d (.bool (isT ty x))) E1 S1 (.bl _) h1⟩
  · exact h1.elim
/-! ### x in a list -/
theorem op_inA (hu : X.A.units + 65 < cLine) : OpR X (compareOp .In) (fun x y H Q => ∃ d ds, Dp X.K H x d ∧ Dp X.K H y (.tuple ds) ∧ SeqAt.shaped d = true ∧ SeqAt.shaped (.tuple ds) = true ∧ Q (.bl (ds.any fun z => PyData.eqv z d)) H) := by
  intro pins s σ H x y v u Q I rx ry h
  obtain ⟨d, ds, hd, he, sd, se, q⟩ := h
  obtain ⟨as, r1⟩ := Dp.reads I d x v hd rx
  obtain ⟨bs, r2⟩ := Dp.reads I (.tuple ds) y u he ry
  exact SeqAt.in_tuple_reads r2 r1 (SeqAt.canLay_of_shaped se) (SeqAt.canLay_of_shaped sd) (PyProof.Rows.room_in_shaped sd hu) ⟨.bl _, H, I, rfl, q⟩
theorem op_notInA (hu : X.A.units + 65 < cLine) : OpR X (compareOp .NotIn) (fun x y H Q => ∃ d ds, Dp X.K H x d ∧ Dp X.K H y (.tuple ds) ∧ SeqAt.shaped d = true ∧ SeqAt.shaped (.tuple ds) = true ∧ Q (.bl (!ds.any fun z => PyData.eqv z d)) H) := by
  intro pins s σ H x y v u Q I rx ry h
  obtain ⟨d, ds, hd, he, sd, se, q⟩ := h
  obtain ⟨as, r1⟩ := Dp.reads I d x v hd rx
  obtain ⟨bs, r2⟩ := Dp.reads I (.tuple ds) y u he ry
  exact SeqAt.notIn_tuple_reads r2 r1 (SeqAt.canLay_of_shaped se) (SeqAt.canLay_of_shaped sd) (PyProof.Rows.room_in_shaped sd hu) ⟨.bl _, H, I, rfl, q⟩
/-- one of two promises, by what stands -/
theorem opr_or {f : Value → Value → Sem Value} {r r2 : R2} (h : OpR X f r) (h2 : OpR X f r2) : OpR X f (fun x y H Q => r x y H Q ∨ r2 x y H Q) := by
  intro pins s σ H x y v u Q I rx ry q
  rcases q with q | q
  · exact h pins s σ H x y v u Q I rx ry q
  · exact h2 pins s σ H x y v u Q I rx ry q
def rdIn : PyData → PyData → (Rv → Prop) → Prop
  | x, .list ds, Q => SeqAt.shaped x = true ∧ SeqAt.shaped (.list ds) = true ∧ Q (.d (.bool (ds.any fun z => PyData.eqv z x)))
  | x, .tuple ds, Q => SeqAt.shaped x = true ∧ SeqAt.shaped (.tuple ds) = true ∧ Q (.d (.bool (ds.any fun z => PyData.eqv z x)))
  | _, _, _ => False
theorem od_in (hu : X.A.units + 65 < cLine) : OpD X (compareOp .In) rdIn := by
  refine ⟨_, opr_or (op_inD hu) (op_inA hu), fun H W x y a b Q Qd hw ra rb q k => ?_⟩
  unfold rdIn at q
  split at q
  · exact .inl ⟨_, _, ra.dp, rb.dp, q.1, q.2.1, k.bl q.2.2⟩
  · exact .inr ⟨_, _, ra.dp, rb.dp, q.1, q.2.1, k.bl q.2.2⟩
  · exact q.elim
/-! ### list(range(n)) -/
def tdListRg (t : TD) : TD := fun env Q => t env fun rv env1 => match res env1 rv with
  | some (.int n) => RgOk 0 n ∧ Q (.n (.l (rngL 0 n))) env1
  | _ => False
theorem pd_listRg {pr : Pos} (hc : X.calm = true) (hg : Gl X "list") (hm : X.mg "list" = none) (hg2 : Gl X "range") (hm2 : X.mg "range" = none) (he : PD X a te) (na : starEach [a] X.env = (false, eval a X.env) :: starEach [] X.env := by rfl)
    (na2 : starEach [.Call (.Name "range" q) [a] [] pr] X.env = (false, eval (.Call (.Name "range" q) [a] [] pr) X.env) :: starEach [] X.env := by rfl) : PD X (.Call (.Name "list" p) [.Call (.Name "range" q) [a] [] pr] [] pos) (tdListRg te) := by
  obtain ⟨t1, p1, q1⟩ := he
  refine ⟨_, pe_listRg hc hg hm (prg_1 hg2 hm2 p1 na) na2, fun σ H W A env Q Qd E ht k => ?_⟩
  refine q1 σ H W A env _ _ E ht fun v H1 W1 env1 rv E1 S1 R1 h1 => ?_
  split at h1
  · rename_i n en
    refine ⟨n, (Dq.of_rv E1 R1 en).int, h1.1, fun l hl => ?_⟩
    refine (fin_up E1 S1 k).lst E1.trk hl ?_ h1.2
    unfold rgV rngL
    have : ∀ ns : List Nat, DpAll X.K (HW H1 W1) (ns.map fun i => V.int (0 + (i : Nat))) (ns.map fun i => PyData.int (0 + (i : Nat))) := fun ns => by
      induction ns with
      | nil => exact .nil
      | cons a r ih => exact .cons (.int _) ih
    exact this _
  · exact h1.elim
/-! ### sep.join(texts) -/
def strsOf : List PyData → Option (List Str)
  | [] => some []
  | .str i :: r => (strsOf r).map (i :: ·)
  | _ :: _ => none
def tdJoin (to_ te : TD) : TD := fun env Q => to_ env fun ro env1 => match ro with
  | .d (.str a) => te env1 fun rv env2 => match res env2 rv with
    | some (.list xs) => ∃ ys : List Str, xs = ys.map PyData.str ∧ (ys.map (·.length)).sum + ys.length * a.length ≤ 16777216 ∧ Q (.d (.str (Txt.join a ys))) env2
    | _ => False
  | _ => False
theorem pd_join (ho : PD X o to_) (he : PD X e te) (hs : starEach [e] X.env = [(false, eval e X.env)] := by rfl) (hbase : attributeBase o "join" X.env (eval o X.env) = eval o X.env := by rfl) (hline : (apos.endLine == pos.line) = true := by rfl) :
    PD X (.Call (.Attribute o "join" apos) [e] [] pos) (tdJoin to_ te) := by
  obtain ⟨t1, p1, q1⟩ := ho
  obtain ⟨t2, p2, q2⟩ := he
  refine ⟨_, pe_join p1 p2 hs hbase hline, fun σ H W A env Q Qd E ht k => ?_⟩
  refine q1 σ H W A env _ _ E ht fun v H1 W1 env1 ro E1 S1 R1 h1 => ?_
  split at h1
  · rename_i a
    cases (show Dp X.K (HW H1 W1) v (.str a) from R1)
    refine ⟨⟨a, rfl⟩, ?_⟩
    refine q2 σ H1 W1 A env1 _ _ E1 h1 fun u H2 W2 env2 rv E2 S2 R2 h2 => ?_
    split at h2
    · rename_i xs ex
      obtain ⟨ys, rfl, hz, h2⟩ := h2
      obtain ⟨p, ws, rfl, s, d⟩ := Dq.of_rv E2 R2 ex
      rw [d.strs] at s
      exact ⟨a, p, ys, rfl, rfl, .inl s, hz, k (.str _) H2 W2 env2 (.d (.str _)) E2 (S1.trans S2) (.str _) h2⟩
    · exact h2.elim
  · exact h1.elim
end
/-! ### the law's own end -/
theorem law_sp {K : PySem.W.Frag} {H : Hp} {a : Addr} {ns : List Int} {f : FD} (hS : SqL K H a (ns.map V.int)) (h : f [.d (.list (ns.map PyData.int))] fun s _ => s = .d (.bool true)) : spD K ([], []) 1 f [.ref a] H (fun v _ => v = .bl true) fun _ _ _ => False := by
  refine ⟨[], [none], [.d (.list (ns.map PyData.int))], _, rfl, ⟨rfl, rfl, fun i x e => ?_, fun i s e hs => ?_, fun i b e => ?_, fun i j b e => ?_, fun p hp => absurd hp (List.not_mem_nil)⟩, fun i b e => ?_, h, fun s os e v H' W' bk rt => ?_⟩
  · cases i with
    | zero =>
      cases e
      have eH : HW H [] = H := by funext b; unfold HW; rw [if_neg (List.not_mem_nil)]
      exact ⟨rfl, .ref a, rfl, by rw [eH]; exact .lst hS (.of_ints ns)⟩
    | succ i => cases e
  · cases i with
    | zero => cases e; cases hs
    | succ i => cases e
  · cases i with
    | zero => cases e
    | succ i => cases e
  · cases i with
    | zero => cases e
    | succ i => cases e
  · cases i with
    | zero => cases e
    | succ i => cases e
  · subst e
    cases (show Dp K (HW H' W') v (.bool true) from rt)
    rfl
theorem bt_len : bootBuiltins "len" = some (.builtin "len") := by decide +kernel
theorem bt_int : bootBuiltins "int" = some (.type "int") := by decide +kernel
theorem bt_abs : bootBuiltins "abs" = some (.builtin "abs") := by decide +kernel
theorem bt_max : bootBuiltins "max" = some (.builtin "max") := by decide +kernel
theorem bt_min : bootBuiltins "min" = some (.builtin "min") := by decide +kernel
theorem bt_ord : bootBuiltins "ord" = some (.builtin "ord") := by decide +kernel
theorem bt_tuple : bootBuiltins "tuple" = some (.type "tuple") := by decide +kernel
theorem bt_list : bootBuiltins "list" = some (.type "list") := by decide +kernel
theorem bt_sorted : bootBuiltins "sorted" = some (.builtin "sorted") := by decide +kernel
theorem bt_sum : bootBuiltins "sum" = some (.builtin "sum") := by decide +kernel
theorem bt_all : bootBuiltins "all" = some (.builtin "all") := by decide +kernel
theorem bt_any : bootBuiltins "any" = some (.builtin "any") := by decide +kernel
theorem bt_bool : bootBuiltins "bool" = some (.type "bool") := by decide +kernel
theorem bt_str : bootBuiltins "str" = some (.type "str") := by decide +kernel
end DL
namespace DL
open PySem PySem.Spec L2
theorem u65 {k : Nat} {A : Around} (r : Room k A) : A.units + 65 < cLine := by have := r.un; omega
theorem u64 {k : Nat} {A : Around} (r : Room k A) : A.units + 64 < cLine := r.units
theorem u1 {k : Nat} {A : Around} (r : Room k A) : A.units + 1 < cLine := by have := r.un; omega
end DL

set_option Elab.async false
set_option linter.all false
set_option maxRecDepth 100000
set_option maxHeartbeats 4000000
set_option autoImplicit false
namespace DL
open PySem PySem.Spec L2
section
variable {X : Cx} {T : List Nat} {tg iter elt : Expr} {ifs : List Expr} {scope : Scope} {vs : List Nat} {pos spos : Pos} {ti : TDI} {g : TDC} {tt : TDT} {te : TD}
/-- pd_lc, what it wants told first -/
theorem pd_lcV (own : List (Str × Nat)) (hv : own.map (·.2) = vs) (hc : X.calm = true) (hN : X.N.Nodup) (hi : PDI X tg iter ti) (ok : BlkOk X.N X.env.scope scope own)
    (hg : ∀ (s : Shared) (H : Hp) (C : Addr) (cl : List (Str × Addr)) (fp : List Addr), PDC (X.blk s H scope (compEnvC scope cl C X.env) fp) vs tg g) (ht : ∀ (s : Shared) (H : Hp) (C : Addr) (cl : List (Str × Addr)) (fp : List Addr), PDTs (X.blk s H scope (compEnvC scope cl C X.env) fp) ifs tt)
    (he : ∀ (s : Shared) (H : Hp) (C : Addr) (cl : List (Str × Addr)) (fp : List Addr), PD (X.blk s H scope (compEnvC scope cl C X.env) fp) elt te) (hs : ∀ x, foldedSetIterable iter X.env x = pure x := by intro _; rfl) :
    PD X (.ListComp elt [⟨tg, iter, ifs, 0⟩] scope pos) (tdLc ti g tt te vs) := by
  subst hv
  exact pd_lc hc hN hi ok (fun i h => h) hg ht he hs
theorem psd_setLcO {N : List Nat × List Nat} {i : Nat} {y : Str} {py : Pos} (own : List (Str × Nat)) (hv : own.map (·.2) = vs) (hc : X.calm = true) (hN : X.N.Nodup) (hy : X.N[i]? = some y) (hyl : X.env.scope.names.lookup y = some .local)
    (hsw : swapsWith (.ListComp elt [⟨tg, iter, ifs, 0⟩] scope pos) (some (.Name y py)) spos.line X.env = pure true) (hi : PDI X tg iter ti) (ok : BlkOk X.N X.env.scope scope own)
    (hg : ∀ (s : Shared) (H : Hp) (C : Addr) (cl : List (Str × Addr)) (fp : List Addr), PDC (X.blk s H scope (compEnvC scope cl C X.env) fp) vs tg g) (ht : ∀ (s : Shared) (H : Hp) (C : Addr) (cl : List (Str × Addr)) (fp : List Addr), PDTs (X.blk s H scope (compEnvC scope cl C X.env) fp) ifs tt)
    (he : ∀ (s : Shared) (H : Hp) (C : Addr) (cl : List (Str × Addr)) (fp : List Addr), PD (X.blk s H scope (compEnvC scope cl C X.env) fp) elt te) (hM : i ∉ N.1 := by decide) (hs : ∀ x, foldedSetIterable iter X.env x = pure x := by intro _; rfl) :
    PSD X N (.Assign [.Name y py] (.ListComp elt [⟨tg, iter, ifs, 0⟩] scope pos) spos) (tdSet i (tdLc ti g tt te vs)) := by
  subst hv
  exact psd_setLc (keep := true) hc hN hy hyl hsw hi ok (fun i h => h) hg ht he hM hs
theorem psd_setLcD {N : List Nat × List Nat} {i : Nat} {y : Str} {py : Pos} (own : List (Str × Nat)) (hv : own.map (·.2) = vs) (hc : X.calm = true) (hN : X.N.Nodup) (hy : X.N[i]? = some y) (hyl : X.env.scope.names.lookup y = some .local)
    (hsw : swapsWith (.ListComp elt [⟨tg, iter, ifs, 0⟩] scope pos) (some (.Name y py)) spos.line X.env = pure true) (hi : PDI X tg iter ti) (ok : BlkOk X.N X.env.scope scope own)
    (hg : ∀ (s : Shared) (H : Hp) (C : Addr) (cl : List (Str × Addr)) (fp : List Addr), PDC (X.blk s H scope (compEnvC scope cl C X.env) fp) vs tg g) (ht : ∀ (s : Shared) (H : Hp) (C : Addr) (cl : List (Str × Addr)) (fp : List Addr), PDTs (X.blk s H scope (compEnvC scope cl C X.env) fp) ifs tt)
    (he : ∀ (s : Shared) (H : Hp) (C : Addr) (cl : List (Str × Addr)) (fp : List Addr), PD (X.blk s H scope (compEnvC scope cl C X.env) fp) elt te) (hM : i ∉ N.1 := by decide) (hs : ∀ x, foldedSetIterable iter X.env x = pure x := by intro _; rfl) :
    PSD X N (.Assign [.Name y py] (.ListComp elt [⟨tg, iter, ifs, 0⟩] scope pos) spos) (tdSetD i (tdLc ti g tt te vs)) := by
  subst hv
  exact psd_setLc (keep := false) hc hN hy hyl hsw hi ok (fun i h => h) hg ht he hM hs
end
end DL

set_option Elab.async false
set_option linter.all false
set_option maxRecDepth 100000
set_option maxHeartbeats 4000000
set_option autoImplicit false
namespace DL
open PySem PySem.Spec L2
/-! ### what readings come to -/
theorem ixNat {n j : Nat} (hj : j < n) : ixN n (j : Int) = some j := by
  unfold ixN
  rw [if_pos (Int.natCast_nonneg _), if_pos (by omega), Int.toNat_natCast]
section
variable {α : Type} {a b c d : α} {r : List α}
theorem at0 : atI (a :: r) 0 = some a := atI_nat (j := 0) rfl
theorem at1 : atI (a :: b :: r) 1 = some b := atI_nat (j := 1) rfl
theorem at2 : atI (a :: b :: c :: r) 2 = some c := atI_nat (j := 2) rfl
theorem at3 : atI (a :: b :: c :: d :: r) 3 = some d := atI_nat (j := 3) rfl
theorem ix0 : ixN (a :: r).length 0 = some 0 := ixNat (j := 0) (by simp)
theorem ix1 : ixN (a :: b :: r).length 1 = some 1 := ixNat (j := 1) (by simp)
theorem ix2 : ixN (a :: b :: c :: r).length 2 = some 2 := ixNat (j := 2) (by simp)
theorem ix3 : ixN (a :: b :: c :: d :: r).length 3 = some 3 := ixNat (j := 3) (by simp)
end
theorem ix40 : ixN 4 0 = some 0 := rfl
theorem ix41 : ixN 4 1 = some 1 := rfl
theorem ix42 : ixN 4 2 = some 2 := rfl
theorem ix43 : ixN 4 3 = some 3 := rfl
theorem sh_int {i : Int} : SeqAt.shaped (.int i) = true := by simp [SeqAt.shaped, PyData.canLay0, PyData.depth]
theorem sh_bl {i : Bool} : SeqAt.shaped (.bool i) = true := by simp [SeqAt.shaped, PyData.canLay0, PyData.depth]
theorem sh_non : SeqAt.shaped .none = true := by simp [SeqAt.shaped, PyData.canLay0, PyData.depth]
theorem eqv_int {i j : Int} : PyData.eqv (.int i) (.int j) = decide (i = j) := by simp [PyData.eqv]; rfl
theorem eqv_bl {i j : Bool} : PyData.eqv (.bool i) (.bool j) = decide (i = j) := by simp [PyData.eqv]; rfl
theorem eqv_str {i j : Str} : PyData.eqv (.str i) (.str j) = decide (i = j) := by simp only [PyData.eqv]; by_cases h : i = j <;> simp [h]
/-- for, by an invariant -/
theorem for_use {ti : TDI} {g : TDG} {tb : TDS} {D : DE} {env : En} (Pv : List PyData → Nat → En → Prop) (h : ti env fun xs env1 => Pv xs 0 env1 ∧ (∀ i x env, xs[i]? = some x → Pv xs i env → g x env fun env2 => tb { D with nx := Pv xs (i + 1), ct := Pv xs (i + 1), bk := D.nx } env2) ∧ ∀ env, Pv xs xs.length env → D.nx env)
    (hm : ∀ (P P' : List PyData → En → Prop), (∀ xs env, P xs env → P' xs env) → ti env P → ti env P') : tdFor ti g tb D env := hm _ _ (fun xs env h => ⟨Pv xs, h⟩) h
/-! ### the tape of draws -/
def TapeOk (tp : List PyData) : Prop := ∃ (ns : List Int) (p q m : Int), tp = [.list (ns.map .int), .int p, .int q, .int m] ∧ 0 ≤ p
def spTape : FD := fun args Q => ∃ ns : List Int, args = [.d (.list (ns.map .int))] ∧ ∀ tp os, TapeOk tp → Q (.l tp) os
def spDraw : FD := fun args Q => ∃ (tp : List PyData) (many : Int), args = [.l tp, .d (.int many)] ∧ many < 2 ^ 62 ∧ TapeOk tp ∧ ∀ r tp' os, TapeOk tp' → 0 ≤ r → (1 ≤ many → r < many) → (many < 1 → r = 0) → os 0 = some (.l tp') → Q (.d (.int r)) os
def rTape : TDS := (tdSeq (tdSetD 1 (tdC (.int 7)))
  (tdSeq (tdFor (tdIt (tdV 0)) (gdName 2) (tdSetD 1 (tdBin rdMod (tdB rdInt (tdCons (tdBin rdAdd (tdBin rdMul (tdV 1) (tdC (.int 31))) (tdB rdAbs (tdCons (tdB rdInt (tdCons (tdV 2) tdNil)) tdNil))) tdNil)) (tdC (.int 2147483647)))))
  (tdRet ([], []) (tdLst (tdCons (tdB rdList (tdCons (tdV 0) tdNil)) (tdCons (tdC (.int 0)) (tdCons (tdC (.int 0)) (tdCons (tdV 1) tdNil))))))))
def rDraw : TDS := (tdSeq (tdIfS (tdTest (tdBin rdEq (tdBin rdIx (tdV 0) (tdC (.int 2))) (tdC (.int 0)))) (tdSeq (tdSetD 2 (tdBin rdIx (tdV 0) (tdC (.int 1))))
  (tdSeq (tdSetD 3 (tdC (.int 0)))
  (tdSeq (tdIfS (tdTest (tdBin (rdCmp fun i j => decide (i < j)) (tdV 2) (tdB rdLen (tdCons (tdBin rdIx (tdV 0) (tdC (.int 0))) tdNil)))) (tdSetD 3 (tdB rdAbs (tdCons (tdB rdInt (tdCons (tdBin rdIx (tdBin rdIx (tdV 0) (tdC (.int 0))) (tdV 2)) tdNil)) tdNil))) (tdSeq (tdSetIx 0 (tdC (.int 3)) (tdBin rdMod (tdB rdInt (tdCons (tdBin rdAdd (tdBin rdAdd (tdBin rdMul (tdBin rdIx (tdV 0) (tdC (.int 3))) (tdC (.int 48271))) (tdV 2)) (tdC (.int 1))) tdNil)) (tdC (.int 2147483647))))
  (tdSetD 3 (tdBin rdIx (tdV 0) (tdC (.int 3))))))
  (tdSeq (tdSetIx 0 (tdC (.int 1)) (tdBin rdAdd (tdV 2) (tdC (.int 1))))
  (tdSeq (tdIfS (tdTest (tdBin (rdCmp fun i j => decide (i < j)) (tdV 3) (tdBin rdPow (tdC (.int 10)) (tdC (.int 18))))) (tdSeq (tdSetD 3 (tdBin rdMod (tdB rdInt (tdCons (tdBin rdAdd (tdBin rdAdd (tdBin rdMul (tdV 3) (tdC (.int 48271))) (tdBin rdMul (tdV 2) (tdC (.int 69621)))) (tdC (.int 5))) tdNil)) (tdC (.int 2147483647))))
  (tdSeq (tdSetD 3 (tdBin rdMod (tdB rdInt (tdCons (tdBin rdMul (tdV 3) (tdC (.int 69621))) tdNil)) (tdC (.int 2147483629))))
  (tdRet ([0], []) (tdBin rdMod (tdB rdInt (tdCons (tdV 3) tdNil)) (tdB rdMax2 (tdCons (tdV 1) (tdCons (tdC (.int 1)) tdNil))))))) tdNext)
  (tdSetIx 0 (tdC (.int 2)) (tdV 3))))))) tdNext)
  (tdSeq (tdSetD 3 (tdBin rdIx (tdV 0) (tdC (.int 2))))
  (tdSeq (tdSetIx 0 (tdC (.int 2)) (tdBin rdDiv (tdV 3) (tdB rdMax2 (tdCons (tdV 1) (tdCons (tdC (.int 2)) tdNil)))))
  (tdRet ([0], []) (tdBin rdMod (tdB rdInt (tdCons (tdV 3) tdNil)) (tdB rdMax2 (tdCons (tdV 1) (tdCons (tdC (.int 1)) tdNil))))))))
theorem hDraw (args : List Sl) (Q : Sl → (Nat → Option Sl) → Prop) (hl : args.length = 2) (h : spDraw args Q) : rDraw { nx := fun env => Q (.d .none) (osOf env), rt := fun r env => Q r (osOf env) } (startE 4 args) := by
  obtain ⟨tp, many, rfl, hmany, ⟨ns, p, q, m, rfl, hp⟩, k⟩ := h
  have k' : ∀ (n p q m : Int) x2 x3 M, 0 ≤ p → 0 < M → (1 ≤ many → M = many) → (many < 1 → M = 1) → Q (.d (.int (n % M))) (osOf [some (.l [.list (ns.map .int), .int p, .int q, .int m]), some (.d (.int many)), x2, x3]) := fun n p q m x2 x3 M hp hM h1 h2 =>
    k _ _ _ ⟨ns, p, q, m, rfl, hp⟩ (Int.emod_nonneg _ (by omega)) (fun h => by rw [← h1 h]; exact Int.emod_lt_of_pos _ hM) (fun h => by rw [h2 h]; exact Int.emod_one _) rfl
  have hDv : ∀ {x : Int}, CDivW x (if 2 > many then 2 else many) := fun {x} => by
    have h2 : (if 2 > many then 2 else many) < 2 ^ 62 ∧ 0 < (if 2 > many then 2 else many) := by
      by_cases h : 2 > many
      · rw [if_pos h]; exact ⟨by decide, by decide⟩
      · rw [if_neg h]; exact ⟨hmany, by omega⟩
    refine ⟨h2.2, ?_⟩
    rcases Nat.eq_zero_or_pos (if 2 > many then 2 else many).natAbs with e | e
    · rw [e]; decide
    · exact (Nat.log2_lt (by omega)).mpr (Nat.lt_of_lt_of_le (m := 2 ^ 62) (by omega) (Nat.pow_le_pow_right (by decide) (by decide)))
  have cp : CPow 10 18 := by unfold CPow; decide
  have cm : ∀ (x y : Int), -18446744073709551616 < y → y < 18446744073709551616 → CMul x y := fun x y h1 h2 => .inr ⟨by omega, by omega⟩
  have m1 : 0 < (if 1 > many then 1 else many) ∧ (1 ≤ many → (if 1 > many then 1 else many) = many) ∧ (many < 1 → (if 1 > many then 1 else many) = 1) := by
    by_cases h : 1 > many
    · rw [if_pos h]; exact ⟨by omega, fun h2 => by omega, fun _ => rfl⟩
    · rw [if_neg h]; exact ⟨by omega, fun _ => rfl, fun h2 => by omega⟩
  unfold rDraw
  have fin : ∀ (q p m : Int) (x2 : Option Sl), 0 ≤ p → (0 < (if 1 > many then 1 else many)) ∧ Q (.d (.int (q % (if 1 > many then 1 else many)))) (osOf [some (.l [.list (ns.map .int), .int p, .int (q / if 2 > many then 2 else many), .int m]), some (.d (.int many)), x2, some (.d (.int q))]) := fun q p m x2 hp =>
    ⟨m1.1, k' _ _ _ _ _ _ _ hp m1.1 m1.2.1 m1.2.2⟩
  by_cases hq : q = 0
  · by_cases hp2 : p < ns.length
    · obtain ⟨k0, rfl⟩ : ∃ k : Nat, p = k := ⟨p.toNat, by omega⟩
      have hk : k0 < ns.length := by omega
      have e1 : atI (ns.map PyData.int) (k0 : Int) = some (.int ns[k0]) := atI_nat (by rw [List.getElem?_map, List.getElem?_eq_getElem hk]; rfl)
      generalize ha : (if ns[k0] < 0 then -ns[k0] else ns[k0]) = av
      by_cases h18 : av < (10 : Int) ^ (18 : Int).toNat
      · simp only [hq, hp2, e1, ha, h18, cp, ↓startE, ↓tdSeq, ↓tdSet, ↓tdSetD, ↓tdDrop, ↓tdRet, ↓tdIfS, ↓tdNext, ↓tdAsg, ↓tdV, ↓tdC, ↓tdBin, ↓tdB, ↓tdCons, ↓tdNil, ↓tdTup, ↓tdLst, ↓tdTest, ↓tdAnd, ↓tdOr, ↓tdNot, ↓tdIf, ↓tdAndV, ↓tdOrV, ↓tdNotV, ↓tdNeg, ↓tdIsN, ↓tdNotN, ↓tdSl, ↓tdPart, ↓tdNoPart, ↓tdM, ↓tdSetIx, ↓tdAug, ↓tdPut, ↓tdGet2, ↓tdIsi, ↓tdListRg, ↓gdName, ↓gdNil, ↓gdCons, ↓gdTup, ↓tdIt, ↓tdRng1, ↓tdRng2, ↓tdCall, ↓tdNew, ↓tdJoin, ↓gcName, ↓gcNil, ↓gcCons, ↓gcTup, ↓tdYes, ↓res, ↓resR, ↓resAll, ↓rvD, ↓rdLen, ↓rdInt, ↓rdAbs, ↓rdMax2, ↓rdMin2, ↓rdOrd, ↓rdTuple, ↓rdList, ↓rdIx, ↓rdAdd, ↓rdSub, ↓rdMul, ↓rdMod, ↓rdDiv, ↓rdPow, ↓rdCmp, ↓rdEq, ↓rdNe, ↓rdIadd, ↓rdIn, ↓rdSorted, ↓rdSl, ↓isT, ↓rdAppend, ↓itemsOf, ↓rvOf, ↓argsOf, ↓argOf, Nat.reduceAdd, Nat.reduceLT, Nat.reduceSub, Int.reduceLT, Int.reduceLE, Int.reduceAdd, Int.reduceEq, Int.reduceNeg, Nat.reduceLeDiff, Nat.zero_add, Nat.reduceEqDiff, Nat.reduceBEq, ix41, ix42, ix43, ix40, List.length_cons, List.length_nil, List.map_cons, List.map_nil, List.replicate, List.cons_append, List.nil_append, List.getElem?_cons_zero, List.getElem?_cons_succ, List.set_cons_zero, List.set_cons_succ, Option.map_some, at0, at1, at2, at3, ix0, ix1, ix2, ix3, sh_int, sh_bl, sh_non, eqv_int, eqv_bl, eqv_str, decide_eq_true_eq, Bool.not_eq_true, Bool.not_true, Bool.not_false, Bool.false_eq_true, true_and, and_true, if_true, if_false, ite_true, ite_false, List.length_map, List.length_set, Sl.isD, List.mem_singleton, List.mem_cons, List.not_mem_nil, not_true_eq_false, not_false_eq_true, or_false]
        exact ⟨cm _ _ (by decide) (by decide), cm _ _ (by decide) (by decide), cm _ _ (by decide) (by decide), m1.1, k' _ _ _ _ _ _ _ (by omega) m1.1 m1.2.1 m1.2.2⟩
      · simp only [hq, hp2, e1, ha, h18, cp, ↓startE, ↓tdSeq, ↓tdSet, ↓tdSetD, ↓tdDrop, ↓tdRet, ↓tdIfS, ↓tdNext, ↓tdAsg, ↓tdV, ↓tdC, ↓tdBin, ↓tdB, ↓tdCons, ↓tdNil, ↓tdTup, ↓tdLst, ↓tdTest, ↓tdAnd, ↓tdOr, ↓tdNot, ↓tdIf, ↓tdAndV, ↓tdOrV, ↓tdNotV, ↓tdNeg, ↓tdIsN, ↓tdNotN, ↓tdSl, ↓tdPart, ↓tdNoPart, ↓tdM, ↓tdSetIx, ↓tdAug, ↓tdPut, ↓tdGet2, ↓tdIsi, ↓tdListRg, ↓gdName, ↓gdNil, ↓gdCons, ↓gdTup, ↓tdIt, ↓tdRng1, ↓tdRng2, ↓tdCall, ↓tdNew, ↓tdJoin, ↓gcName, ↓gcNil, ↓gcCons, ↓gcTup, ↓tdYes, ↓res, ↓resR, ↓resAll, ↓rvD, ↓rdLen, ↓rdInt, ↓rdAbs, ↓rdMax2, ↓rdMin2, ↓rdOrd, ↓rdTuple, ↓rdList, ↓rdIx, ↓rdAdd, ↓rdSub, ↓rdMul, ↓rdMod, ↓rdDiv, ↓rdPow, ↓rdCmp, ↓rdEq, ↓rdNe, ↓rdIadd, ↓rdIn, ↓rdSorted, ↓rdSl, ↓isT, ↓rdAppend, ↓itemsOf, ↓rvOf, ↓argsOf, ↓argOf, Nat.reduceAdd, Nat.reduceLT, Nat.reduceSub, Int.reduceLT, Int.reduceLE, Int.reduceAdd, Int.reduceEq, Int.reduceNeg, Nat.reduceLeDiff, Nat.zero_add, Nat.reduceEqDiff, Nat.reduceBEq, ix41, ix42, ix43, ix40, List.length_cons, List.length_nil, List.map_cons, List.map_nil, List.replicate, List.cons_append, List.nil_append, List.getElem?_cons_zero, List.getElem?_cons_succ, List.set_cons_zero, List.set_cons_succ, Option.map_some, at0, at1, at2, at3, ix0, ix1, ix2, ix3, sh_int, sh_bl, sh_non, eqv_int, eqv_bl, eqv_str, decide_eq_true_eq, Bool.not_eq_true, Bool.not_true, Bool.not_false, Bool.false_eq_true, true_and, and_true, if_true, if_false, ite_true, ite_false, List.length_map, List.length_set, Sl.isD, List.mem_singleton, List.mem_cons, List.not_mem_nil, not_true_eq_false, not_false_eq_true, or_false]
        exact ⟨hDv, fin _ _ _ _ (by omega)⟩
    · generalize ha : (m * 48271 + p + 1) % 2147483647 = av
      by_cases h18 : av < (10 : Int) ^ (18 : Int).toNat
      · simp only [hq, hp2, ha, h18, cp, ↓startE, ↓tdSeq, ↓tdSet, ↓tdSetD, ↓tdDrop, ↓tdRet, ↓tdIfS, ↓tdNext, ↓tdAsg, ↓tdV, ↓tdC, ↓tdBin, ↓tdB, ↓tdCons, ↓tdNil, ↓tdTup, ↓tdLst, ↓tdTest, ↓tdAnd, ↓tdOr, ↓tdNot, ↓tdIf, ↓tdAndV, ↓tdOrV, ↓tdNotV, ↓tdNeg, ↓tdIsN, ↓tdNotN, ↓tdSl, ↓tdPart, ↓tdNoPart, ↓tdM, ↓tdSetIx, ↓tdAug, ↓tdPut, ↓tdGet2, ↓tdIsi, ↓tdListRg, ↓gdName, ↓gdNil, ↓gdCons, ↓gdTup, ↓tdIt, ↓tdRng1, ↓tdRng2, ↓tdCall, ↓tdNew, ↓tdJoin, ↓gcName, ↓gcNil, ↓gcCons, ↓gcTup, ↓tdYes, ↓res, ↓resR, ↓resAll, ↓rvD, ↓rdLen, ↓rdInt, ↓rdAbs, ↓rdMax2, ↓rdMin2, ↓rdOrd, ↓rdTuple, ↓rdList, ↓rdIx, ↓rdAdd, ↓rdSub, ↓rdMul, ↓rdMod, ↓rdDiv, ↓rdPow, ↓rdCmp, ↓rdEq, ↓rdNe, ↓rdIadd, ↓rdIn, ↓rdSorted, ↓rdSl, ↓isT, ↓rdAppend, ↓itemsOf, ↓rvOf, ↓argsOf, ↓argOf, Nat.reduceAdd, Nat.reduceLT, Nat.reduceSub, Int.reduceLT, Int.reduceLE, Int.reduceAdd, Int.reduceEq, Int.reduceNeg, Nat.reduceLeDiff, Nat.zero_add, Nat.reduceEqDiff, Nat.reduceBEq, ix41, ix42, ix43, ix40, List.length_cons, List.length_nil, List.map_cons, List.map_nil, List.replicate, List.cons_append, List.nil_append, List.getElem?_cons_zero, List.getElem?_cons_succ, List.set_cons_zero, List.set_cons_succ, Option.map_some, at0, at1, at2, at3, ix0, ix1, ix2, ix3, sh_int, sh_bl, sh_non, eqv_int, eqv_bl, eqv_str, decide_eq_true_eq, Bool.not_eq_true, Bool.not_true, Bool.not_false, Bool.false_eq_true, true_and, and_true, if_true, if_false, ite_true, ite_false, List.length_map, List.length_set, Sl.isD, List.mem_singleton, List.mem_cons, List.not_mem_nil, not_true_eq_false, not_false_eq_true, or_false]
        exact ⟨cm _ _ (by decide) (by decide), cm _ _ (by decide) (by decide), cm _ _ (by decide) (by decide), cm _ _ (by decide) (by decide), m1.1, k' _ _ _ _ _ _ _ (by omega) m1.1 m1.2.1 m1.2.2⟩
      · simp only [hq, hp2, ha, h18, cp, ↓startE, ↓tdSeq, ↓tdSet, ↓tdSetD, ↓tdDrop, ↓tdRet, ↓tdIfS, ↓tdNext, ↓tdAsg, ↓tdV, ↓tdC, ↓tdBin, ↓tdB, ↓tdCons, ↓tdNil, ↓tdTup, ↓tdLst, ↓tdTest, ↓tdAnd, ↓tdOr, ↓tdNot, ↓tdIf, ↓tdAndV, ↓tdOrV, ↓tdNotV, ↓tdNeg, ↓tdIsN, ↓tdNotN, ↓tdSl, ↓tdPart, ↓tdNoPart, ↓tdM, ↓tdSetIx, ↓tdAug, ↓tdPut, ↓tdGet2, ↓tdIsi, ↓tdListRg, ↓gdName, ↓gdNil, ↓gdCons, ↓gdTup, ↓tdIt, ↓tdRng1, ↓tdRng2, ↓tdCall, ↓tdNew, ↓tdJoin, ↓gcName, ↓gcNil, ↓gcCons, ↓gcTup, ↓tdYes, ↓res, ↓resR, ↓resAll, ↓rvD, ↓rdLen, ↓rdInt, ↓rdAbs, ↓rdMax2, ↓rdMin2, ↓rdOrd, ↓rdTuple, ↓rdList, ↓rdIx, ↓rdAdd, ↓rdSub, ↓rdMul, ↓rdMod, ↓rdDiv, ↓rdPow, ↓rdCmp, ↓rdEq, ↓rdNe, ↓rdIadd, ↓rdIn, ↓rdSorted, ↓rdSl, ↓isT, ↓rdAppend, ↓itemsOf, ↓rvOf, ↓argsOf, ↓argOf, Nat.reduceAdd, Nat.reduceLT, Nat.reduceSub, Int.reduceLT, Int.reduceLE, Int.reduceAdd, Int.reduceEq, Int.reduceNeg, Nat.reduceLeDiff, Nat.zero_add, Nat.reduceEqDiff, Nat.reduceBEq, ix41, ix42, ix43, ix40, List.length_cons, List.length_nil, List.map_cons, List.map_nil, List.replicate, List.cons_append, List.nil_append, List.getElem?_cons_zero, List.getElem?_cons_succ, List.set_cons_zero, List.set_cons_succ, Option.map_some, at0, at1, at2, at3, ix0, ix1, ix2, ix3, sh_int, sh_bl, sh_non, eqv_int, eqv_bl, eqv_str, decide_eq_true_eq, Bool.not_eq_true, Bool.not_true, Bool.not_false, Bool.false_eq_true, true_and, and_true, if_true, if_false, ite_true, ite_false, List.length_map, List.length_set, Sl.isD, List.mem_singleton, List.mem_cons, List.not_mem_nil, not_true_eq_false, not_false_eq_true, or_false]
        exact ⟨cm _ _ (by decide) (by decide), hDv, fin _ _ _ _ (by omega)⟩
  · simp only [hq, ↓startE, ↓tdSeq, ↓tdSet, ↓tdSetD, ↓tdDrop, ↓tdRet, ↓tdIfS, ↓tdNext, ↓tdAsg, ↓tdV, ↓tdC, ↓tdBin, ↓tdB, ↓tdCons, ↓tdNil, ↓tdTup, ↓tdLst, ↓tdTest, ↓tdAnd, ↓tdOr, ↓tdNot, ↓tdIf, ↓tdAndV, ↓tdOrV, ↓tdNotV, ↓tdNeg, ↓tdIsN, ↓tdNotN, ↓tdSl, ↓tdPart, ↓tdNoPart, ↓tdM, ↓tdSetIx, ↓tdAug, ↓tdPut, ↓tdGet2, ↓tdIsi, ↓tdListRg, ↓gdName, ↓gdNil, ↓gdCons, ↓gdTup, ↓tdIt, ↓tdRng1, ↓tdRng2, ↓tdCall, ↓tdNew, ↓tdJoin, ↓gcName, ↓gcNil, ↓gcCons, ↓gcTup, ↓tdYes, ↓res, ↓resR, ↓resAll, ↓rvD, ↓rdLen, ↓rdInt, ↓rdAbs, ↓rdMax2, ↓rdMin2, ↓rdOrd, ↓rdTuple, ↓rdList, ↓rdIx, ↓rdAdd, ↓rdSub, ↓rdMul, ↓rdMod, ↓rdDiv, ↓rdPow, ↓rdCmp, ↓rdEq, ↓rdNe, ↓rdIadd, ↓rdIn, ↓rdSorted, ↓rdSl, ↓isT, ↓rdAppend, ↓itemsOf, ↓rvOf, ↓argsOf, ↓argOf, Nat.reduceAdd, Nat.reduceLT, Nat.reduceSub, Int.reduceLT, Int.reduceLE, Int.reduceAdd, Int.reduceEq, Int.reduceNeg, Nat.reduceLeDiff, Nat.zero_add, Nat.reduceEqDiff, Nat.reduceBEq, ix41, ix42, ix43, ix40, List.length_cons, List.length_nil, List.map_cons, List.map_nil, List.replicate, List.cons_append, List.nil_append, List.getElem?_cons_zero, List.getElem?_cons_succ, List.set_cons_zero, List.set_cons_succ, Option.map_some, at0, at1, at2, at3, ix0, ix1, ix2, ix3, sh_int, sh_bl, sh_non, eqv_int, eqv_bl, eqv_str, decide_eq_true_eq, Bool.not_eq_true, Bool.not_true, Bool.not_false, Bool.false_eq_true, true_and, and_true, if_true, if_false, ite_true, ite_false, List.length_map, List.length_set, Sl.isD, List.mem_singleton, List.mem_cons, List.not_mem_nil, not_true_eq_false, not_false_eq_true, or_false]
    exact ⟨hDv, fin _ _ _ _ hp⟩
/-- what the lent list holds behind a call, by its place -/
def ios (s : Sl) (os : Nat → Option Sl) : Nat → Option Sl := fun i => if i = 0 then some s else os i
theorem ios_eq {s : Sl} {os : Nat → Option Sl} (h : os 0 = some s) : ios s os = os := by
  funext i
  unfold ios
  by_cases e : i = 0
  · rw [if_pos e, e, h]
  · rw [if_neg e]
theorem outE_i {j : Nat} {r : List Rv} {s : Sl} {os : Nat → Option Sl} {env : En} : outE ([0], []) (.o j :: r) (ios s os) env = env.set j (some s) := rfl
theorem outE_n {r : List Rv} {os : Nat → Option Sl} {env : En} : outE ([], []) r os env = env := rfl
theorem outE_m {r : List Rv} {m : List Nat} {os : Nat → Option Sl} {env : En} : outE ([], m) r os env = env := rfl
theorem seq_i {t u : TDS} {D : DE} {env : En} (h : ∀ Kc : En → Prop, Kc = u D → t { D with nx := Kc } env) : tdSeq t u D env := h _ rfl
theorem draw_if {tp : List PyData} {many : Int} {Q : Sl → (Nat → Option Sl) → Prop} : spDraw [.l tp, .d (.int many)] Q = (many < 2 ^ 62 ∧ TapeOk tp ∧ ∀ (r : Int) (tp' : List PyData) (os : Nat → Option Sl), TapeOk tp' → 0 ≤ r → (1 ≤ many → r < many) → (many < 1 → r = 0) → Q (.d (.int r)) (ios (.l tp') os)) := by
  refine propext ⟨fun ⟨tp2, m2, e, h1, h2, h3⟩ => ?_, fun ⟨h1, h2, h3⟩ => ⟨tp, many, rfl, h1, h2, fun r tp' os a b c d e => ?_⟩⟩
  · cases e
    exact ⟨h1, h2, fun r tp' os a b c d => h3 r tp' _ a b c d rfl⟩
  · have := h3 r tp' os a b c d
    rwa [ios_eq e] at this
def spPick : FD := fun args Q => ∃ (tp : List PyData) (menu : PyData) (xs : List PyData), args = [.l tp, .d menu] ∧ itemsOf menu = some xs ∧ 1 ≤ xs.length ∧ xs.length ≤ sizeLine ∧ TapeOk tp ∧ ∀ x tp' os, TapeOk tp' → x ∈ xs → os 0 = some (.l tp') → Q (.d x) os
theorem pick_if {tp : List PyData} {menu : PyData} {Q : Sl → (Nat → Option Sl) → Prop} : spPick [.l tp, .d menu] Q = ∃ xs, itemsOf menu = some xs ∧ 1 ≤ xs.length ∧ xs.length ≤ sizeLine ∧ TapeOk tp ∧ ∀ (x : PyData) (tp' : List PyData) (os : Nat → Option Sl), TapeOk tp' → x ∈ xs → Q (.d x) (ios (.l tp') os) := by
  refine propext ⟨fun ⟨tp2, m2, xs, e, h1, h2, h3, h4, h5⟩ => ?_, fun ⟨xs, h1, h2, h3, h4, h5⟩ => ⟨tp, menu, xs, rfl, h1, h2, h3, h4, fun x tp' os a b e => ?_⟩⟩
  · cases e
    exact ⟨xs, h1, h2, h3, h4, fun x tp' os a b => h5 x tp' _ a b rfl⟩
  · have := h5 x tp' os a b
    rwa [ios_eq e] at this
def rPick : TDS := (tdRet ([0], []) (tdBin rdIx (tdV 1) (tdCall ([0], []) 2 spDraw (tdCons (tdV 0) (tdCons (tdB rdLen (tdCons (tdV 1) tdNil)) tdNil)))))
theorem hPick (args : List Sl) (Q : Sl → (Nat → Option Sl) → Prop) (hl : args.length = 2) (h : spPick args Q) : rPick { nx := fun env => Q (.d .none) (osOf env), rt := fun r env => Q r (osOf env) } (startE 2 args) := by
  obtain ⟨tp, menu, xs, rfl, hm, h1, h2, ht, k⟩ := h
  have hz : ((xs.length : Nat) : Int) < 2 ^ 62 := Int.lt_of_le_of_lt (Int.ofNat_le.mpr h2) (by decide)
  have fin : ∀ r : Int, 0 ≤ r → (1 ≤ ((xs.length : Nat) : Int) → r < ((xs.length : Nat) : Int)) → ∃ x, atI xs r = some x ∧ x ∈ xs := fun r a b => by
    obtain ⟨j, rfl⟩ : ∃ j : Nat, r = j := ⟨r.toNat, by omega⟩
    have hj : j < xs.length := by have := b (by omega); omega
    exact ⟨xs[j], atI_nat (by rw [List.getElem?_eq_getElem hj]), List.getElem_mem hj⟩
  unfold rPick
  cases menu with
  | list ys =>
    cases hm
    simp only [↓startE, ↓tdSeq, ↓tdSet, ↓tdSetD, ↓tdDrop, ↓tdRet, ↓tdIfS, ↓tdNext, ↓tdAsg, ↓tdV, ↓tdC, ↓tdBin, ↓tdB, ↓tdCons, ↓tdNil, ↓tdTup, ↓tdLst, ↓tdTest, ↓tdAnd, ↓tdOr, ↓tdNot, ↓tdIf, ↓tdAndV, ↓tdOrV, ↓tdNotV, ↓tdNeg, ↓tdIsN, ↓tdNotN, ↓tdSl, ↓tdPart, ↓tdNoPart, ↓tdM, ↓tdSetIx, ↓tdAug, ↓tdPut, ↓tdGet2, ↓tdIsi, ↓tdListRg, ↓gdName, ↓gdNil, ↓gdCons, ↓gdTup, ↓tdIt, ↓tdRng1, ↓tdRng2, ↓tdCall, ↓tdNew, ↓tdJoin, ↓gcName, ↓gcNil, ↓gcCons, ↓gcTup, ↓tdYes, ↓res, ↓resR, ↓resAll, ↓rvD, ↓rdLen, ↓rdInt, ↓rdAbs, ↓rdMax2, ↓rdMin2, ↓rdOrd, ↓rdTuple, ↓rdList, ↓rdIx, ↓rdAdd, ↓rdSub, ↓rdMul, ↓rdMod, ↓rdDiv, ↓rdPow, ↓rdCmp, ↓rdEq, ↓rdNe, ↓rdIadd, ↓rdIn, ↓rdSorted, ↓rdSl, ↓isT, ↓rdAppend, ↓itemsOf, ↓rvOf, ↓argsOf, ↓argOf, Nat.reduceAdd, Nat.reduceLT, Nat.reduceSub, Int.reduceLT, Int.reduceLE, Int.reduceAdd, Int.reduceEq, Int.reduceNeg, Nat.reduceLeDiff, Nat.zero_add, Nat.reduceEqDiff, Nat.reduceBEq, ix41, ix42, ix43, ix40, List.length_cons, List.length_nil, List.map_cons, List.map_nil, List.replicate, List.cons_append, List.nil_append, List.getElem?_cons_zero, List.getElem?_cons_succ, List.set_cons_zero, List.set_cons_succ, Option.map_some, at0, at1, at2, at3, ix0, ix1, ix2, ix3, sh_int, sh_bl, sh_non, eqv_int, eqv_bl, eqv_str, decide_eq_true_eq, Bool.not_eq_true, Bool.not_true, Bool.not_false, Bool.false_eq_true, true_and, and_true, if_true, if_false, ite_true, ite_false, List.length_map, List.length_set, Sl.isD, List.mem_singleton, List.mem_cons, List.not_mem_nil, not_true_eq_false, not_false_eq_true, or_false, ↓draw_if, outE_i]
    refine ⟨hz, ht, fun r tp' os t1 a b _ => ?_⟩
    obtain ⟨x, e1, e2⟩ := fin r a b
    simp only [e1, ↓startE, ↓tdSeq, ↓tdSet, ↓tdSetD, ↓tdDrop, ↓tdRet, ↓tdIfS, ↓tdNext, ↓tdAsg, ↓tdV, ↓tdC, ↓tdBin, ↓tdB, ↓tdCons, ↓tdNil, ↓tdTup, ↓tdLst, ↓tdTest, ↓tdAnd, ↓tdOr, ↓tdNot, ↓tdIf, ↓tdAndV, ↓tdOrV, ↓tdNotV, ↓tdNeg, ↓tdIsN, ↓tdNotN, ↓tdSl, ↓tdPart, ↓tdNoPart, ↓tdM, ↓tdSetIx, ↓tdAug, ↓tdPut, ↓tdGet2, ↓tdIsi, ↓tdListRg, ↓gdName, ↓gdNil, ↓gdCons, ↓gdTup, ↓tdIt, ↓tdRng1, ↓tdRng2, ↓tdCall, ↓tdNew, ↓tdJoin, ↓gcName, ↓gcNil, ↓gcCons, ↓gcTup, ↓tdYes, ↓res, ↓resR, ↓resAll, ↓rvD, ↓rdLen, ↓rdInt, ↓rdAbs, ↓rdMax2, ↓rdMin2, ↓rdOrd, ↓rdTuple, ↓rdList, ↓rdIx, ↓rdAdd, ↓rdSub, ↓rdMul, ↓rdMod, ↓rdDiv, ↓rdPow, ↓rdCmp, ↓rdEq, ↓rdNe, ↓rdIadd, ↓rdIn, ↓rdSorted, ↓rdSl, ↓isT, ↓rdAppend, ↓itemsOf, ↓rvOf, ↓argsOf, ↓argOf, Nat.reduceAdd, Nat.reduceLT, Nat.reduceSub, Int.reduceLT, Int.reduceLE, Int.reduceAdd, Int.reduceEq, Int.reduceNeg, Nat.reduceLeDiff, Nat.zero_add, Nat.reduceEqDiff, Nat.reduceBEq, ix41, ix42, ix43, ix40, List.length_cons, List.length_nil, List.map_cons, List.map_nil, List.replicate, List.cons_append, List.nil_append, List.getElem?_cons_zero, List.getElem?_cons_succ, List.set_cons_zero, List.set_cons_succ, Option.map_some, at0, at1, at2, at3, ix0, ix1, ix2, ix3, sh_int, sh_bl, sh_non, eqv_int, eqv_bl, eqv_str, decide_eq_true_eq, Bool.not_eq_true, Bool.not_true, Bool.not_false, Bool.false_eq_true, true_and, and_true, if_true, if_false, ite_true, ite_false, List.length_map, List.length_set, Sl.isD, List.mem_singleton, List.mem_cons, List.not_mem_nil, not_true_eq_false, not_false_eq_true, or_false]
    exact k x tp' _ t1 e2 rfl
  | tuple ys =>
    cases hm
    simp only [↓startE, ↓tdSeq, ↓tdSet, ↓tdSetD, ↓tdDrop, ↓tdRet, ↓tdIfS, ↓tdNext, ↓tdAsg, ↓tdV, ↓tdC, ↓tdBin, ↓tdB, ↓tdCons, ↓tdNil, ↓tdTup, ↓tdLst, ↓tdTest, ↓tdAnd, ↓tdOr, ↓tdNot, ↓tdIf, ↓tdAndV, ↓tdOrV, ↓tdNotV, ↓tdNeg, ↓tdIsN, ↓tdNotN, ↓tdSl, ↓tdPart, ↓tdNoPart, ↓tdM, ↓tdSetIx, ↓tdAug, ↓tdPut, ↓tdGet2, ↓tdIsi, ↓tdListRg, ↓gdName, ↓gdNil, ↓gdCons, ↓gdTup, ↓tdIt, ↓tdRng1, ↓tdRng2, ↓tdCall, ↓tdNew, ↓tdJoin, ↓gcName, ↓gcNil, ↓gcCons, ↓gcTup, ↓tdYes, ↓res, ↓resR, ↓resAll, ↓rvD, ↓rdLen, ↓rdInt, ↓rdAbs, ↓rdMax2, ↓rdMin2, ↓rdOrd, ↓rdTuple, ↓rdList, ↓rdIx, ↓rdAdd, ↓rdSub, ↓rdMul, ↓rdMod, ↓rdDiv, ↓rdPow, ↓rdCmp, ↓rdEq, ↓rdNe, ↓rdIadd, ↓rdIn, ↓rdSorted, ↓rdSl, ↓isT, ↓rdAppend, ↓itemsOf, ↓rvOf, ↓argsOf, ↓argOf, Nat.reduceAdd, Nat.reduceLT, Nat.reduceSub, Int.reduceLT, Int.reduceLE, Int.reduceAdd, Int.reduceEq, Int.reduceNeg, Nat.reduceLeDiff, Nat.zero_add, Nat.reduceEqDiff, Nat.reduceBEq, ix41, ix42, ix43, ix40, List.length_cons, List.length_nil, List.map_cons, List.map_nil, List.replicate, List.cons_append, List.nil_append, List.getElem?_cons_zero, List.getElem?_cons_succ, List.set_cons_zero, List.set_cons_succ, Option.map_some, at0, at1, at2, at3, ix0, ix1, ix2, ix3, sh_int, sh_bl, sh_non, eqv_int, eqv_bl, eqv_str, decide_eq_true_eq, Bool.not_eq_true, Bool.not_true, Bool.not_false, Bool.false_eq_true, true_and, and_true, if_true, if_false, ite_true, ite_false, List.length_map, List.length_set, Sl.isD, List.mem_singleton, List.mem_cons, List.not_mem_nil, not_true_eq_false, not_false_eq_true, or_false, ↓draw_if, outE_i]
    refine ⟨hz, ht, fun r tp' os t1 a b _ => ?_⟩
    obtain ⟨x, e1, e2⟩ := fin r a b
    simp only [e1, ↓startE, ↓tdSeq, ↓tdSet, ↓tdSetD, ↓tdDrop, ↓tdRet, ↓tdIfS, ↓tdNext, ↓tdAsg, ↓tdV, ↓tdC, ↓tdBin, ↓tdB, ↓tdCons, ↓tdNil, ↓tdTup, ↓tdLst, ↓tdTest, ↓tdAnd, ↓tdOr, ↓tdNot, ↓tdIf, ↓tdAndV, ↓tdOrV, ↓tdNotV, ↓tdNeg, ↓tdIsN, ↓tdNotN, ↓tdSl, ↓tdPart, ↓tdNoPart, ↓tdM, ↓tdSetIx, ↓tdAug, ↓tdPut, ↓tdGet2, ↓tdIsi, ↓tdListRg, ↓gdName, ↓gdNil, ↓gdCons, ↓gdTup, ↓tdIt, ↓tdRng1, ↓tdRng2, ↓tdCall, ↓tdNew, ↓tdJoin, ↓gcName, ↓gcNil, ↓gcCons, ↓gcTup, ↓tdYes, ↓res, ↓resR, ↓resAll, ↓rvD, ↓rdLen, ↓rdInt, ↓rdAbs, ↓rdMax2, ↓rdMin2, ↓rdOrd, ↓rdTuple, ↓rdList, ↓rdIx, ↓rdAdd, ↓rdSub, ↓rdMul, ↓rdMod, ↓rdDiv, ↓rdPow, ↓rdCmp, ↓rdEq, ↓rdNe, ↓rdIadd, ↓rdIn, ↓rdSorted, ↓rdSl, ↓isT, ↓rdAppend, ↓itemsOf, ↓rvOf, ↓argsOf, ↓argOf, Nat.reduceAdd, Nat.reduceLT, Nat.reduceSub, Int.reduceLT, Int.reduceLE, Int.reduceAdd, Int.reduceEq, Int.reduceNeg, Nat.reduceLeDiff, Nat.zero_add, Nat.reduceEqDiff, Nat.reduceBEq, ix41, ix42, ix43, ix40, List.length_cons, List.length_nil, List.map_cons, List.map_nil, List.replicate, List.cons_append, List.nil_append, List.getElem?_cons_zero, List.getElem?_cons_succ, List.set_cons_zero, List.set_cons_succ, Option.map_some, at0, at1, at2, at3, ix0, ix1, ix2, ix3, sh_int, sh_bl, sh_non, eqv_int, eqv_bl, eqv_str, decide_eq_true_eq, Bool.not_eq_true, Bool.not_true, Bool.not_false, Bool.false_eq_true, true_and, and_true, if_true, if_false, ite_true, ite_false, List.length_map, List.length_set, Sl.isD, List.mem_singleton, List.mem_cons, List.not_mem_nil, not_true_eq_false, not_false_eq_true, or_false]
    exact k x tp' _ t1 e2 rfl
  | str z =>
    cases hm
    rw [List.length_map, Array.length_toList] at hz h2
    simp only [↓startE, ↓tdSeq, ↓tdSet, ↓tdSetD, ↓tdDrop, ↓tdRet, ↓tdIfS, ↓tdNext, ↓tdAsg, ↓tdV, ↓tdC, ↓tdBin, ↓tdB, ↓tdCons, ↓tdNil, ↓tdTup, ↓tdLst, ↓tdTest, ↓tdAnd, ↓tdOr, ↓tdNot, ↓tdIf, ↓tdAndV, ↓tdOrV, ↓tdNotV, ↓tdNeg, ↓tdIsN, ↓tdNotN, ↓tdSl, ↓tdPart, ↓tdNoPart, ↓tdM, ↓tdSetIx, ↓tdAug, ↓tdPut, ↓tdGet2, ↓tdIsi, ↓tdListRg, ↓gdName, ↓gdNil, ↓gdCons, ↓gdTup, ↓tdIt, ↓tdRng1, ↓tdRng2, ↓tdCall, ↓tdNew, ↓tdJoin, ↓gcName, ↓gcNil, ↓gcCons, ↓gcTup, ↓tdYes, ↓res, ↓resR, ↓resAll, ↓rvD, ↓rdLen, ↓rdInt, ↓rdAbs, ↓rdMax2, ↓rdMin2, ↓rdOrd, ↓rdTuple, ↓rdList, ↓rdIx, ↓rdAdd, ↓rdSub, ↓rdMul, ↓rdMod, ↓rdDiv, ↓rdPow, ↓rdCmp, ↓rdEq, ↓rdNe, ↓rdIadd, ↓rdIn, ↓rdSorted, ↓rdSl, ↓isT, ↓rdAppend, ↓itemsOf, ↓rvOf, ↓argsOf, ↓argOf, Nat.reduceAdd, Nat.reduceLT, Nat.reduceSub, Int.reduceLT, Int.reduceLE, Int.reduceAdd, Int.reduceEq, Int.reduceNeg, Nat.reduceLeDiff, Nat.zero_add, Nat.reduceEqDiff, Nat.reduceBEq, ix41, ix42, ix43, ix40, List.length_cons, List.length_nil, List.map_cons, List.map_nil, List.replicate, List.cons_append, List.nil_append, List.getElem?_cons_zero, List.getElem?_cons_succ, List.set_cons_zero, List.set_cons_succ, Option.map_some, at0, at1, at2, at3, ix0, ix1, ix2, ix3, sh_int, sh_bl, sh_non, eqv_int, eqv_bl, eqv_str, decide_eq_true_eq, Bool.not_eq_true, Bool.not_true, Bool.not_false, Bool.false_eq_true, true_and, and_true, if_true, if_false, ite_true, ite_false, List.length_map, List.length_set, Sl.isD, List.mem_singleton, List.mem_cons, List.not_mem_nil, not_true_eq_false, not_false_eq_true, or_false, ↓draw_if, outE_i]
    refine ⟨h2, hz, ht, fun r tp' os t1 a b _ => ⟨h2, ?_⟩⟩
    obtain ⟨x, e1, e2⟩ := fin r a (by rw [List.length_map, Array.length_toList]; exact b)
    have e3 : ∃ c, atI z.cps.toList r = some c ∧ x = .str ⟨#[c]⟩ := by
      unfold atI at e1 ⊢
      rw [List.length_map] at e1
      obtain ⟨j, q1, q2⟩ := Option.bind_eq_some_iff.mp e1
      rw [List.getElem?_map] at q2
      obtain ⟨c, q3, q4⟩ := Option.map_eq_some_iff.mp q2
      exact ⟨c, by rw [q1]; exact q3, q4.symm⟩
    obtain ⟨c, e4, rfl⟩ := e3
    simp only [e4, ↓startE, ↓tdSeq, ↓tdSet, ↓tdSetD, ↓tdDrop, ↓tdRet, ↓tdIfS, ↓tdNext, ↓tdAsg, ↓tdV, ↓tdC, ↓tdBin, ↓tdB, ↓tdCons, ↓tdNil, ↓tdTup, ↓tdLst, ↓tdTest, ↓tdAnd, ↓tdOr, ↓tdNot, ↓tdIf, ↓tdAndV, ↓tdOrV, ↓tdNotV, ↓tdNeg, ↓tdIsN, ↓tdNotN, ↓tdSl, ↓tdPart, ↓tdNoPart, ↓tdM, ↓tdSetIx, ↓tdAug, ↓tdPut, ↓tdGet2, ↓tdIsi, ↓tdListRg, ↓gdName, ↓gdNil, ↓gdCons, ↓gdTup, ↓tdIt, ↓tdRng1, ↓tdRng2, ↓tdCall, ↓tdNew, ↓tdJoin, ↓gcName, ↓gcNil, ↓gcCons, ↓gcTup, ↓tdYes, ↓res, ↓resR, ↓resAll, ↓rvD, ↓rdLen, ↓rdInt, ↓rdAbs, ↓rdMax2, ↓rdMin2, ↓rdOrd, ↓rdTuple, ↓rdList, ↓rdIx, ↓rdAdd, ↓rdSub, ↓rdMul, ↓rdMod, ↓rdDiv, ↓rdPow, ↓rdCmp, ↓rdEq, ↓rdNe, ↓rdIadd, ↓rdIn, ↓rdSorted, ↓rdSl, ↓isT, ↓rdAppend, ↓itemsOf, ↓rvOf, ↓argsOf, ↓argOf, Nat.reduceAdd, Nat.reduceLT, Nat.reduceSub, Int.reduceLT, Int.reduceLE, Int.reduceAdd, Int.reduceEq, Int.reduceNeg, Nat.reduceLeDiff, Nat.zero_add, Nat.reduceEqDiff, Nat.reduceBEq, ix41, ix42, ix43, ix40, List.length_cons, List.length_nil, List.map_cons, List.map_nil, List.replicate, List.cons_append, List.nil_append, List.getElem?_cons_zero, List.getElem?_cons_succ, List.set_cons_zero, List.set_cons_succ, Option.map_some, at0, at1, at2, at3, ix0, ix1, ix2, ix3, sh_int, sh_bl, sh_non, eqv_int, eqv_bl, eqv_str, decide_eq_true_eq, Bool.not_eq_true, Bool.not_true, Bool.not_false, Bool.false_eq_true, true_and, and_true, if_true, if_false, ite_true, ite_false, List.length_map, List.length_set, Sl.isD, List.mem_singleton, List.mem_cons, List.not_mem_nil, not_true_eq_false, not_false_eq_true, or_false]
    exact k _ tp' _ t1 e2 rfl
  | _ => cases hm
theorem hTape (args : List Sl) (Q : Sl → (Nat → Option Sl) → Prop) (hl : args.length = 1) (h : spTape args Q) : rTape { nx := fun env => Q (.d .none) (osOf env), rt := fun r env => Q r (osOf env) } (startE 3 args) := by
  obtain ⟨ns, rfl, k⟩ := h
  unfold rTape
  refine seq_i fun Kc hK => ?_
  simp only [↓startE, ↓tdSeq, ↓tdSet, ↓tdSetD, ↓tdDrop, ↓tdRet, ↓tdIfS, ↓tdNext, ↓tdAsg, ↓tdV, ↓tdC, ↓tdBin, ↓tdB, ↓tdCons, ↓tdNil, ↓tdTup, ↓tdLst, ↓tdTest, ↓tdAnd, ↓tdOr, ↓tdNot, ↓tdIf, ↓tdAndV, ↓tdOrV, ↓tdNotV, ↓tdNeg, ↓tdIsN, ↓tdNotN, ↓tdSl, ↓tdPart, ↓tdNoPart, ↓tdM, ↓tdSetIx, ↓tdAug, ↓tdPut, ↓tdGet2, ↓tdIsi, ↓tdListRg, ↓gdName, ↓gdNil, ↓gdCons, ↓gdTup, ↓tdIt, ↓tdRng1, ↓tdRng2, ↓tdCall, ↓tdNew, ↓tdJoin, ↓gcName, ↓gcNil, ↓gcCons, ↓gcTup, ↓tdYes, ↓res, ↓resR, ↓resAll, ↓rvD, ↓rdLen, ↓rdInt, ↓rdAbs, ↓rdMax2, ↓rdMin2, ↓rdOrd, ↓rdTuple, ↓rdList, ↓rdIx, ↓rdAdd, ↓rdSub, ↓rdMul, ↓rdMod, ↓rdDiv, ↓rdPow, ↓rdCmp, ↓rdEq, ↓rdNe, ↓rdIadd, ↓rdIn, ↓rdSorted, ↓rdSl, ↓isT, ↓rdAppend, ↓itemsOf, ↓rvOf, ↓argsOf, ↓argOf, Nat.reduceAdd, Nat.reduceLT, Nat.reduceSub, Int.reduceLT, Int.reduceLE, Int.reduceAdd, Int.reduceEq, Int.reduceNeg, Nat.reduceLeDiff, Nat.zero_add, Nat.reduceEqDiff, Nat.reduceBEq, ix41, ix42, ix43, ix40, List.length_cons, List.length_nil, List.map_cons, List.map_nil, List.replicate, List.cons_append, List.nil_append, List.getElem?_cons_zero, List.getElem?_cons_succ, List.set_cons_zero, List.set_cons_succ, Option.map_some, at0, at1, at2, at3, ix0, ix1, ix2, ix3, sh_int, sh_bl, sh_non, eqv_int, eqv_bl, eqv_str, decide_eq_true_eq, Bool.not_eq_true, Bool.not_true, Bool.not_false, Bool.false_eq_true, true_and, and_true, if_true, if_false, ite_true, ite_false, List.length_map, List.length_set, Sl.isD, List.mem_singleton, List.mem_cons, List.not_mem_nil, not_true_eq_false, not_false_eq_true, or_false]
  subst hK
  refine seq_i fun Kc hK => ?_
  refine ⟨fun i env => ∃ (m : Int) (x : Option Sl), env = [some (.d (.list (ns.map .int))), some (.d (.int m)), x], ⟨7, none, rfl⟩, fun i x env hx hP => ?_, fun env hP => ?_⟩
  · obtain ⟨m, x2, rfl⟩ := hP
    rw [List.getElem?_map] at hx
    obtain ⟨n, hn, rfl⟩ := Option.map_eq_some_iff.mp hx
    simp only [↓startE, ↓tdSeq, ↓tdSet, ↓tdSetD, ↓tdDrop, ↓tdRet, ↓tdIfS, ↓tdNext, ↓tdAsg, ↓tdV, ↓tdC, ↓tdBin, ↓tdB, ↓tdCons, ↓tdNil, ↓tdTup, ↓tdLst, ↓tdTest, ↓tdAnd, ↓tdOr, ↓tdNot, ↓tdIf, ↓tdAndV, ↓tdOrV, ↓tdNotV, ↓tdNeg, ↓tdIsN, ↓tdNotN, ↓tdSl, ↓tdPart, ↓tdNoPart, ↓tdM, ↓tdSetIx, ↓tdAug, ↓tdPut, ↓tdGet2, ↓tdIsi, ↓tdListRg, ↓gdName, ↓gdNil, ↓gdCons, ↓gdTup, ↓tdIt, ↓tdRng1, ↓tdRng2, ↓tdCall, ↓tdNew, ↓tdJoin, ↓gcName, ↓gcNil, ↓gcCons, ↓gcTup, ↓tdYes, ↓res, ↓resR, ↓resAll, ↓rvD, ↓rdLen, ↓rdInt, ↓rdAbs, ↓rdMax2, ↓rdMin2, ↓rdOrd, ↓rdTuple, ↓rdList, ↓rdIx, ↓rdAdd, ↓rdSub, ↓rdMul, ↓rdMod, ↓rdDiv, ↓rdPow, ↓rdCmp, ↓rdEq, ↓rdNe, ↓rdIadd, ↓rdIn, ↓rdSorted, ↓rdSl, ↓isT, ↓rdAppend, ↓itemsOf, ↓rvOf, ↓argsOf, ↓argOf, Nat.reduceAdd, Nat.reduceLT, Nat.reduceSub, Int.reduceLT, Int.reduceLE, Int.reduceAdd, Int.reduceEq, Int.reduceNeg, Nat.reduceLeDiff, Nat.zero_add, Nat.reduceEqDiff, Nat.reduceBEq, ix41, ix42, ix43, ix40, List.length_cons, List.length_nil, List.map_cons, List.map_nil, List.replicate, List.cons_append, List.nil_append, List.getElem?_cons_zero, List.getElem?_cons_succ, List.set_cons_zero, List.set_cons_succ, Option.map_some, at0, at1, at2, at3, ix0, ix1, ix2, ix3, sh_int, sh_bl, sh_non, eqv_int, eqv_bl, eqv_str, decide_eq_true_eq, Bool.not_eq_true, Bool.not_true, Bool.not_false, Bool.false_eq_true, true_and, and_true, if_true, if_false, ite_true, ite_false, List.length_map, List.length_set, Sl.isD, List.mem_singleton, List.mem_cons, List.not_mem_nil, not_true_eq_false, not_false_eq_true, or_false]
    exact ⟨.inr ⟨by decide, by decide⟩, _, _, rfl⟩
  · obtain ⟨m, x2, rfl⟩ := hP
    subst hK
    simp only [↓startE, ↓tdSeq, ↓tdSet, ↓tdSetD, ↓tdDrop, ↓tdRet, ↓tdIfS, ↓tdNext, ↓tdAsg, ↓tdV, ↓tdC, ↓tdBin, ↓tdB, ↓tdCons, ↓tdNil, ↓tdTup, ↓tdLst, ↓tdTest, ↓tdAnd, ↓tdOr, ↓tdNot, ↓tdIf, ↓tdAndV, ↓tdOrV, ↓tdNotV, ↓tdNeg, ↓tdIsN, ↓tdNotN, ↓tdSl, ↓tdPart, ↓tdNoPart, ↓tdM, ↓tdSetIx, ↓tdAug, ↓tdPut, ↓tdGet2, ↓tdIsi, ↓tdListRg, ↓gdName, ↓gdNil, ↓gdCons, ↓gdTup, ↓tdIt, ↓tdRng1, ↓tdRng2, ↓tdCall, ↓tdNew, ↓tdJoin, ↓gcName, ↓gcNil, ↓gcCons, ↓gcTup, ↓tdYes, ↓res, ↓resR, ↓resAll, ↓rvD, ↓rdLen, ↓rdInt, ↓rdAbs, ↓rdMax2, ↓rdMin2, ↓rdOrd, ↓rdTuple, ↓rdList, ↓rdIx, ↓rdAdd, ↓rdSub, ↓rdMul, ↓rdMod, ↓rdDiv, ↓rdPow, ↓rdCmp, ↓rdEq, ↓rdNe, ↓rdIadd, ↓rdIn, ↓rdSorted, ↓rdSl, ↓isT, ↓rdAppend, ↓itemsOf, ↓rvOf, ↓argsOf, ↓argOf, Nat.reduceAdd, Nat.reduceLT, Nat.reduceSub, Int.reduceLT, Int.reduceLE, Int.reduceAdd, Int.reduceEq, Int.reduceNeg, Nat.reduceLeDiff, Nat.zero_add, Nat.reduceEqDiff, Nat.reduceBEq, ix41, ix42, ix43, ix40, List.length_cons, List.length_nil, List.map_cons, List.map_nil, List.replicate, List.cons_append, List.nil_append, List.getElem?_cons_zero, List.getElem?_cons_succ, List.set_cons_zero, List.set_cons_succ, Option.map_some, at0, at1, at2, at3, ix0, ix1, ix2, ix3, sh_int, sh_bl, sh_non, eqv_int, eqv_bl, eqv_str, decide_eq_true_eq, Bool.not_eq_true, Bool.not_true, Bool.not_false, Bool.false_eq_true, true_and, and_true, if_true, if_false, ite_true, ite_false, List.length_map, List.length_set, Sl.isD, List.mem_singleton, List.mem_cons, List.not_mem_nil, not_true_eq_false, not_false_eq_true, or_false]
    exact ⟨by decide, k _ _ ⟨ns, 0, 0, m, rfl, Int.le_refl 0⟩⟩
end DL

set_option Elab.async false
set_option linter.all false
set_option maxRecDepth 100000
set_option maxHeartbeats 4000000
set_option autoImplicit false
namespace DL
open PySem PySem.Spec L2
theorem cut_mem {xs : List PyData} {lo hi : Option Int} {x : PyData} (h : x ∈ cutL xs lo hi) : x ∈ xs := List.mem_of_mem_drop (List.mem_of_mem_take h)
theorem popAt {xs : List PyData} {r : Int} {Qd : PyData → List PyData → Prop} (h0 : 0 ≤ r) (h1 : r < xs.length) (hs : xs.length ≤ sizeLine) (h : ∀ (k : Nat) (y : PyData), r = k → xs[k]? = some y → Qd y (xs.eraseIdx k)) : rdPopAt xs [.int r] Qd := by
  obtain ⟨k, rfl⟩ : ∃ k : Nat, r = k := ⟨r.toNat, by omega⟩
  have hk : k < xs.length := by omega
  have hz : k < 2 ^ 24 := Nat.lt_of_lt_of_le hk hs
  have e : seqIndex? (k : Int) xs.length = some k := (ixN_seq (ixNat hk)).1
  unfold rdPopAt
  dsimp only
  rw [e]
  refine ⟨⟨by omega, by omega⟩, ?_⟩
  dsimp only
  rw [List.getElem?_eq_getElem hk]
  exact h k _ rfl (List.getElem?_eq_getElem hk)
def spTurns : FD := fun args Q => ∃ (tp : List PyData) (many : Int), args = [.l tp, .d (.int many)] ∧ 0 ≤ many ∧ many ≤ 1000 ∧ TapeOk tp ∧ ∀ (ns : List Int) tp' os, (∀ n ∈ ns, 0 ≤ n ∧ n < many) → TapeOk tp' → os 0 = some (.l tp') → Q (.l (ns.map .int)) os
def rTurns : TDS := (tdSeq (tdSet 2 (tdListRg (tdV 1)))
  (tdSeq (tdSet 3 (tdLst tdNil))
  (tdSeq (tdFor (tdRng1 (tdCons (tdV 1) tdNil)) (gdName 4) (tdDrop (tdM 3 rdAppend (tdCons (tdM 2 rdPopAt (tdCons (tdCall ([0], []) 2 spDraw (tdCons (tdV 0) (tdCons (tdB rdLen (tdCons (tdV 2) tdNil)) tdNil))) tdNil)) tdNil))))
  (tdRet ([0], []) (tdSl (tdV 3) tdNoPart (tdPart (tdBin rdIx (tdLst (tdCons (tdV 1) (tdCons (tdV 1) (tdCons (tdC (.int 1)) tdNil)))) (tdCall ([0], []) 2 spDraw (tdCons (tdV 0) (tdCons (tdC (.int 3)) tdNil))))))))))
theorem hTurns (args : List Sl) (Q : Sl → (Nat → Option Sl) → Prop) (hl : args.length = 2) (h : spTurns args Q) : rTurns { nx := fun env => Q (.d .none) (osOf env), rt := fun r env => Q r (osOf env) } (startE 5 args) := by
  obtain ⟨tp, many, rfl, h0, h1, ht, k⟩ := h
  obtain ⟨m, rfl⟩ : ∃ m : Nat, many = m := ⟨many.toNat, by omega⟩
  unfold rTurns
  refine seq_i fun Kc hK => ?_
  simp only [↓startE, ↓tdSeq, ↓tdSet, ↓tdSetD, ↓tdDrop, ↓tdRet, ↓tdIfS, ↓tdNext, ↓tdAsg, ↓tdV, ↓tdC, ↓tdBin, ↓tdB, ↓tdCons, ↓tdNil, ↓tdTup, ↓tdLst, ↓tdTest, ↓tdAnd, ↓tdOr, ↓tdNot, ↓tdIf, ↓tdAndV, ↓tdOrV, ↓tdNotV, ↓tdNeg, ↓tdIsN, ↓tdNotN, ↓tdSl, ↓tdPart, ↓tdNoPart, ↓tdM, ↓tdSetIx, ↓tdAug, ↓tdPut, ↓tdGet2, ↓tdIsi, ↓tdListRg, ↓gdName, ↓gdNil, ↓gdCons, ↓gdTup, ↓tdIt, ↓tdRng1, ↓tdRng2, ↓tdCall, ↓tdNew, ↓tdJoin, ↓gcName, ↓gcNil, ↓gcCons, ↓gcTup, ↓tdYes, ↓res, ↓resR, ↓resAll, ↓rvD, ↓rdLen, ↓rdInt, ↓rdAbs, ↓rdMax2, ↓rdMin2, ↓rdOrd, ↓rdTuple, ↓rdList, ↓rdIx, ↓rdAdd, ↓rdSub, ↓rdMul, ↓rdMod, ↓rdDiv, ↓rdPow, ↓rdCmp, ↓rdEq, ↓rdNe, ↓rdIadd, ↓rdIn, ↓rdSorted, ↓rdSl, ↓isT, ↓rdAppend, ↓itemsOf, ↓rvOf, ↓argsOf, ↓argOf, Nat.reduceAdd, Nat.reduceLT, Nat.reduceSub, Int.reduceLT, Int.reduceLE, Int.reduceAdd, Int.reduceEq, Int.reduceNeg, Nat.reduceLeDiff, Nat.zero_add, Nat.reduceEqDiff, Nat.reduceBEq, ix41, ix42, ix43, ix40, List.length_cons, List.length_nil, List.map_cons, List.map_nil, List.replicate, List.cons_append, List.nil_append, List.getElem?_cons_zero, List.getElem?_cons_succ, List.set_cons_zero, List.set_cons_succ, Option.map_some, at0, at1, at2, at3, ix0, ix1, ix2, ix3, sh_int, sh_bl, sh_non, eqv_int, eqv_bl, eqv_str, decide_eq_true_eq, Bool.not_eq_true, Bool.not_true, Bool.not_false, Bool.false_eq_true, true_and, and_true, if_true, if_false, ite_true, ite_false, List.length_map, List.length_set, Sl.isD, List.mem_singleton, List.mem_cons, List.not_mem_nil, not_true_eq_false, not_false_eq_true, or_false]
  refine ⟨⟨by omega, by omega⟩, ?_⟩
  subst hK
  refine seq_i fun Kc hK => ?_
  simp only [↓startE, ↓tdSeq, ↓tdSet, ↓tdSetD, ↓tdDrop, ↓tdRet, ↓tdIfS, ↓tdNext, ↓tdAsg, ↓tdV, ↓tdC, ↓tdBin, ↓tdB, ↓tdCons, ↓tdNil, ↓tdTup, ↓tdLst, ↓tdTest, ↓tdAnd, ↓tdOr, ↓tdNot, ↓tdIf, ↓tdAndV, ↓tdOrV, ↓tdNotV, ↓tdNeg, ↓tdIsN, ↓tdNotN, ↓tdSl, ↓tdPart, ↓tdNoPart, ↓tdM, ↓tdSetIx, ↓tdAug, ↓tdPut, ↓tdGet2, ↓tdIsi, ↓tdListRg, ↓gdName, ↓gdNil, ↓gdCons, ↓gdTup, ↓tdIt, ↓tdRng1, ↓tdRng2, ↓tdCall, ↓tdNew, ↓tdJoin, ↓gcName, ↓gcNil, ↓gcCons, ↓gcTup, ↓tdYes, ↓res, ↓resR, ↓resAll, ↓rvD, ↓rdLen, ↓rdInt, ↓rdAbs, ↓rdMax2, ↓rdMin2, ↓rdOrd, ↓rdTuple, ↓rdList, ↓rdIx, ↓rdAdd, ↓rdSub, ↓rdMul, ↓rdMod, ↓rdDiv, ↓rdPow, ↓rdCmp, ↓rdEq, ↓rdNe, ↓rdIadd, ↓rdIn, ↓rdSorted, ↓rdSl, ↓isT, ↓rdAppend, ↓itemsOf, ↓rvOf, ↓argsOf, ↓argOf, Nat.reduceAdd, Nat.reduceLT, Nat.reduceSub, Int.reduceLT, Int.reduceLE, Int.reduceAdd, Int.reduceEq, Int.reduceNeg, Nat.reduceLeDiff, Nat.zero_add, Nat.reduceEqDiff, Nat.reduceBEq, ix41, ix42, ix43, ix40, List.length_cons, List.length_nil, List.map_cons, List.map_nil, List.replicate, List.cons_append, List.nil_append, List.getElem?_cons_zero, List.getElem?_cons_succ, List.set_cons_zero, List.set_cons_succ, Option.map_some, at0, at1, at2, at3, ix0, ix1, ix2, ix3, sh_int, sh_bl, sh_non, eqv_int, eqv_bl, eqv_str, decide_eq_true_eq, Bool.not_eq_true, Bool.not_true, Bool.not_false, Bool.false_eq_true, true_and, and_true, if_true, if_false, ite_true, ite_false, List.length_map, List.length_set, Sl.isD, List.mem_singleton, List.mem_cons, List.not_mem_nil, not_true_eq_false, not_false_eq_true, or_false]
  subst hK
  refine ⟨by decide, ?_⟩
  refine seq_i fun Kc hK => ?_
  refine ⟨⟨by omega, by omega⟩, fun i env => ∃ (tp : List PyData) (hs ts : List Int) (x : Option Sl), env = [some (.l tp), some (.d (.int m)), some (.l (hs.map .int)), some (.l (ts.map .int)), x] ∧ TapeOk tp ∧ hs.length + i = m ∧ ts.length = i ∧ (∀ n ∈ hs, 0 ≤ n ∧ n < (m : Int)) ∧ ∀ n ∈ ts, 0 ≤ n ∧ n < (m : Int), ?_, fun i x env hx hP => ?_, fun env hP => ?_⟩
  · refine ⟨tp, (List.range m).map fun i => ((i : Nat) : Int), [], none, ?_, ht, by simp, rfl, fun n hn => ?_, fun n hn => by cases hn⟩
    · show _ = _
      unfold rngL
      simp
    · obtain ⟨a, ha, rfl⟩ := List.mem_map.mp hn
      have := List.mem_range.mp ha
      exact ⟨by omega, by omega⟩
  · obtain ⟨tp, hs, ts, x0, rfl, ht, e1, e2, hh, ht2⟩ := hP
    have hi : i < m := by
      have := (List.getElem?_eq_some_iff.mp hx).1
      unfold rngL at this
      simp at this
      omega
    simp only [↓startE, ↓tdSeq, ↓tdSet, ↓tdSetD, ↓tdDrop, ↓tdRet, ↓tdIfS, ↓tdNext, ↓tdAsg, ↓tdV, ↓tdC, ↓tdBin, ↓tdB, ↓tdCons, ↓tdNil, ↓tdTup, ↓tdLst, ↓tdTest, ↓tdAnd, ↓tdOr, ↓tdNot, ↓tdIf, ↓tdAndV, ↓tdOrV, ↓tdNotV, ↓tdNeg, ↓tdIsN, ↓tdNotN, ↓tdSl, ↓tdPart, ↓tdNoPart, ↓tdM, ↓tdSetIx, ↓tdAug, ↓tdPut, ↓tdGet2, ↓tdIsi, ↓tdListRg, ↓gdName, ↓gdNil, ↓gdCons, ↓gdTup, ↓tdIt, ↓tdRng1, ↓tdRng2, ↓tdCall, ↓tdNew, ↓tdJoin, ↓gcName, ↓gcNil, ↓gcCons, ↓gcTup, ↓tdYes, ↓res, ↓resR, ↓resAll, ↓rvD, ↓rdLen, ↓rdInt, ↓rdAbs, ↓rdMax2, ↓rdMin2, ↓rdOrd, ↓rdTuple, ↓rdList, ↓rdIx, ↓rdAdd, ↓rdSub, ↓rdMul, ↓rdMod, ↓rdDiv, ↓rdPow, ↓rdCmp, ↓rdEq, ↓rdNe, ↓rdIadd, ↓rdIn, ↓rdSorted, ↓rdSl, ↓isT, ↓rdAppend, ↓itemsOf, ↓rvOf, ↓argsOf, ↓argOf, Nat.reduceAdd, Nat.reduceLT, Nat.reduceSub, Int.reduceLT, Int.reduceLE, Int.reduceAdd, Int.reduceEq, Int.reduceNeg, Nat.reduceLeDiff, Nat.zero_add, Nat.reduceEqDiff, Nat.reduceBEq, ix41, ix42, ix43, ix40, List.length_cons, List.length_nil, List.map_cons, List.map_nil, List.replicate, List.cons_append, List.nil_append, List.getElem?_cons_zero, List.getElem?_cons_succ, List.set_cons_zero, List.set_cons_succ, Option.map_some, at0, at1, at2, at3, ix0, ix1, ix2, ix3, sh_int, sh_bl, sh_non, eqv_int, eqv_bl, eqv_str, decide_eq_true_eq, Bool.not_eq_true, Bool.not_true, Bool.not_false, Bool.false_eq_true, true_and, and_true, if_true, if_false, ite_true, ite_false, List.length_map, List.length_set, Sl.isD, List.mem_singleton, List.mem_cons, List.not_mem_nil, not_true_eq_false, not_false_eq_true, or_false]
    rw [draw_if]
    refine ⟨by omega, ht, fun r tp' os t1 a b _ => ?_⟩
    have hr := b (by omega)
    simp only [outE_i, ↓startE, ↓tdSeq, ↓tdSet, ↓tdSetD, ↓tdDrop, ↓tdRet, ↓tdIfS, ↓tdNext, ↓tdAsg, ↓tdV, ↓tdC, ↓tdBin, ↓tdB, ↓tdCons, ↓tdNil, ↓tdTup, ↓tdLst, ↓tdTest, ↓tdAnd, ↓tdOr, ↓tdNot, ↓tdIf, ↓tdAndV, ↓tdOrV, ↓tdNotV, ↓tdNeg, ↓tdIsN, ↓tdNotN, ↓tdSl, ↓tdPart, ↓tdNoPart, ↓tdM, ↓tdSetIx, ↓tdAug, ↓tdPut, ↓tdGet2, ↓tdIsi, ↓tdListRg, ↓gdName, ↓gdNil, ↓gdCons, ↓gdTup, ↓tdIt, ↓tdRng1, ↓tdRng2, ↓tdCall, ↓tdNew, ↓tdJoin, ↓gcName, ↓gcNil, ↓gcCons, ↓gcTup, ↓tdYes, ↓res, ↓resR, ↓resAll, ↓rvD, ↓rdLen, ↓rdInt, ↓rdAbs, ↓rdMax2, ↓rdMin2, ↓rdOrd, ↓rdTuple, ↓rdList, ↓rdIx, ↓rdAdd, ↓rdSub, ↓rdMul, ↓rdMod, ↓rdDiv, ↓rdPow, ↓rdCmp, ↓rdEq, ↓rdNe, ↓rdIadd, ↓rdIn, ↓rdSorted, ↓rdSl, ↓isT, ↓rdAppend, ↓itemsOf, ↓rvOf, ↓argsOf, ↓argOf, Nat.reduceAdd, Nat.reduceLT, Nat.reduceSub, Int.reduceLT, Int.reduceLE, Int.reduceAdd, Int.reduceEq, Int.reduceNeg, Nat.reduceLeDiff, Nat.zero_add, Nat.reduceEqDiff, Nat.reduceBEq, ix41, ix42, ix43, ix40, List.length_cons, List.length_nil, List.map_cons, List.map_nil, List.replicate, List.cons_append, List.nil_append, List.getElem?_cons_zero, List.getElem?_cons_succ, List.set_cons_zero, List.set_cons_succ, Option.map_some, at0, at1, at2, at3, ix0, ix1, ix2, ix3, sh_int, sh_bl, sh_non, eqv_int, eqv_bl, eqv_str, decide_eq_true_eq, Bool.not_eq_true, Bool.not_true, Bool.not_false, Bool.false_eq_true, true_and, and_true, if_true, if_false, ite_true, ite_false, List.length_map, List.length_set, Sl.isD, List.mem_singleton, List.mem_cons, List.not_mem_nil, not_true_eq_false, not_false_eq_true, or_false]
    refine popAt a (by rw [List.length_map]; exact hr) (by rw [List.length_map]; exact Nat.le_trans (by omega) (show 1000 ≤ sizeLine by decide)) fun j y ej hj => ?_
    rw [List.getElem?_map] at hj
    obtain ⟨n, hn, rfl⟩ := Option.map_eq_some_iff.mp hj
    refine ⟨Nat.lt_of_lt_of_le (show ts.length < 1001 by omega) (by decide), tp', hs.eraseIdx j, ts ++ [n], some (.d x), ?_, t1, ?_, by simp [e2], fun n hn => hh n (List.mem_of_mem_eraseIdx hn), fun n' hn' => ?_⟩
    · have ee : (hs.map PyData.int).eraseIdx j = (hs.eraseIdx j).map PyData.int := by
        rw [List.eraseIdx_eq_take_drop_succ, List.eraseIdx_eq_take_drop_succ, List.map_append, List.map_take, List.map_drop]
      rw [List.map_append, ee]; rfl
    · rw [List.length_eraseIdx, if_pos (by omega)]; omega
    · rcases List.mem_append.mp hn' with q | q
      · exact ht2 n' q
      · rw [List.mem_singleton.mp q]; exact hh n (List.mem_of_getElem? hn)
  · obtain ⟨tp, hs, ts, x0, rfl, ht, e1, e2, hh, ht2⟩ := hP
    subst hK
    simp only [↓draw_if, outE_i, ↓startE, ↓tdSeq, ↓tdSet, ↓tdSetD, ↓tdDrop, ↓tdRet, ↓tdIfS, ↓tdNext, ↓tdAsg, ↓tdV, ↓tdC, ↓tdBin, ↓tdB, ↓tdCons, ↓tdNil, ↓tdTup, ↓tdLst, ↓tdTest, ↓tdAnd, ↓tdOr, ↓tdNot, ↓tdIf, ↓tdAndV, ↓tdOrV, ↓tdNotV, ↓tdNeg, ↓tdIsN, ↓tdNotN, ↓tdSl, ↓tdPart, ↓tdNoPart, ↓tdM, ↓tdSetIx, ↓tdAug, ↓tdPut, ↓tdGet2, ↓tdIsi, ↓tdListRg, ↓gdName, ↓gdNil, ↓gdCons, ↓gdTup, ↓tdIt, ↓tdRng1, ↓tdRng2, ↓tdCall, ↓tdNew, ↓tdJoin, ↓gcName, ↓gcNil, ↓gcCons, ↓gcTup, ↓tdYes, ↓res, ↓resR, ↓resAll, ↓rvD, ↓rdLen, ↓rdInt, ↓rdAbs, ↓rdMax2, ↓rdMin2, ↓rdOrd, ↓rdTuple, ↓rdList, ↓rdIx, ↓rdAdd, ↓rdSub, ↓rdMul, ↓rdMod, ↓rdDiv, ↓rdPow, ↓rdCmp, ↓rdEq, ↓rdNe, ↓rdIadd, ↓rdIn, ↓rdSorted, ↓rdSl, ↓isT, ↓rdAppend, ↓itemsOf, ↓rvOf, ↓argsOf, ↓argOf, Nat.reduceAdd, Nat.reduceLT, Nat.reduceSub, Int.reduceLT, Int.reduceLE, Int.reduceAdd, Int.reduceEq, Int.reduceNeg, Nat.reduceLeDiff, Nat.zero_add, Nat.reduceEqDiff, Nat.reduceBEq, ix41, ix42, ix43, ix40, List.length_cons, List.length_nil, List.map_cons, List.map_nil, List.replicate, List.cons_append, List.nil_append, List.getElem?_cons_zero, List.getElem?_cons_succ, List.set_cons_zero, List.set_cons_succ, Option.map_some, at0, at1, at2, at3, ix0, ix1, ix2, ix3, sh_int, sh_bl, sh_non, eqv_int, eqv_bl, eqv_str, decide_eq_true_eq, Bool.not_eq_true, Bool.not_true, Bool.not_false, Bool.false_eq_true, true_and, and_true, if_true, if_false, ite_true, ite_false, List.length_map, List.length_set, Sl.isD, List.mem_singleton, List.mem_cons, List.not_mem_nil, not_true_eq_false, not_false_eq_true, or_false]
    refine ⟨by decide, by decide, ht, fun r tp' os t1 a b _ => ?_⟩
    have hr := b (by decide)
    have fin : ∀ z : Int, Q (.l (cutL (ts.map .int) none (some z))) (osOf [some (.l tp'), some (.d (.int m)), some (.l (hs.map .int)), some (.l (ts.map .int)), x0]) := fun z => by
      have := k (((ts.drop (HT.sIx ts.length 0 none)).take (HT.sIx ts.length ts.length (some z) - HT.sIx ts.length 0 none))) tp' (osOf [some (.l tp'), some (.d (.int m)), some (.l (hs.map .int)), some (.l (ts.map .int)), x0]) (fun n hn => ht2 n (List.mem_of_mem_drop (List.mem_of_mem_take hn))) t1 rfl
      unfold cutL
      rwa [List.length_map, ← List.map_drop, ← List.map_take]
    rcases (show r = 0 ∨ r = 1 ∨ r = 2 by omega) with rfl | rfl | rfl
    · simp only [↓startE, ↓tdSeq, ↓tdSet, ↓tdSetD, ↓tdDrop, ↓tdRet, ↓tdIfS, ↓tdNext, ↓tdAsg, ↓tdV, ↓tdC, ↓tdBin, ↓tdB, ↓tdCons, ↓tdNil, ↓tdTup, ↓tdLst, ↓tdTest, ↓tdAnd, ↓tdOr, ↓tdNot, ↓tdIf, ↓tdAndV, ↓tdOrV, ↓tdNotV, ↓tdNeg, ↓tdIsN, ↓tdNotN, ↓tdSl, ↓tdPart, ↓tdNoPart, ↓tdM, ↓tdSetIx, ↓tdAug, ↓tdPut, ↓tdGet2, ↓tdIsi, ↓tdListRg, ↓gdName, ↓gdNil, ↓gdCons, ↓gdTup, ↓tdIt, ↓tdRng1, ↓tdRng2, ↓tdCall, ↓tdNew, ↓tdJoin, ↓gcName, ↓gcNil, ↓gcCons, ↓gcTup, ↓tdYes, ↓res, ↓resR, ↓resAll, ↓rvD, ↓rdLen, ↓rdInt, ↓rdAbs, ↓rdMax2, ↓rdMin2, ↓rdOrd, ↓rdTuple, ↓rdList, ↓rdIx, ↓rdAdd, ↓rdSub, ↓rdMul, ↓rdMod, ↓rdDiv, ↓rdPow, ↓rdCmp, ↓rdEq, ↓rdNe, ↓rdIadd, ↓rdIn, ↓rdSorted, ↓rdSl, ↓isT, ↓rdAppend, ↓itemsOf, ↓rvOf, ↓argsOf, ↓argOf, Nat.reduceAdd, Nat.reduceLT, Nat.reduceSub, Int.reduceLT, Int.reduceLE, Int.reduceAdd, Int.reduceEq, Int.reduceNeg, Nat.reduceLeDiff, Nat.zero_add, Nat.reduceEqDiff, Nat.reduceBEq, ix41, ix42, ix43, ix40, List.length_cons, List.length_nil, List.map_cons, List.map_nil, List.replicate, List.cons_append, List.nil_append, List.getElem?_cons_zero, List.getElem?_cons_succ, List.set_cons_zero, List.set_cons_succ, Option.map_some, at0, at1, at2, at3, ix0, ix1, ix2, ix3, sh_int, sh_bl, sh_non, eqv_int, eqv_bl, eqv_str, decide_eq_true_eq, Bool.not_eq_true, Bool.not_true, Bool.not_false, Bool.false_eq_true, true_and, and_true, if_true, if_false, ite_true, ite_false, List.length_map, List.length_set, Sl.isD, List.mem_singleton, List.mem_cons, List.not_mem_nil, not_true_eq_false, not_false_eq_true, or_false]; exact fin _
    · simp only [↓startE, ↓tdSeq, ↓tdSet, ↓tdSetD, ↓tdDrop, ↓tdRet, ↓tdIfS, ↓tdNext, ↓tdAsg, ↓tdV, ↓tdC, ↓tdBin, ↓tdB, ↓tdCons, ↓tdNil, ↓tdTup, ↓tdLst, ↓tdTest, ↓tdAnd, ↓tdOr, ↓tdNot, ↓tdIf, ↓tdAndV, ↓tdOrV, ↓tdNotV, ↓tdNeg, ↓tdIsN, ↓tdNotN, ↓tdSl, ↓tdPart, ↓tdNoPart, ↓tdM, ↓tdSetIx, ↓tdAug, ↓tdPut, ↓tdGet2, ↓tdIsi, ↓tdListRg, ↓gdName, ↓gdNil, ↓gdCons, ↓gdTup, ↓tdIt, ↓tdRng1, ↓tdRng2, ↓tdCall, ↓tdNew, ↓tdJoin, ↓gcName, ↓gcNil, ↓gcCons, ↓gcTup, ↓tdYes, ↓res, ↓resR, ↓resAll, ↓rvD, ↓rdLen, ↓rdInt, ↓rdAbs, ↓rdMax2, ↓rdMin2, ↓rdOrd, ↓rdTuple, ↓rdList, ↓rdIx, ↓rdAdd, ↓rdSub, ↓rdMul, ↓rdMod, ↓rdDiv, ↓rdPow, ↓rdCmp, ↓rdEq, ↓rdNe, ↓rdIadd, ↓rdIn, ↓rdSorted, ↓rdSl, ↓isT, ↓rdAppend, ↓itemsOf, ↓rvOf, ↓argsOf, ↓argOf, Nat.reduceAdd, Nat.reduceLT, Nat.reduceSub, Int.reduceLT, Int.reduceLE, Int.reduceAdd, Int.reduceEq, Int.reduceNeg, Nat.reduceLeDiff, Nat.zero_add, Nat.reduceEqDiff, Nat.reduceBEq, ix41, ix42, ix43, ix40, List.length_cons, List.length_nil, List.map_cons, List.map_nil, List.replicate, List.cons_append, List.nil_append, List.getElem?_cons_zero, List.getElem?_cons_succ, List.set_cons_zero, List.set_cons_succ, Option.map_some, at0, at1, at2, at3, ix0, ix1, ix2, ix3, sh_int, sh_bl, sh_non, eqv_int, eqv_bl, eqv_str, decide_eq_true_eq, Bool.not_eq_true, Bool.not_true, Bool.not_false, Bool.false_eq_true, true_and, and_true, if_true, if_false, ite_true, ite_false, List.length_map, List.length_set, Sl.isD, List.mem_singleton, List.mem_cons, List.not_mem_nil, not_true_eq_false, not_false_eq_true, or_false]; exact fin _
    · simp only [↓startE, ↓tdSeq, ↓tdSet, ↓tdSetD, ↓tdDrop, ↓tdRet, ↓tdIfS, ↓tdNext, ↓tdAsg, ↓tdV, ↓tdC, ↓tdBin, ↓tdB, ↓tdCons, ↓tdNil, ↓tdTup, ↓tdLst, ↓tdTest, ↓tdAnd, ↓tdOr, ↓tdNot, ↓tdIf, ↓tdAndV, ↓tdOrV, ↓tdNotV, ↓tdNeg, ↓tdIsN, ↓tdNotN, ↓tdSl, ↓tdPart, ↓tdNoPart, ↓tdM, ↓tdSetIx, ↓tdAug, ↓tdPut, ↓tdGet2, ↓tdIsi, ↓tdListRg, ↓gdName, ↓gdNil, ↓gdCons, ↓gdTup, ↓tdIt, ↓tdRng1, ↓tdRng2, ↓tdCall, ↓tdNew, ↓tdJoin, ↓gcName, ↓gcNil, ↓gcCons, ↓gcTup, ↓tdYes, ↓res, ↓resR, ↓resAll, ↓rvD, ↓rdLen, ↓rdInt, ↓rdAbs, ↓rdMax2, ↓rdMin2, ↓rdOrd, ↓rdTuple, ↓rdList, ↓rdIx, ↓rdAdd, ↓rdSub, ↓rdMul, ↓rdMod, ↓rdDiv, ↓rdPow, ↓rdCmp, ↓rdEq, ↓rdNe, ↓rdIadd, ↓rdIn, ↓rdSorted, ↓rdSl, ↓isT, ↓rdAppend, ↓itemsOf, ↓rvOf, ↓argsOf, ↓argOf, Nat.reduceAdd, Nat.reduceLT, Nat.reduceSub, Int.reduceLT, Int.reduceLE, Int.reduceAdd, Int.reduceEq, Int.reduceNeg, Nat.reduceLeDiff, Nat.zero_add, Nat.reduceEqDiff, Nat.reduceBEq, ix41, ix42, ix43, ix40, List.length_cons, List.length_nil, List.map_cons, List.map_nil, List.replicate, List.cons_append, List.nil_append, List.getElem?_cons_zero, List.getElem?_cons_succ, List.set_cons_zero, List.set_cons_succ, Option.map_some, at0, at1, at2, at3, ix0, ix1, ix2, ix3, sh_int, sh_bl, sh_non, eqv_int, eqv_bl, eqv_str, decide_eq_true_eq, Bool.not_eq_true, Bool.not_true, Bool.not_false, Bool.false_eq_true, true_and, and_true, if_true, if_false, ite_true, ite_false, List.length_map, List.length_set, Sl.isD, List.mem_singleton, List.mem_cons, List.not_mem_nil, not_true_eq_false, not_false_eq_true, or_false]; exact fin _
/-! ### the law's own test of two values -/
def sameB : Nat → PyData → Bool
  | _, .none => true
  | _, .bool _ => true
  | _, .int _ => true
  | _, .str z => z.cps.all (· < 0x110000)
  | d + 1, .tuple xs => decide (xs.length ≤ sizeLine) && xs.all (sameB d)
  | _, _ => false
def spSameD : Nat → FD
  | 0 => fun _ _ => False
  | d + 1 => fun args Q => ∃ x, args = [.d x, .d x] ∧ sameB d x = true ∧ ∀ os, Q (.d (.bool true)) os
def rSame (sp_law_same : FD) : TDS := (tdSeq (tdIfS (tdTest (tdIsi "tuple" (tdV 1))) (tdSeq (tdIfS (tdOr (tdNot (tdTest (tdIsi "tuple" (tdV 0)))) (tdTest (tdBin rdNe (tdB rdLen (tdCons (tdV 0) tdNil)) (tdB rdLen (tdCons (tdV 1) tdNil))))) (tdRet ([], []) (tdC (.bool false))) tdNext)
  (tdSeq (tdFor (tdRng1 (tdCons (tdB rdLen (tdCons (tdV 1) tdNil)) tdNil)) (gdName 2) (tdIfS (tdNot (tdTest (tdCall ([], []) 2 sp_law_same (tdCons (tdBin rdIx (tdV 0) (tdV 2)) (tdCons (tdBin rdIx (tdV 1) (tdV 2)) tdNil))))) (tdRet ([], []) (tdC (.bool false))) tdNext))
  (tdRet ([], []) (tdC (.bool true))))) tdNext)
  (tdSeq (tdIfS (tdOr (tdTest (tdIsN (tdV 1))) (tdTest (tdIsN (tdV 0)))) (tdRet ([], []) (tdAndV (tdIsN (tdV 1)) (tdIsN (tdV 0)))) tdNext)
  (tdSeq (tdIfS (tdTest (tdIsi "str" (tdV 1))) (tdRet ([], []) (tdAndV (tdIsi "str" (tdV 0)) (tdBin rdEq (tdV 0) (tdV 1)))) tdNext)
  (tdSeq (tdIfS (tdOr (tdTest (tdBin rdNe (tdIsi "bool" (tdV 0)) (tdIsi "bool" (tdV 1)))) (tdNot (tdTest (tdIsi "int" (tdV 0))))) (tdRet ([], []) (tdC (.bool false))) tdNext)
  (tdRet ([], []) (tdBin rdEq (tdV 0) (tdV 1)))))))
theorem hSame (j : Nat) (args : List Sl) (Q : Sl → (Nat → Option Sl) → Prop) (hl : args.length = 2) (h : spSameD (j + 1) args Q) : rSame (spSameD j) { nx := fun env => Q (.d .none) (osOf env), rt := fun r env => Q r (osOf env) } (startE 3 args) := by
  obtain ⟨x, rfl, hx, k⟩ := h
  unfold rSame
  cases x with
  | none => simp only [↓startE, ↓tdSeq, ↓tdSet, ↓tdSetD, ↓tdDrop, ↓tdRet, ↓tdIfS, ↓tdNext, ↓tdAsg, ↓tdV, ↓tdC, ↓tdBin, ↓tdB, ↓tdCons, ↓tdNil, ↓tdTup, ↓tdLst, ↓tdTest, ↓tdAnd, ↓tdOr, ↓tdNot, ↓tdIf, ↓tdAndV, ↓tdOrV, ↓tdNotV, ↓tdNeg, ↓tdIsN, ↓tdNotN, ↓tdSl, ↓tdPart, ↓tdNoPart, ↓tdM, ↓tdSetIx, ↓tdAug, ↓tdPut, ↓tdGet2, ↓tdIsi, ↓tdListRg, ↓gdName, ↓gdNil, ↓gdCons, ↓gdTup, ↓tdIt, ↓tdRng1, ↓tdRng2, ↓tdCall, ↓tdNew, ↓tdJoin, ↓gcName, ↓gcNil, ↓gcCons, ↓gcTup, ↓tdYes, ↓res, ↓resR, ↓resAll, ↓rvD, ↓rdLen, ↓rdInt, ↓rdAbs, ↓rdMax2, ↓rdMin2, ↓rdOrd, ↓rdTuple, ↓rdList, ↓rdIx, ↓rdAdd, ↓rdSub, ↓rdMul, ↓rdMod, ↓rdDiv, ↓rdPow, ↓rdCmp, ↓rdEq, ↓rdNe, ↓rdIadd, ↓rdIn, ↓rdSorted, ↓rdSl, ↓isT, ↓rdAppend, ↓itemsOf, ↓rvOf, ↓argsOf, ↓argOf, Nat.reduceAdd, Nat.reduceLT, Nat.reduceSub, Int.reduceLT, Int.reduceLE, Int.reduceAdd, Int.reduceEq, Int.reduceNeg, Nat.reduceLeDiff, Nat.zero_add, Nat.reduceEqDiff, Nat.reduceBEq, ix41, ix42, ix43, ix40, List.length_cons, List.length_nil, List.map_cons, List.map_nil, List.replicate, List.cons_append, List.nil_append, List.getElem?_cons_zero, List.getElem?_cons_succ, List.set_cons_zero, List.set_cons_succ, Option.map_some, at0, at1, at2, at3, ix0, ix1, ix2, ix3, sh_int, sh_bl, sh_non, eqv_int, eqv_bl, eqv_str, decide_eq_true_eq, Bool.not_eq_true, Bool.not_true, Bool.not_false, Bool.false_eq_true, true_and, and_true, if_true, if_false, ite_true, ite_false, List.length_map, List.length_set, Sl.isD, List.mem_singleton, List.mem_cons, List.not_mem_nil, not_true_eq_false, not_false_eq_true, or_false]; exact k _
  | bool b => cases b <;> (simp (config := { decide := true }) only [↓startE, ↓tdSeq, ↓tdSet, ↓tdSetD, ↓tdDrop, ↓tdRet, ↓tdIfS, ↓tdNext, ↓tdAsg, ↓tdV, ↓tdC, ↓tdBin, ↓tdB, ↓tdCons, ↓tdNil, ↓tdTup, ↓tdLst, ↓tdTest, ↓tdAnd, ↓tdOr, ↓tdNot, ↓tdIf, ↓tdAndV, ↓tdOrV, ↓tdNotV, ↓tdNeg, ↓tdIsN, ↓tdNotN, ↓tdSl, ↓tdPart, ↓tdNoPart, ↓tdM, ↓tdSetIx, ↓tdAug, ↓tdPut, ↓tdGet2, ↓tdIsi, ↓tdListRg, ↓gdName, ↓gdNil, ↓gdCons, ↓gdTup, ↓tdIt, ↓tdRng1, ↓tdRng2, ↓tdCall, ↓tdNew, ↓tdJoin, ↓gcName, ↓gcNil, ↓gcCons, ↓gcTup, ↓tdYes, ↓res, ↓resR, ↓resAll, ↓rvD, ↓rdLen, ↓rdInt, ↓rdAbs, ↓rdMax2, ↓rdMin2, ↓rdOrd, ↓rdTuple, ↓rdList, ↓rdIx, ↓rdAdd, ↓rdSub, ↓rdMul, ↓rdMod, ↓rdDiv, ↓rdPow, ↓rdCmp, ↓rdEq, ↓rdNe, ↓rdIadd, ↓rdIn, ↓rdSorted, ↓rdSl, ↓isT, ↓rdAppend, ↓itemsOf, ↓rvOf, ↓argsOf, ↓argOf, Nat.reduceAdd, Nat.reduceLT, Nat.reduceSub, Int.reduceLT, Int.reduceLE, Int.reduceAdd, Int.reduceEq, Int.reduceNeg, Nat.reduceLeDiff, Nat.zero_add, Nat.reduceEqDiff, Nat.reduceBEq, ix41, ix42, ix43, ix40, List.length_cons, List.length_nil, List.map_cons, List.map_nil, List.replicate, List.cons_append, List.nil_append, List.getElem?_cons_zero, List.getElem?_cons_succ, List.set_cons_zero, List.set_cons_succ, Option.map_some, at0, at1, at2, at3, ix0, ix1, ix2, ix3, sh_int, sh_bl, sh_non, eqv_int, eqv_bl, eqv_str, decide_eq_true_eq, Bool.not_eq_true, Bool.not_true, Bool.not_false, Bool.false_eq_true, true_and, and_true, if_true, if_false, ite_true, ite_false, List.length_map, List.length_set, Sl.isD, List.mem_singleton, List.mem_cons, List.not_mem_nil, not_true_eq_false, not_false_eq_true, or_false]; exact k _)
  | int i => simp (config := { decide := true }) only [↓startE, ↓tdSeq, ↓tdSet, ↓tdSetD, ↓tdDrop, ↓tdRet, ↓tdIfS, ↓tdNext, ↓tdAsg, ↓tdV, ↓tdC, ↓tdBin, ↓tdB, ↓tdCons, ↓tdNil, ↓tdTup, ↓tdLst, ↓tdTest, ↓tdAnd, ↓tdOr, ↓tdNot, ↓tdIf, ↓tdAndV, ↓tdOrV, ↓tdNotV, ↓tdNeg, ↓tdIsN, ↓tdNotN, ↓tdSl, ↓tdPart, ↓tdNoPart, ↓tdM, ↓tdSetIx, ↓tdAug, ↓tdPut, ↓tdGet2, ↓tdIsi, ↓tdListRg, ↓gdName, ↓gdNil, ↓gdCons, ↓gdTup, ↓tdIt, ↓tdRng1, ↓tdRng2, ↓tdCall, ↓tdNew, ↓tdJoin, ↓gcName, ↓gcNil, ↓gcCons, ↓gcTup, ↓tdYes, ↓res, ↓resR, ↓resAll, ↓rvD, ↓rdLen, ↓rdInt, ↓rdAbs, ↓rdMax2, ↓rdMin2, ↓rdOrd, ↓rdTuple, ↓rdList, ↓rdIx, ↓rdAdd, ↓rdSub, ↓rdMul, ↓rdMod, ↓rdDiv, ↓rdPow, ↓rdCmp, ↓rdEq, ↓rdNe, ↓rdIadd, ↓rdIn, ↓rdSorted, ↓rdSl, ↓isT, ↓rdAppend, ↓itemsOf, ↓rvOf, ↓argsOf, ↓argOf, Nat.reduceAdd, Nat.reduceLT, Nat.reduceSub, Int.reduceLT, Int.reduceLE, Int.reduceAdd, Int.reduceEq, Int.reduceNeg, Nat.reduceLeDiff, Nat.zero_add, Nat.reduceEqDiff, Nat.reduceBEq, ix41, ix42, ix43, ix40, List.length_cons, List.length_nil, List.map_cons, List.map_nil, List.replicate, List.cons_append, List.nil_append, List.getElem?_cons_zero, List.getElem?_cons_succ, List.set_cons_zero, List.set_cons_succ, Option.map_some, at0, at1, at2, at3, ix0, ix1, ix2, ix3, sh_int, sh_bl, sh_non, eqv_int, eqv_bl, eqv_str, decide_eq_true_eq, Bool.not_eq_true, Bool.not_true, Bool.not_false, Bool.false_eq_true, true_and, and_true, if_true, if_false, ite_true, ite_false, List.length_map, List.length_set, Sl.isD, List.mem_singleton, List.mem_cons, List.not_mem_nil, not_true_eq_false, not_false_eq_true, or_false]; exact k _
  | str z =>
    have hz : SeqAt.shaped (.str z) = true := by
      simp only [SeqAt.shaped, PyData.canLay0, PyData.depth, Bool.and_eq_true]
      exact ⟨by cases j <;> exact hx, decide_eq_true (Nat.zero_le _)⟩
    simp (config := { decide := true }) only [hz, ↓startE, ↓tdSeq, ↓tdSet, ↓tdSetD, ↓tdDrop, ↓tdRet, ↓tdIfS, ↓tdNext, ↓tdAsg, ↓tdV, ↓tdC, ↓tdBin, ↓tdB, ↓tdCons, ↓tdNil, ↓tdTup, ↓tdLst, ↓tdTest, ↓tdAnd, ↓tdOr, ↓tdNot, ↓tdIf, ↓tdAndV, ↓tdOrV, ↓tdNotV, ↓tdNeg, ↓tdIsN, ↓tdNotN, ↓tdSl, ↓tdPart, ↓tdNoPart, ↓tdM, ↓tdSetIx, ↓tdAug, ↓tdPut, ↓tdGet2, ↓tdIsi, ↓tdListRg, ↓gdName, ↓gdNil, ↓gdCons, ↓gdTup, ↓tdIt, ↓tdRng1, ↓tdRng2, ↓tdCall, ↓tdNew, ↓tdJoin, ↓gcName, ↓gcNil, ↓gcCons, ↓gcTup, ↓tdYes, ↓res, ↓resR, ↓resAll, ↓rvD, ↓rdLen, ↓rdInt, ↓rdAbs, ↓rdMax2, ↓rdMin2, ↓rdOrd, ↓rdTuple, ↓rdList, ↓rdIx, ↓rdAdd, ↓rdSub, ↓rdMul, ↓rdMod, ↓rdDiv, ↓rdPow, ↓rdCmp, ↓rdEq, ↓rdNe, ↓rdIadd, ↓rdIn, ↓rdSorted, ↓rdSl, ↓isT, ↓rdAppend, ↓itemsOf, ↓rvOf, ↓argsOf, ↓argOf, Nat.reduceAdd, Nat.reduceLT, Nat.reduceSub, Int.reduceLT, Int.reduceLE, Int.reduceAdd, Int.reduceEq, Int.reduceNeg, Nat.reduceLeDiff, Nat.zero_add, Nat.reduceEqDiff, Nat.reduceBEq, ix41, ix42, ix43, ix40, List.length_cons, List.length_nil, List.map_cons, List.map_nil, List.replicate, List.cons_append, List.nil_append, List.getElem?_cons_zero, List.getElem?_cons_succ, List.set_cons_zero, List.set_cons_succ, Option.map_some, at0, at1, at2, at3, ix0, ix1, ix2, ix3, sh_int, sh_bl, sh_non, eqv_int, eqv_bl, eqv_str, decide_eq_true_eq, Bool.not_eq_true, Bool.not_true, Bool.not_false, Bool.false_eq_true, true_and, and_true, if_true, if_false, ite_true, ite_false, List.length_map, List.length_set, Sl.isD, List.mem_singleton, List.mem_cons, List.not_mem_nil, not_true_eq_false, not_false_eq_true, or_false]; exact k _
  | tuple xs =>
    refine seq_i fun Kc hK => ?_
    cases j with
    | zero => cases hx
    | succ j =>
    obtain ⟨hz, ha⟩ := Bool.and_eq_true_iff.mp (show (decide (xs.length ≤ sizeLine) && xs.all (sameB j)) = true from hx)
    have hz2 : xs.length ≤ 2 ^ 24 := of_decide_eq_true hz
    have hall := List.all_eq_true.mp ha
    simp (config := { decide := true }) only [↓startE, ↓tdSeq, ↓tdSet, ↓tdSetD, ↓tdDrop, ↓tdRet, ↓tdIfS, ↓tdNext, ↓tdAsg, ↓tdV, ↓tdC, ↓tdBin, ↓tdB, ↓tdCons, ↓tdNil, ↓tdTup, ↓tdLst, ↓tdTest, ↓tdAnd, ↓tdOr, ↓tdNot, ↓tdIf, ↓tdAndV, ↓tdOrV, ↓tdNotV, ↓tdNeg, ↓tdIsN, ↓tdNotN, ↓tdSl, ↓tdPart, ↓tdNoPart, ↓tdM, ↓tdSetIx, ↓tdAug, ↓tdPut, ↓tdGet2, ↓tdIsi, ↓tdListRg, ↓gdName, ↓gdNil, ↓gdCons, ↓gdTup, ↓tdIt, ↓tdRng1, ↓tdRng2, ↓tdCall, ↓tdNew, ↓tdJoin, ↓gcName, ↓gcNil, ↓gcCons, ↓gcTup, ↓tdYes, ↓res, ↓resR, ↓resAll, ↓rvD, ↓rdLen, ↓rdInt, ↓rdAbs, ↓rdMax2, ↓rdMin2, ↓rdOrd, ↓rdTuple, ↓rdList, ↓rdIx, ↓rdAdd, ↓rdSub, ↓rdMul, ↓rdMod, ↓rdDiv, ↓rdPow, ↓rdCmp, ↓rdEq, ↓rdNe, ↓rdIadd, ↓rdIn, ↓rdSorted, ↓rdSl, ↓isT, ↓rdAppend, ↓itemsOf, ↓rvOf, ↓argsOf, ↓argOf, Nat.reduceAdd, Nat.reduceLT, Nat.reduceSub, Int.reduceLT, Int.reduceLE, Int.reduceAdd, Int.reduceEq, Int.reduceNeg, Nat.reduceLeDiff, Nat.zero_add, Nat.reduceEqDiff, Nat.reduceBEq, ix41, ix42, ix43, ix40, List.length_cons, List.length_nil, List.map_cons, List.map_nil, List.replicate, List.cons_append, List.nil_append, List.getElem?_cons_zero, List.getElem?_cons_succ, List.set_cons_zero, List.set_cons_succ, Option.map_some, at0, at1, at2, at3, ix0, ix1, ix2, ix3, sh_int, sh_bl, sh_non, eqv_int, eqv_bl, eqv_str, decide_eq_true_eq, Bool.not_eq_true, Bool.not_true, Bool.not_false, Bool.false_eq_true, true_and, and_true, if_true, if_false, ite_true, ite_false, List.length_map, List.length_set, Sl.isD, List.mem_singleton, List.mem_cons, List.not_mem_nil, not_true_eq_false, not_false_eq_true, or_false]
    refine ⟨⟨by omega, by omega⟩, fun i env => ∃ x : Option Sl, env = [some (.d (.tuple xs)), some (.d (.tuple xs)), x], ⟨_, rfl⟩, fun i x env hx2 hP => ?_, fun env hP => ?_⟩
    · obtain ⟨x0, rfl⟩ := hP
      unfold rngL at hx2
      rw [List.getElem?_map] at hx2
      obtain ⟨a, ha2, rfl⟩ := Option.map_eq_some_iff.mp hx2
      obtain ⟨h1, h2⟩ := List.getElem?_eq_some_iff.mp ha2
      rw [List.getElem_range] at h2
      subst h2
      rw [List.length_range] at h1
      have hi : i < xs.length := by omega
      have ez : (0 : Int) + (i : Nat) = (i : Nat) := by omega
      rw [ez]
      have e1 : atI xs (i : Int) = some xs[i] := atI_nat (List.getElem?_eq_getElem hi)
      simp only [e1, outE_n, ↓startE, ↓tdSeq, ↓tdSet, ↓tdSetD, ↓tdDrop, ↓tdRet, ↓tdIfS, ↓tdNext, ↓tdAsg, ↓tdV, ↓tdC, ↓tdBin, ↓tdB, ↓tdCons, ↓tdNil, ↓tdTup, ↓tdLst, ↓tdTest, ↓tdAnd, ↓tdOr, ↓tdNot, ↓tdIf, ↓tdAndV, ↓tdOrV, ↓tdNotV, ↓tdNeg, ↓tdIsN, ↓tdNotN, ↓tdSl, ↓tdPart, ↓tdNoPart, ↓tdM, ↓tdSetIx, ↓tdAug, ↓tdPut, ↓tdGet2, ↓tdIsi, ↓tdListRg, ↓gdName, ↓gdNil, ↓gdCons, ↓gdTup, ↓tdIt, ↓tdRng1, ↓tdRng2, ↓tdCall, ↓tdNew, ↓tdJoin, ↓gcName, ↓gcNil, ↓gcCons, ↓gcTup, ↓tdYes, ↓res, ↓resR, ↓resAll, ↓rvD, ↓rdLen, ↓rdInt, ↓rdAbs, ↓rdMax2, ↓rdMin2, ↓rdOrd, ↓rdTuple, ↓rdList, ↓rdIx, ↓rdAdd, ↓rdSub, ↓rdMul, ↓rdMod, ↓rdDiv, ↓rdPow, ↓rdCmp, ↓rdEq, ↓rdNe, ↓rdIadd, ↓rdIn, ↓rdSorted, ↓rdSl, ↓isT, ↓rdAppend, ↓itemsOf, ↓rvOf, ↓argsOf, ↓argOf, Nat.reduceAdd, Nat.reduceLT, Nat.reduceSub, Int.reduceLT, Int.reduceLE, Int.reduceAdd, Int.reduceEq, Int.reduceNeg, Nat.reduceLeDiff, Nat.zero_add, Nat.reduceEqDiff, Nat.reduceBEq, ix41, ix42, ix43, ix40, List.length_cons, List.length_nil, List.map_cons, List.map_nil, List.replicate, List.cons_append, List.nil_append, List.getElem?_cons_zero, List.getElem?_cons_succ, List.set_cons_zero, List.set_cons_succ, Option.map_some, at0, at1, at2, at3, ix0, ix1, ix2, ix3, sh_int, sh_bl, sh_non, eqv_int, eqv_bl, eqv_str, decide_eq_true_eq, Bool.not_eq_true, Bool.not_true, Bool.not_false, Bool.false_eq_true, true_and, and_true, if_true, if_false, ite_true, ite_false, List.length_map, List.length_set, Sl.isD, List.mem_singleton, List.mem_cons, List.not_mem_nil, not_true_eq_false, not_false_eq_true, or_false]
      exact ⟨xs[i], rfl, hall _ (List.getElem_mem hi), fun os => ⟨_, rfl⟩⟩
    · obtain ⟨x0, rfl⟩ := hP
      simp only [↓startE, ↓tdSeq, ↓tdSet, ↓tdSetD, ↓tdDrop, ↓tdRet, ↓tdIfS, ↓tdNext, ↓tdAsg, ↓tdV, ↓tdC, ↓tdBin, ↓tdB, ↓tdCons, ↓tdNil, ↓tdTup, ↓tdLst, ↓tdTest, ↓tdAnd, ↓tdOr, ↓tdNot, ↓tdIf, ↓tdAndV, ↓tdOrV, ↓tdNotV, ↓tdNeg, ↓tdIsN, ↓tdNotN, ↓tdSl, ↓tdPart, ↓tdNoPart, ↓tdM, ↓tdSetIx, ↓tdAug, ↓tdPut, ↓tdGet2, ↓tdIsi, ↓tdListRg, ↓gdName, ↓gdNil, ↓gdCons, ↓gdTup, ↓tdIt, ↓tdRng1, ↓tdRng2, ↓tdCall, ↓tdNew, ↓tdJoin, ↓gcName, ↓gcNil, ↓gcCons, ↓gcTup, ↓tdYes, ↓res, ↓resR, ↓resAll, ↓rvD, ↓rdLen, ↓rdInt, ↓rdAbs, ↓rdMax2, ↓rdMin2, ↓rdOrd, ↓rdTuple, ↓rdList, ↓rdIx, ↓rdAdd, ↓rdSub, ↓rdMul, ↓rdMod, ↓rdDiv, ↓rdPow, ↓rdCmp, ↓rdEq, ↓rdNe, ↓rdIadd, ↓rdIn, ↓rdSorted, ↓rdSl, ↓isT, ↓rdAppend, ↓itemsOf, ↓rvOf, ↓argsOf, ↓argOf, Nat.reduceAdd, Nat.reduceLT, Nat.reduceSub, Int.reduceLT, Int.reduceLE, Int.reduceAdd, Int.reduceEq, Int.reduceNeg, Nat.reduceLeDiff, Nat.zero_add, Nat.reduceEqDiff, Nat.reduceBEq, ix41, ix42, ix43, ix40, List.length_cons, List.length_nil, List.map_cons, List.map_nil, List.replicate, List.cons_append, List.nil_append, List.getElem?_cons_zero, List.getElem?_cons_succ, List.set_cons_zero, List.set_cons_succ, Option.map_some, at0, at1, at2, at3, ix0, ix1, ix2, ix3, sh_int, sh_bl, sh_non, eqv_int, eqv_bl, eqv_str, decide_eq_true_eq, Bool.not_eq_true, Bool.not_true, Bool.not_false, Bool.false_eq_true, true_and, and_true, if_true, if_false, ite_true, ite_false, List.length_map, List.length_set, Sl.isD, List.mem_singleton, List.mem_cons, List.not_mem_nil, not_true_eq_false, not_false_eq_true, or_false]
      exact k _
  | list xs => cases j <;> cases hx
  | dict xs => cases j <;> cases hx
end DL

set_option Elab.async false
set_option linter.all false
set_option maxRecDepth 100000
set_option maxHeartbeats 4000000
set_option autoImplicit false
namespace DL
open PySem PySem.Spec L2
/-- a comprehension whose turns change no name -/
theorem lc_pure {ti : TDI} {g : TDC} {te : TD} {vs : List Nat} {env : En} {Q : Rv → En → Prop} (xs : List PyData) (f : PyData → PyData) (hti : ∀ R : List PyData → En → Prop, R xs env → ti env R) (hlen : xs.length ≤ sizeLine) (hno : noOwn env vs)
    (hs : ∀ x ∈ xs, ∀ (A : Prop) (B : PyData → Prop), A → B (f x) → g x (wipeE env vs) fun env2 => te env2 fun rv env4 => match rvD rv with
      | some y => A ∧ (mergeE env env4 vs = env ∧ B y)
      | none => False) (hQ : Q (.n (.l (xs.map f))) env) : tdLc ti g tdYes te vs env Q := by
  refine hti _ ⟨fun i acc env' => env' = env ∧ acc = (xs.take i).map f, ⟨rfl, rfl⟩, fun i x acc env' hx hP => ?_, fun acc env' hP => ?_⟩
  · obtain ⟨rfl, rfl⟩ := hP
    have hi := (List.getElem?_eq_some_iff.mp hx).1
    refine ⟨hno, hs x (List.mem_of_getElem? hx) _ (fun y => (xs.take i).map f ++ [y] = (xs.take (i + 1)).map f) ?_ ?_⟩
    · rw [List.length_map, List.length_take]; omega
    · rw [List.take_add_one, hx, List.map_append]; rfl
  · obtain ⟨rfl, rfl⟩ := hP
    rw [List.take_length]
    exact hQ
theorem sorted_uniq : ∀ {a b : List Int}, a.Perm b → a.Pairwise (· ≤ ·) → b.Pairwise (· ≤ ·) → a = b := by
  intro a b p ha hb
  induction a generalizing b with
  | nil => exact (List.nil_perm.mp p).symm ▸ rfl
  | cons x a ih =>
    cases b with
    | nil => exact absurd p.length_eq (by simp)
    | cons y b =>
      have hx : x ∈ y :: b := p.mem_iff.mp List.mem_cons_self
      have hy : y ∈ x :: a := p.mem_iff.mpr List.mem_cons_self
      rw [List.pairwise_cons] at ha hb
      have e : x = y := by
        rcases List.mem_cons.mp hx with q | q
        · exact q
        · rcases List.mem_cons.mp hy with r | r
          · exact r.symm
          · have := ha.1 y r
            have := hb.1 x q
            omega
      subst e
      rw [ih ((List.perm_cons x).mp p) ha.2 hb.2]
theorem cutL_map {α : Type} (f : α → PyData) (xs : List α) (lo hi : Option Int) : cutL (xs.map f) lo hi = ((xs.drop (HT.sIx xs.length 0 lo)).take (HT.sIx xs.length xs.length hi - HT.sIx xs.length 0 lo)).map f := by
  unfold cutL
  rw [List.length_map, ← List.map_drop, ← List.map_take]
theorem sIx_k (n : Nat) (d k : Nat) : HT.sIx n d (some (k : Int)) = min k n := HT.sIx_nat n d k
/-- the same, over what a list's things are -/
theorem lc_map {α : Type} {ti : TDI} {g : TDC} {te : TD} {vs : List Nat} {env : En} {Q : Rv → En → Prop} (l : List α) (g0 f : α → PyData) (hti : ∀ R : List PyData → En → Prop, R (l.map g0) env → ti env R) (hlen : l.length ≤ sizeLine) (hno : noOwn env vs)
    (hs : ∀ x ∈ l, ∀ (A : Prop) (B : PyData → Prop), A → B (f x) → g (g0 x) (wipeE env vs) fun env2 => te env2 fun rv env4 => match rvD rv with
      | some y => A ∧ (mergeE env env4 vs = env ∧ B y)
      | none => False) (hQ : Q (.n (.l (l.map f))) env) : tdLc ti g tdYes te vs env Q := by
  refine hti _ ⟨fun i acc env' => env' = env ∧ acc = (l.take i).map f, ⟨rfl, rfl⟩, fun i x acc env' hx hP => ?_, fun acc env' hP => ?_⟩
  · obtain ⟨rfl, rfl⟩ := hP
    rw [List.getElem?_map] at hx
    obtain ⟨y, hy, rfl⟩ := Option.map_eq_some_iff.mp hx
    have hi := (List.getElem?_eq_some_iff.mp hy).1
    refine ⟨hno, hs y (List.mem_of_getElem? hy) _ (fun y => (l.take i).map f ++ [y] = (l.take (i + 1)).map f) ?_ ?_⟩
    · rw [List.length_map, List.length_take]; omega
    · rw [List.take_add_one, hy, List.map_append]; rfl
  · obtain ⟨rfl, rfl⟩ := hP
    rw [List.length_map, List.take_length]
    exact hQ
/-- a comprehension that draws: what its turns keep, and what they make -/
theorem lc_inv {ti : TDI} {g : TDC} {te : TD} {vs : List Nat} {env : En} {Q : Rv → En → Prop} (P : List PyData → Prop) (J : En → Prop) (Y : PyData → Prop) (hti : ∀ R : List PyData → En → Prop, (∀ xs env1, P xs → J env1 → R xs env1) → ti env R) (hlen : ∀ xs, P xs → xs.length ≤ sizeLine)
    (hs : ∀ xs x, P xs → x ∈ xs → ∀ env, J env → noOwn env vs ∧ ∀ (A : Prop) (B : En → PyData → Prop), A → (∀ env y, J env → Y y → B env y) → g x (wipeE env vs) fun env2 => te env2 fun rv env4 => match rvD rv with
      | some y => A ∧ B (mergeE env env4 vs) y
      | none => False) (hQ : ∀ xs env acc, P xs → J env → acc.length = xs.length → (∀ y ∈ acc, Y y) → Q (.n (.l acc)) env) : tdLc ti g tdYes te vs env Q := by
  refine hti _ fun xs env1 hP h0 => ⟨fun i acc env' => J env' ∧ acc.length = i ∧ ∀ y ∈ acc, Y y, ⟨h0, rfl, fun y hy => by cases hy⟩, fun i x acc env' hx hI => ?_, fun acc env' hI => hQ xs env' acc hP hI.1 hI.2.1 hI.2.2⟩
  obtain ⟨hJ, rfl, hY⟩ := hI
  have hi := (List.getElem?_eq_some_iff.mp hx).1
  have hz := hlen xs hP
  obtain ⟨hno, hh⟩ := hs xs x hP (List.mem_of_getElem? hx) env' hJ
  refine ⟨hno, hh (acc.length < sizeLine) (fun e y => J e ∧ (acc ++ [y]).length = acc.length + 1 ∧ ∀ z ∈ acc ++ [y], Y z) (by omega) fun e y je hy => ⟨je, by rw [List.length_append]; rfl, fun z hz => ?_⟩⟩
  rcases List.mem_append.mp hz with q | q
  · exact hY z q
  · rw [List.mem_singleton.mp q]; exact hy
theorem any_int (fr : List Int) (n : Int) : ((fr.map PyData.int).any fun z => PyData.eqv z (.int n)) = decide (n ∈ fr) := by
  induction fr with
  | nil => simp
  | cons a r ih =>
    rw [List.map_cons, List.any_cons, ih, eqv_int]
    by_cases h : a = n
    · simp [h]
    · simp [h]
      exact fun e => absurd e.symm h
theorem lay_ints : ∀ fr : List Int, PyData.canLayAll0 (fr.map PyData.int) = true ∧ PyData.depthAll (fr.map PyData.int) = 0
  | [] => by simp [PyData.canLayAll0, PyData.depthAll]
  | a :: r => by
    obtain ⟨h1, h2⟩ := lay_ints r
    simp [PyData.canLayAll0, PyData.depthAll, PyData.canLay0, PyData.depth, h1, h2]
theorem sh_ints (fr : List Int) : SeqAt.shaped (.list (fr.map PyData.int)) = true := by
  obtain ⟨h1, h2⟩ := lay_ints fr
  simp [SeqAt.shaped, PyData.canLay0, PyData.depth, h1, h2]
/-! ### dicts that count -/
theorem val_ks (f : Int → PyData) (n : Int) : ∀ ks : List Int, valD (ks.map fun k => ((.inl k : Key), f k)) (.inl n) = if n ∈ ks then some (f n) else none
  | [] => by simp [valD]
  | k :: ks => by
    have ih := val_ks f n ks
    unfold valD at ih ⊢
    rw [List.map_cons, List.find?_cons]
    by_cases h : k = n
    · subst h; simp
    · have h1 : decide ((.inl k : Key) = .inl n) = false := decide_eq_false fun e => h (by injection e)
      rw [h1]
      dsimp only
      rw [ih]
      by_cases h2 : n ∈ ks
      · rw [if_pos h2, if_pos (List.mem_cons_of_mem _ h2)]
      · rw [if_neg h2, if_neg fun q => (List.mem_cons.mp q).elim (fun e => h e.symm) h2]
theorem any_ks (f : Int → PyData) (n : Int) (ks : List Int) : ((ks.map fun k => ((.inl k : Key), f k)).any fun kv => decide (kv.1 = .inl n)) = decide (n ∈ ks) := by
  induction ks with
  | nil => simp
  | cons k ks ih =>
    rw [List.map_cons, List.any_cons, ih]
    by_cases h : k = n
    · subst h; simp
    · have h1 : decide ((.inl k : Key) = .inl n) = false := decide_eq_false fun e => h (by injection e)
      rw [show (decide (((.inl k : Key), f k).1 = .inl n)) = false from h1, Bool.false_or]
      by_cases h2 : n ∈ ks
      · rw [decide_eq_true h2, decide_eq_true (List.mem_cons_of_mem _ h2)]
      · rw [decide_eq_false h2, decide_eq_false fun q => (List.mem_cons.mp q).elim (fun e => h e.symm) h2]
theorem nodup_len : ∀ {ks ns : List Int}, ks.Nodup → (∀ n ∈ ks, n ∈ ns) → ks.length ≤ ns.length
  | [], _, _, _ => Nat.zero_le _
  | k :: ks, ns, h, hs => by
    rw [List.nodup_cons] at h
    have hk := hs k List.mem_cons_self
    have := nodup_len (ks := ks) (ns := ns.erase k) h.2 fun n hn => (List.mem_erase_of_ne (show n ≠ k from fun e => h.1 (e ▸ hn))).mpr (hs n (List.mem_cons_of_mem _ hn))
    rw [List.length_erase_of_mem hk] at this
    have := List.length_pos_of_mem hk
    rw [List.length_cons]
    omega
def TimesOk (kvs : List (Key × PyData)) (ns : List Int) : Prop := ∃ ks : List Int, ks.Nodup ∧ (∀ n, n ∈ ks ↔ n ∈ ns) ∧ kvs = ks.map fun k => ((.inl k : Key), PyData.int (ns.count k))
theorem times_nil : TimesOk [] [] := ⟨[], List.nodup_nil, fun n => Iff.rfl, rfl⟩
theorem times_get {kvs : List (Key × PyData)} {ns : List Int} (h : TimesOk kvs ns) (n : Int) : (valD kvs (.inl n)).getD (.int 0) = .int (ns.count n) := by
  obtain ⟨ks, h1, h2, rfl⟩ := h
  rw [val_ks (fun k => PyData.int (ns.count k))]
  by_cases q : n ∈ ks
  · rw [if_pos q]; rfl
  · rw [if_neg q, List.count_eq_zero_of_not_mem fun z => q ((h2 n).mpr z)]; rfl
theorem times_len {kvs : List (Key × PyData)} {ns : List Int} (h : TimesOk kvs ns) : kvs.length ≤ ns.length := by
  obtain ⟨ks, h1, h2, rfl⟩ := h
  rw [List.length_map]
  exact nodup_len h1 fun n hn => (h2 n).mp hn
theorem times_put {kvs : List (Key × PyData)} {ns : List Int} (h : TimesOk kvs ns) (n : Int) : TimesOk (putD kvs (.inl n) (.int (ns.count n + 1))) (ns ++ [n]) := by
  obtain ⟨ks, h1, h2, rfl⟩ := h
  unfold putD
  rw [any_ks (fun k => PyData.int (ns.count k))]
  have cnt : ∀ k, ((ns ++ [n]).count k : Int) = ns.count k + (if k = n then 1 else 0) := fun k => by
    rw [List.count_append, List.count_singleton]
    by_cases e : k = n
    · subst e; simp
    · rw [if_neg e, if_neg (by simpa using fun q : n = k => e q.symm)]; simp
  by_cases q : n ∈ ks
  · rw [if_pos (decide_eq_true q)]
    refine ⟨ks, h1, fun m => ?_, ?_⟩
    · rw [List.mem_append, List.mem_singleton, ← h2 m]
      exact ⟨.inl, fun z => z.elim id fun e => e ▸ q⟩
    · rw [List.map_map]
      refine List.map_congr_left fun k hk => ?_
      show (if (.inl k : Key) = .inl n then _ else _) = _
      by_cases e : k = n
      · subst e
        rw [if_pos rfl, cnt, if_pos rfl]
      · rw [if_neg fun z => e (by injection z), cnt, if_neg e, Int.add_zero]
  · rw [if_neg (by simpa using q)]
    refine ⟨ks ++ [n], ?_, fun m => ?_, ?_⟩
    · rw [List.nodup_append]
      exact ⟨h1, by simp, fun a ha b hb => by rw [List.mem_singleton.mp hb]; exact fun e => q (e ▸ ha)⟩
    · rw [List.mem_append, List.mem_append, h2 m]
    · rw [List.map_append]
      refine congr (congrArg _ (List.map_congr_left fun k hk => ?_)) ?_
      · have e : k ≠ n := fun e => q (e ▸ hk)
        rw [cnt, if_neg e, Int.add_zero]
      · rw [List.map_cons, List.map_nil, cnt, if_pos rfl]
end DL

set_option Elab.async false
set_option linter.all false
set_option maxRecDepth 100000
set_option maxHeartbeats 4000000
set_option autoImplicit false
namespace DL
open PySem PySem.Spec L2 RZ
section
variable {K : PySem.W.Frag} {G : Hp} {a b : Addr} {vs us : List V} {xs ys : List PyData}
theorem walk_enum (s : SqL K G a vs) (d : DpAll K G vs xs) : Walk K (Ite K a) G (enumL xs) := by
  intro H W e hw i
  have s' : SqL K H a vs := hw_same.seq (e.seq s)
  have hl : (enumL xs).length = xs.length := by unfold enumL; rw [List.length_zipWith, List.length_range, Nat.min_self]
  refine ⟨fun x hx => ?_, fun hle => ⟨vs, s', by rw [d.len]; omega⟩⟩
  have hi : i < xs.length := by rw [← hl]; exact (List.getElem?_eq_some_iff.mp hx).1
  have hx2 : x = .tuple [.int (i : Nat), xs[i]] := by
    unfold enumL at hx
    rw [List.getElem?_zipWith, List.getElem?_eq_getElem hi, List.getElem?_range hi] at hx
    exact (Option.some.inj hx).symm
  obtain ⟨v, hv, dv⟩ := d.get (List.getElem?_eq_getElem hi)
  refine ⟨⟨vs, v, s', hv⟩, fun u H' y => ?_⟩
  obtain ⟨T, x1, rfl, hT, rfl, y⟩ := y
  have := y vs s'
  rw [hv] at this; cases this
  have g : Grow H W (upd H T (.tup [.int (i : Nat), v])) W := grow_new hT
  refine ⟨g, ?_⟩
  rw [hx2]
  refine .tup (.inl (.inl (hw_of (fun z => hw T z hT) upd_same))) ?_
  exact dpa_mono ((g.stp (A := [])).same fun _ z => absurd z (by simp)) _ (.cons (.int _) (.cons (dp_mono e _ dv) .nil))
theorem walk_zip (s : SqL K G a vs) (d : DpAll K G vs xs) (s2 : SqL K G b us) (d2 : DpAll K G us ys) : Walk K (Itz K a b) G (xs.zipWith (fun x y => .tuple [x, y]) ys) := by
  intro H W e hw i
  have s' : SqL K H a vs := hw_same.seq (e.seq s)
  have s2' : SqL K H b us := hw_same.seq (e.seq s2)
  refine ⟨fun x hx => ?_, fun hle => ⟨vs, us, s', s2', by rw [d.len, d2.len]; rw [List.length_zipWith] at hle; omega⟩⟩
  have hi := (List.getElem?_eq_some_iff.mp hx).1
  rw [List.length_zipWith] at hi
  have h1 : i < xs.length := by omega
  have h2 : i < ys.length := by omega
  have hx2 : x = .tuple [xs[i], ys[i]] := by
    rw [List.getElem?_zipWith, List.getElem?_eq_getElem h1, List.getElem?_eq_getElem h2] at hx
    exact (Option.some.inj hx).symm
  obtain ⟨v, hv, dv⟩ := d.get (List.getElem?_eq_getElem h1)
  obtain ⟨u, hu, du⟩ := d2.get (List.getElem?_eq_getElem h2)
  refine ⟨⟨vs, us, v, u, s', s2', hv, hu⟩, fun w H' y => ?_⟩
  obtain ⟨T, x1, x2, rfl, hT, rfl, y1, y2⟩ := y
  have z1 := y1 vs s'
  have z2 := y2 us s2'
  rw [hv] at z1; cases z1
  rw [hu] at z2; cases z2
  have g : Grow H W (upd H T (.tup [v, u])) W := grow_new hT
  refine ⟨g, ?_⟩
  rw [hx2]
  refine .tup (.inl (.inl (hw_of (fun z => hw T z hT) upd_same))) ?_
  exact dpa_mono ((g.stp (A := [])).same fun _ z => absurd z (by simp)) _ (.cons (dp_mono e _ dv) (.cons (dp_mono e _ du) .nil))
theorem walk_zipT (s : SqT K G a vs) (d : DpAll K G vs xs) (s2 : SqT K G b us) (d2 : DpAll K G us ys) : Walk K (ItzT K a b) G (xs.zipWith (fun x y => .tuple [x, y]) ys) := by
  intro H W e hw i
  have s' : SqT K H a vs := same_t hw_same (same_t e s)
  have s2' : SqT K H b us := same_t hw_same (same_t e s2)
  refine ⟨fun x hx => ?_, fun hle => ⟨vs, us, s', s2', by rw [d.len, d2.len]; rw [List.length_zipWith] at hle; omega⟩⟩
  have hi := (List.getElem?_eq_some_iff.mp hx).1
  rw [List.length_zipWith] at hi
  have h1 : i < xs.length := by omega
  have h2 : i < ys.length := by omega
  have hx2 : x = .tuple [xs[i], ys[i]] := by
    rw [List.getElem?_zipWith, List.getElem?_eq_getElem h1, List.getElem?_eq_getElem h2] at hx
    exact (Option.some.inj hx).symm
  obtain ⟨v, hv, dv⟩ := d.get (List.getElem?_eq_getElem h1)
  obtain ⟨u, hu, du⟩ := d2.get (List.getElem?_eq_getElem h2)
  refine ⟨⟨vs, us, v, u, s', s2', hv, hu⟩, fun w H' y => ?_⟩
  obtain ⟨T, x1, x2, rfl, hT, rfl, y1, y2⟩ := y
  have z1 := y1 vs s'
  have z2 := y2 us s2'
  rw [hv] at z1; cases z1
  rw [hu] at z2; cases z2
  have g : Grow H W (upd H T (.tup [v, u])) W := grow_new hT
  refine ⟨g, ?_⟩
  rw [hx2]
  refine .tup (.inl (.inl (hw_of (fun z => hw T z hT) upd_same))) ?_
  exact dpa_mono ((g.stp (A := [])).same fun _ z => absurd z (by simp)) _ (.cons (dp_mono e _ dv) (.cons (dp_mono e _ du) .nil))
end
/-- zip of two lists or two tuples -/
def tdZip2 (t : TDA) : TDI := fun env Q => t env fun rvs env1 => match resAll rvs with
  | some [.list xs, .list ys] => Q (xs.zipWith (fun x y => .tuple [x, y]) ys) env1
  | some [.tuple xs, .tuple ys] => Q (xs.zipWith (fun x y => .tuple [x, y]) ys) env1
  | _ => False
section
variable {X : Cx} {e e2 : Expr} {ta : TDA} {p pos tpos : Pos} {elts : List Expr} {kk : Nat}
theorem pdi_enum (hg : Gl X "enumerate") (hm : X.mg "enumerate" = none) (ha : PDA X [e] ta) (hs : starEach [e] X.env = [(false, eval e X.env)] := by rfl) : PDI X (.Tuple elts kk tpos) (.Call (.Name "enumerate" p) [e] [] pos) (tdEnum ta) := by
  obtain ⟨t1, p1, q1⟩ := ha
  refine ⟨_, pi_enum hg hm p1 hs, fun σ H W A env R Qd E ht k => ?_⟩
  refine q1 σ H W A env _ _ E ht fun vs H1 W1 env1 rvs E1 S1 R1 h1 => ?_
  split at h1
  · rename_i xs ex
    obtain ⟨W', s1, s2, d⟩ := R1.keep ex
    have E' := E1.sub s1 fun a ha => s2 a (E1.ain a ha) (E.ain a ha)
    have S' := S1.sub s1 s2
    cases d with
    | cons d1 d2 =>
      cases d2
      cases d1 with
      | lst s r => exact ⟨_, _, rfl, hw_same.seq s, k _ H1 W' env1 _ E' S' (walk_enum s r) h1⟩
  · exact h1.elim
theorem pdi_zip (hg : Gl X "zip") (hm : X.mg "zip" = none) (ha : PDA X [e, e2] ta)
    (hs : starEach [e, e2] X.env = (false, eval e X.env) :: starEach [e2] X.env := by rfl) (hpl : (backTo pos (starEach [e2] X.env)).any (·.1) = false := by rfl) : PDI X (.Tuple elts kk tpos) (.Call (.Name "zip" p) [e, e2] [] pos) (tdZip2 ta) := by
  obtain ⟨t1, p1, q1⟩ := ha
  refine ⟨_, pi_zipA hg hm p1 hs hpl, fun σ H W A env R Qd E ht k => ?_⟩
  refine q1 σ H W A env _ _ E ht fun vs H1 W1 env1 rvs E1 S1 R1 h1 => ?_
  split at h1
  · rename_i xs ys ex
    obtain ⟨W', s1, s2, d⟩ := R1.keep ex
    have E' := E1.sub s1 fun a ha => s2 a (E1.ain a ha) (E.ain a ha)
    have S' := S1.sub s1 s2
    cases d with
    | cons d1 d2 =>
      cases d2 with
      | cons d2 d3 =>
        cases d3
        cases d1 with
        | lst s r =>
          cases d2 with
          | lst s2 r2 => exact ⟨_, _, _, _, rfl, .inl ⟨hw_same.seq s, hw_same.seq s2, k _ H1 W' env1 _ E' S' (walk_zip s r s2 r2) h1⟩⟩
  · rename_i xs ys ex
    obtain ⟨W', s1, s2, d⟩ := R1.keep ex
    have E' := E1.sub s1 fun a ha => s2 a (E1.ain a ha) (E.ain a ha)
    have S' := S1.sub s1 s2
    cases d with
    | cons d1 d2 =>
      cases d2 with
      | cons d2 d3 =>
        cases d3
        cases d1 with
        | tup s r =>
          cases d2 with
          | tup s2 r2 => exact ⟨_, _, _, _, rfl, .inr ⟨same_t hw_same s, same_t hw_same s2, k _ H1 W' env1 _ E' S' (walk_zipT s r s2 r2) h1⟩⟩
  · exact h1.elim
end
section
variable {X : Cx}
def rdNotIn : PyData → PyData → (Rv → Prop) → Prop
  | x, .list ds, Q => SeqAt.shaped x = true ∧ SeqAt.shaped (.list ds) = true ∧ Q (.d (.bool (!ds.any fun z => PyData.eqv z x)))
  | x, .tuple ds, Q => SeqAt.shaped x = true ∧ SeqAt.shaped (.tuple ds) = true ∧ Q (.d (.bool (!ds.any fun z => PyData.eqv z x)))
  | _, _, _ => False
theorem od_notIn (hu : X.A.units + 65 < cLine) : OpD X (compareOp .NotIn) rdNotIn := by
  refine ⟨_, opr_or (op_notInD hu) (op_notInA hu), fun H W x y a b Q Qd hw ra rb q k => ?_⟩
  unfold rdNotIn at q
  split at q
  · exact .inl ⟨_, _, ra.dp, rb.dp, q.1, q.2.1, k.bl q.2.2⟩
  · exact .inr ⟨_, _, ra.dp, rb.dp, q.1, q.2.1, k.bl q.2.2⟩
  · exact q.elim
def rdDivmod : List PyData → (Rv → Prop) → Prop
  | [.int i, .int j], Q => CDivP i j ∧ Q (.d (.tuple [.int (i / j), .int (i % j)]))
  | _, _ => False
theorem bd_divmod : BD X (.builtin "divmod") rdDivmod := by
  refine ⟨_, call_divmodW, fun H W vs xs Q Qd hw r q k => ?_⟩
  unfold rdDivmod at q
  split at q
  · obtain ⟨v, u, rfl, d, d2⟩ := dqall2 r
    exact ⟨_, _, by rw [d.int, d2.int], q.1, fun p hp => k.tup hw hp (.cons (.int _) (.cons (.int _) .nil)) q.2⟩
  · exact q.elim
def rdGcd : List PyData → (Rv → Prop) → Prop
  | [.int i, .int j], Q => Q (.d (.int ((Nat.gcd i.natAbs j.natAbs : Nat) : Int)))
  | _, _ => False
theorem bd_gcd : BD X (.builtin "math.gcd") rdGcd := by
  refine ⟨_, cr_gcd, fun H W vs xs Q Qd hw r q k => ?_⟩
  unfold rdGcd at q
  split at q
  · obtain ⟨v, u, rfl, d, d2⟩ := dqall2 r
    exact ⟨_, _, by rw [d.int, d2.int], k.int q⟩
  · exact q.elim
/-- f(e, ..), f the module's name of a built-in function -/
theorem pd_callF {x : Str} {p pos : Pos} {e : Expr} {es : List Expr} {t : TDA} {id : String} {r : List PyData → (Rv → Prop) → Prop} (hb : BD X (.builtin id) r) (hg : Gl X x) (hm : X.mg x = some (.builtin id)) (ha : PDA X (e :: es) t) (hdb : (x == ("__debug__" : Str)) = false := by decide)
    (he : starEach (e :: es) X.env = (false, eval e X.env) :: starEach es X.env := by rfl) (hpl : (backTo pos (starEach es X.env)).any (·.1) = false := by rfl) : PD X (.Call (.Name x p) (e :: es) [] pos) (tdB r t) := by
  obtain ⟨rV, h1, h2⟩ := hb
  obtain ⟨t1, p1, q1⟩ := ha
  exact pd_bd h2 q1 (pe_callBfun h1 hg hm p1 hdb he hpl)
/-- range(i, j, c) -/
def rngC (i c : Int) (n : Nat) : List PyData := (List.range n).map fun k => .int (i + (k : Nat) * c)
def tdRng3 (t : TDA) : TDI := fun env Q => t env fun rvs env1 => match resR env1 rvs with
  | some [.int i, .int j, .int c] => ∃ n, RgC i j c n ∧ Q (rngC i c n) env1
  | _ => False
theorem pdi_rng3 {tg a b c : Expr} {ta : TDA} {p pos : Pos} (hg : Gl X "range") (hm : X.mg "range" = none) (ha : PDA X [a, b, c] ta)
    (hs : starEach [a, b, c] X.env = (false, eval a X.env) :: starEach [b, c] X.env := by rfl) (hpl : (backTo pos (starEach [b, c] X.env)).any (·.1) = false := by rfl) : PDI X tg (.Call (.Name "range" p) [a, b, c] [] pos) (tdRng3 ta) := by
  obtain ⟨t1, p1, q1⟩ := ha
  refine ⟨_, pi_range3 hg hm p1 hs hpl, fun σ H W A env R Qd E ht k => ?_⟩
  refine q1 σ H W A env _ _ E ht fun vs H1 W1 env1 rvs E1 S1 R1 h1 => ?_
  split at h1
  · rename_i i j c ej
    cases R1.read E1 ej with
    | cons d1 r =>
      cases r with
      | cons d2 r =>
        cases r with
        | cons d3 r =>
          cases r
          obtain ⟨n, hn, h1⟩ := h1
          refine ⟨i, j, c, n, by rw [d1.int, d2.int, d3.int], hn, k _ H1 W1 env1 _ E1 S1 ?_ h1⟩
          intro H W e hw i'
          unfold rngC
          refine ⟨fun x hx => ?_, fun hl => by
            rw [List.length_map, List.length_range] at hl
            exact hl⟩
          rw [List.getElem?_map] at hx
          obtain ⟨j', hj, rfl⟩ := Option.map_eq_some_iff.mp hx
          obtain ⟨h1, h2⟩ := List.getElem?_eq_some_iff.mp hj
          rw [List.getElem_range] at h2
          subst h2
          rw [List.length_range] at h1
          refine ⟨h1, fun u H' y => ?_⟩
          obtain ⟨rfl, rfl⟩ := y
          exact ⟨.refl, .int _⟩
  · exact h1.elim
end
end DL
namespace DL
open PySem PySem.Spec L2
theorem bt_divmod : bootBuiltins "divmod" = some (.builtin "divmod") := by decide +kernel
end DL

set_option Elab.async false
set_option linter.all false
set_option maxRecDepth 100000
set_option maxHeartbeats 4000000
set_option autoImplicit false
namespace DL
open PySem PySem.Spec L2
/-- a value as a test, by what it is -/
def tdTru (t : TD) : TDT := fun env Q => t env fun rv env1 => match res env1 rv with
  | some .none => Q false env1
  | some (.bool b) => Q b env1
  | some (.int i) => Q (i != 0) env1
  | some (.str z) => z.length ≤ sizeLine ∧ Q ((z.length : Int) != 0) env1
  | some (.list xs) => Q (!xs.isEmpty) env1
  | some (.tuple xs) => Q (!xs.isEmpty) env1
  | _ => False
theorem emp_of {K : PySem.W.Frag} {H : Hp} {vs : List V} {xs : List PyData} (d : DpAll K H vs xs) : (!xs.isEmpty) = !vs.isEmpty := by
  cases d <;> rfl
/-- a op b op' c -/
def tdChain (r r' : PyData → PyData → (Rv → Prop) → Prop) (ta tb tc : TD) : TD := fun env Q => ta env fun x env1 => tb env1 fun y env2 => match res env2 x, res env2 y with
  | some a, some b => r a b fun z => match z with
    | .d (.bool k) => if k = true then tc env2 fun w env3 => match res env3 y, res env3 w with
      | some b', some c => r' b' c fun z => Q z env3
      | _, _ => False
      else Q (.d (.bool false)) env2
    | _ => False
  | _, _ => False
section
variable {X : Cx} {e a b c : Expr} {ta tb tc : TD} {pos : Pos}
theorem pdt_tru (h : PD X e ta) (he : ∀ whole, isTrue e X.env whole = (do let v ← whole; standAt e.pos; holding [v] (truthy v)) := by intro _; rfl) : PDT X e (tdTru ta) := by
  obtain ⟨t1, p1, q1⟩ := h
  refine ⟨_, pt_truth p1 he, fun σ H W A env Q Qd E ht k => ?_⟩
  refine q1 σ H W A env _ _ E ht fun x H1 W1 env1 rv E1 S1 R1 h1 => ?_
  split at h1
  · rename_i ex
    have := (Dq.of_rv E1 R1 ex).non
    subst this
    exact ⟨false, rfl, k _ H1 W1 env1 E1 S1 h1⟩
  · rename_i i ex
    have := (Dq.of_rv E1 R1 ex).bl
    subst this
    exact ⟨i, rfl, k _ H1 W1 env1 E1 S1 h1⟩
  · rename_i i ex
    have := (Dq.of_rv E1 R1 ex).int
    subst this
    exact ⟨_, rfl, k _ H1 W1 env1 E1 S1 h1⟩
  · rename_i z ex
    have := (Dq.of_rv E1 R1 ex).str
    subst this
    exact ⟨_, ⟨h1.1, rfl⟩, k _ H1 W1 env1 E1 S1 h1.2⟩
  · rename_i xs ex
    obtain ⟨p, ws, rfl, s, d⟩ := Dq.of_rv E1 R1 ex
    exact ⟨_, .inl ⟨ws, s, emp_of d⟩, k _ H1 W1 env1 E1 S1 h1⟩
  · rename_i xs ex
    have d := Dq.of_rv E1 R1 ex
    cases (show Dp X.K (HW H1 W1) x (.tuple xs) from d) with
    | tup s d => exact ⟨_, .inr (.inl ⟨_, same_t hw_same s, emp_of d⟩), k _ H1 W1 env1 E1 S1 h1⟩
  · exact h1.elim
end
end DL

set_option Elab.async false
set_option linter.all false
set_option maxRecDepth 100000
set_option maxHeartbeats 4000000
set_option autoImplicit false
namespace DL
open PySem PySem.Spec L2
/-! ### for the laws' own proofs (k18 has its own copies) -/
abbrev KD (Q : Sl → (Nat → Option Sl) → Prop) : DE := { nx := fun env => Q (.d .none) (osOf env), rt := fun r env => Q r (osOf env) }
theorem for_i {ti : TDI} {g : TDG} {tb : TDS} {D : DE} {env : En} (h : ∀ Kx : List PyData → En → Prop, (∀ xs env1, (∃ Pv : Nat → En → Prop, Pv 0 env1 ∧
  (∀ i x env, xs[i]? = some x → Pv i env → g x env fun env2 => tb { D with nx := Pv (i + 1), ct := Pv (i + 1), bk := D.nx } env2) ∧ ∀ env, Pv xs.length env → D.nx env) → Kx xs env1) → ti env Kx) : tdFor ti g tb D env := h _ fun _ _ h => h
theorem draw_i {tp : List PyData} {many : Int} {R : Sl → (Nat → Option Sl) → Prop} (h1 : many < 2 ^ 62) (h2 : TapeOk tp) (h3 : 1 ≤ many) (h : ∀ (r : Int) (tp' : List PyData) (os : Nat → Option Sl), TapeOk tp' → 0 ≤ r → r < many → R (.d (.int r)) (ios (.l tp') os)) : spDraw [.l tp, .d (.int many)] R := by
  rw [draw_if]
  exact ⟨h1, h2, fun r tp' os a b c _ => h r tp' os a b (c h3)⟩
theorem pick_i {tp : List PyData} {menu : PyData} {R : Sl → (Nat → Option Sl) → Prop} (xs : List PyData) (h1 : itemsOf menu = some xs) (h2 : 1 ≤ xs.length) (h3 : xs.length ≤ sizeLine) (h4 : TapeOk tp) (h : ∀ (x : PyData) (tp' : List PyData) (os : Nat → Option Sl), TapeOk tp' → x ∈ xs → R (.d x) (ios (.l tp') os)) : spPick [.l tp, .d menu] R := by
  rw [pick_if]
  exact ⟨xs, h1, h2, h3, h4, h⟩
theorem small_of {n : Nat} (h : n ≤ 1000) : n ≤ sizeLine := Nat.le_trans h (by decide)
theorem cut_lo {α : Type} (f : α → PyData) (ws : List α) (j : Nat) : cutL (ws.map f) none (some (j : Int)) = (ws.take j).map f := by
  rw [cutL_map, sIx_k, HT.sIx_none, List.drop_zero, Nat.sub_zero]
  by_cases h : j ≤ ws.length
  · rw [Nat.min_eq_left h]
  · rw [Nat.min_eq_right (by omega), List.take_length, List.take_of_length_le (by omega)]
theorem cut_hi {α : Type} (f : α → PyData) (ws : List α) (j : Nat) : cutL (ws.map f) (some (j : Int)) none = (ws.drop j).map f := by
  rw [cutL_map, sIx_k, HT.sIx_none]
  by_cases h : j ≤ ws.length
  · rw [Nat.min_eq_left h, List.take_of_length_le (by rw [List.length_drop]; omega)]
  · rw [Nat.min_eq_right (by omega), List.drop_length, List.take_nil, List.drop_eq_nil_of_le (by omega)]
theorem fold_at {α β : Type} (f : β → α → β) (b : β) (l : List α) (i : Nat) (x : α) (h : l[i]? = some x) : (l.take (i + 1)).foldl f b = f ((l.take i).foldl f b) x := by
  rw [List.take_add_one, h, List.foldl_append]; rfl
theorem rng_at {n : Int} {i : Nat} {x : PyData} (h : (rngL 0 n)[i]? = some x) : x = .int i ∧ (i : Int) < n := by
  unfold rngL at h
  rw [List.getElem?_map] at h
  obtain ⟨a, ha, rfl⟩ := Option.map_eq_some_iff.mp h
  obtain ⟨h1, h2⟩ := List.getElem?_eq_some_iff.mp ha
  rw [List.getElem_range] at h2
  subst h2
  rw [List.length_range] at h1
  exact ⟨by rw [show (0 : Int) + (i : Nat) = (i : Nat) by omega], by omega⟩
theorem rng_len (n : Int) : (rngL 0 n).length = n.toNat := by
  unfold rngL
  rw [List.length_map, List.length_range]
  omega
theorem at_map {α : Type} (f : α → PyData) (l : List α) (j : Nat) (h : j < l.length) : atI (l.map f) (j : Int) = some (f l[j]) := atI_nat (by rw [List.getElem?_map, List.getElem?_eq_getElem h]; rfl)
/-- a comprehension with a test, whose turns change no name -/
theorem lc_if {α : Type} {ti : TDI} {g : TDC} {tt : TDT} {te : TD} {vs : List Nat} {env : En} {Q : Rv → En → Prop} (l : List α) (g0 f : α → PyData) (p : α → Bool) (hti : ∀ R : List PyData → En → Prop, R (l.map g0) env → ti env R) (hlen : l.length ≤ sizeLine) (hno : noOwn env vs)
    (hs : ∀ x ∈ l, ∀ (A B : Prop) (C : PyData → Prop), A → (p x = false → B) → (p x = true → C (f x)) → g (g0 x) (wipeE env vs) fun env2 => tt env2 fun b env3 => if b = true then te env3 fun rv env4 => (match rvD rv with
      | some y => A ∧ (mergeE env env4 vs = env ∧ C y)
      | none => False) else (mergeE env env3 vs = env ∧ B)) (hQ : Q (.n (.l ((l.filter p).map f))) env) : tdLc ti g tt te vs env Q := by
  refine hti _ ⟨fun i acc env' => env' = env ∧ acc = ((l.take i).filter p).map f, ⟨rfl, rfl⟩, fun i x acc env' hx hP => ?_, fun acc env' hP => ?_⟩
  · obtain ⟨rfl, rfl⟩ := hP
    rw [List.getElem?_map] at hx
    obtain ⟨y, hy, rfl⟩ := Option.map_eq_some_iff.mp hx
    have hi := (List.getElem?_eq_some_iff.mp hy).1
    refine ⟨hno, hs y (List.mem_of_getElem? hy) _ (((l.take i).filter p).map f = ((l.take (i + 1)).filter p).map f) (fun z => ((l.take i).filter p).map f ++ [z] = ((l.take (i + 1)).filter p).map f) ?_ (fun h => ?_) fun h => ?_⟩
    · rw [List.length_map]
      have := List.length_filter_le p (l.take i)
      rw [List.length_take] at this
      omega
    · rw [List.take_add_one, hy, List.filter_append]
      simp [h]
    · rw [List.take_add_one, hy, List.filter_append, List.map_append]
      simp [h]
  · obtain ⟨rfl, rfl⟩ := hP
    rw [List.length_map, List.take_length]
    exact hQ
theorem log_lt {j : Int} (h : 0 < j) (h2 : j < 2 ^ 62) : j.natAbs.log2 < 62 := (Nat.log2_lt (by omega)).mpr (by omega)
theorem divW {i j : Int} (h : 0 < j) (h2 : j < 2 ^ 62) : CDivW i j := ⟨h, Nat.lt_trans (log_lt h h2) (by decide)⟩
theorem divP {i j : Int} (h : 0 < j) (h2 : j < 2 ^ 62) : CDivP i j := by
  refine ⟨h, ?_⟩
  have l := log_lt h h2
  unfold Builtin.divisionGoesByPylong
  have e : (j == 0) = false := by simp; omega
  simp only [e, Bool.and_eq_false_iff, decide_eq_false_iff_not, Bool.false_eq_true, if_false]
  left
  omega
end DL

set_option Elab.async false
set_option linter.all false
set_option maxRecDepth 100000
set_option maxHeartbeats 4000000
set_option autoImplicit false
namespace DL
open PySem PySem.Spec L2
/-- ahead of a statement: what a name holds alone, if it does, is let go as data -/
def frE (i : Nat) (env : En) : En := match env[i]? with
  | some (some (.l xs)) => env.set i (some (.d (.list xs)))
  | _ => env
def tdFr (i : Nat) (t : TDS) : TDS := fun D env => t D (frE i env)
section
variable {X : Cx} {N : List Nat × List Nat} {st : Stmt} {t : TDS}
theorem psd_fr {i : Nat} (h : PSD X N st t) (hM : i ∉ N.1 := by decide) (hM2 : i ∉ N.2 := by decide) : PSD X N st (tdFr i t) := by
  obtain ⟨t1, p1, q1⟩ := h
  refine ⟨_, p1, fun B D Dd σ H W A env hB R h O => ?_⟩
  unfold tdFr frE at h
  split at h
  · rename_i xs hx
    obtain ⟨W', A', R'⟩ := R.frz hB hM hM2 hx
    exact q1 B D Dd σ H W' A' _ hB R' h O
  · exact q1 B D Dd σ H W A _ hB R h O
end
theorem sz0 : (0 ≤ sizeLine) = True := by simp only [eq_iff_iff, iff_true]; decide
theorem sz1 : (1 ≤ sizeLine) = True := by simp only [eq_iff_iff, iff_true]; decide
theorem sz2 : (2 ≤ sizeLine) = True := by simp only [eq_iff_iff, iff_true]; decide
theorem sz3 : (3 ≤ sizeLine) = True := by simp only [eq_iff_iff, iff_true]; decide
theorem sz4 : (4 ≤ sizeLine) = True := by simp only [eq_iff_iff, iff_true]; decide
theorem sz5 : (5 ≤ sizeLine) = True := by simp only [eq_iff_iff, iff_true]; decide
theorem sz6 : (6 ≤ sizeLine) = True := by simp only [eq_iff_iff, iff_true]; decide
theorem sz7 : (7 ≤ sizeLine) = True := by simp only [eq_iff_iff, iff_true]; decide
theorem sz8 : (8 ≤ sizeLine) = True := by simp only [eq_iff_iff, iff_true]; decide
theorem sz9 : (9 ≤ sizeLine) = True := by simp only [eq_iff_iff, iff_true]; decide
theorem sz10 : (10 ≤ sizeLine) = True := by simp only [eq_iff_iff, iff_true]; decide
theorem sz11 : (11 ≤ sizeLine) = True := by simp only [eq_iff_iff, iff_true]; decide
theorem sz12 : (12 ≤ sizeLine) = True := by simp only [eq_iff_iff, iff_true]; decide
theorem sz13 : (13 ≤ sizeLine) = True := by simp only [eq_iff_iff, iff_true]; decide
theorem sz14 : (14 ≤ sizeLine) = True := by simp only [eq_iff_iff, iff_true]; decide
theorem sz15 : (15 ≤ sizeLine) = True := by simp only [eq_iff_iff, iff_true]; decide
theorem sz16 : (16 ≤ sizeLine) = True := by simp only [eq_iff_iff, iff_true]; decide
end DL

set_option Elab.async false
set_option linter.all false
set_option maxRecDepth 100000
set_option maxHeartbeats 4000000
set_option autoImplicit false
namespace DL
open PySem PySem.Spec L2
theorem pick_ints {tp : List PyData} {menu : PyData} {R : Sl → (Nat → Option Sl) → Prop} (ns : List Int) (P : Int → Prop) (h1 : itemsOf menu = some (ns.map .int)) (h2 : 1 ≤ ns.length ∧ ns.length ≤ 1000) (h4 : TapeOk tp) (hP : ∀ n ∈ ns, P n) (h : ∀ (n : Int) (tp' : List PyData) (os : Nat → Option Sl), TapeOk tp' → P n → R (.d (.int n)) (ios (.l tp') os)) : spPick [.l tp, .d menu] R := by
  refine pick_i _ h1 (by rw [List.length_map]; exact h2.1) (by rw [List.length_map]; exact small_of h2.2) h4 fun x tp' os ht hx => ?_
  obtain ⟨n, hn, rfl⟩ := List.mem_map.mp hx
  exact h n tp' os ht (hP n hn)
theorem rng_map (n : Nat) : rngL 0 (n : Int) = (List.range n).map fun i => PyData.int (i : Nat) := by
  unfold rngL
  rw [show ((n : Int) - 0).toNat = n by omega]
  exact List.map_congr_left fun i _ => by rw [Int.zero_add]
/-- a drawn order of all -/
def spShuf : FD := fun args Q => ∃ (tp : List PyData) (menu : PyData) (xs : List PyData), args = [.l tp, .d menu] ∧ (menu = .list xs ∨ menu = .tuple xs) ∧ xs.length ≤ 1000 ∧ TapeOk tp ∧ ∀ (ys : List PyData) tp' os, ys.Perm xs → TapeOk tp' → os 0 = some (.l tp') → Q (.l ys) os
def rShuf : TDS := (tdSeq (tdSet 2 (tdB rdList (tdCons (tdV 1) tdNil)))
  (tdSeq (tdSet 3 (tdLst tdNil))
  (tdSeq (tdFor (tdRng1 (tdCons (tdB rdLen (tdCons (tdV 1) tdNil)) tdNil)) (gdName 4) (tdDrop (tdM 3 rdAppend (tdCons (tdM 2 rdPopAt (tdCons (tdCall ([0], []) 2 spDraw (tdCons (tdV 0) (tdCons (tdB rdLen (tdCons (tdV 2) tdNil)) tdNil))) tdNil)) tdNil))))
  (tdRet ([0], []) (tdV 3)))))
theorem erase_perm {α : Type} : ∀ {l : List α} {j : Nat} {y : α}, l[j]? = some y → (y :: l.eraseIdx j).Perm l
  | [], _, _, h => by simp at h
  | a :: l, 0, y, h => by simp at h; subst h; exact .refl _
  | a :: l, j + 1, y, h => by
    have := erase_perm (l := l) (j := j) (y := y) (by simpa using h)
    exact (List.Perm.swap a y _).trans (this.cons a)
theorem hShuf (args : List Sl) (Q : Sl → (Nat → Option Sl) → Prop) (hl : args.length = 2) (h : spShuf args Q) : rShuf { nx := fun env => Q (.d .none) (osOf env), rt := fun r env => Q r (osOf env) } (startE 5 args) := by
  obtain ⟨tp, menu, xs, rfl, hm, hx, ht, k⟩ := h
  have go : ∀ (Kc : En → Prop), (∀ tp hs ts x, TapeOk tp → (ts ++ hs).Perm xs → hs = [] → Kc [some (.l tp), some (.d menu), some (.l hs), some (.l ts), x]) →
      ∀ i0, (∃ Pv : Nat → En → Prop, Pv 0 [some (.l tp), some (.d menu), some (.l xs), some (.l []), i0] ∧ (∀ i x env, (rngL 0 xs.length)[i]? = some x → Pv i env → gdName 4 x env fun env2 => tdDrop (tdM 3 rdAppend (tdCons (tdM 2 rdPopAt (tdCons (tdCall ([0], []) 2 spDraw (tdCons (tdV 0) (tdCons (tdB rdLen (tdCons (tdV 2) tdNil)) tdNil))) tdNil)) tdNil)) { nx := Pv (i + 1), ct := Pv (i + 1), bk := Kc, rt := fun r env => Q r (osOf env) } env2) ∧ ∀ env, Pv (rngL 0 xs.length).length env → Kc env) := fun Kc hKc i0 => by
    refine ⟨fun i env => ∃ tp hs ts x, env = [some (.l tp), some (.d menu), some (.l hs), some (.l ts), x] ∧ TapeOk tp ∧ (ts ++ hs).Perm xs ∧ hs.length + i = xs.length, ⟨tp, xs, [], i0, rfl, ht, .refl _, rfl⟩, fun i x env hx2 hP => ?_, fun env hP => ?_⟩
    · obtain ⟨tp, hs, ts, x0, rfl, ht, hp, hlen⟩ := hP
      obtain ⟨rfl, hi⟩ := rng_at hx2
      simp only [outE_i, outE_n, sz0, sz1, sz2, sz3, sz4, sz5, sz6, sz7, sz8, sz9, sz10, sz11, sz12, sz13, sz14, sz15, sz16, ↓tdFr, ↓frE, ↓rdDivmod, ↓rdNotIn, ↓tdTru, ↓startE, ↓tdSeq, ↓tdSet, ↓tdSetD, ↓tdDrop, ↓tdRet, ↓tdIfS, ↓tdNext, ↓tdAsg, ↓tdV, ↓tdC, ↓tdBin, ↓tdB, ↓tdCons, ↓tdNil, ↓tdTup, ↓tdLst, ↓tdTest, ↓tdAnd, ↓tdOr, ↓tdNot, ↓tdIf, ↓tdAndV, ↓tdOrV, ↓tdNotV, ↓tdNeg, ↓tdIsN, ↓tdNotN, ↓tdSl, ↓tdPart, ↓tdNoPart, ↓tdM, ↓tdSetIx, ↓tdAug, ↓tdPut, ↓tdGet2, ↓tdIsi, ↓tdListRg, ↓gdName, ↓gdNil, ↓gdCons, ↓gdTup, ↓tdIt, ↓tdRng1, ↓tdRng2, ↓tdCall, ↓tdNew, ↓tdJoin, ↓gcName, ↓gcNil, ↓gcCons, ↓gcTup, ↓tdYes, ↓res, ↓resR, ↓resAll, ↓rvD, ↓rdLen, ↓rdInt, ↓rdAbs, ↓rdMax2, ↓rdMin2, ↓rdOrd, ↓rdTuple, ↓rdList, ↓rdIx, ↓rdAdd, ↓rdSub, ↓rdMul, ↓rdMod, ↓rdDiv, ↓rdPow, ↓rdCmp, ↓rdEq, ↓rdNe, ↓rdIadd, ↓rdIn, ↓rdSorted, ↓rdSl, ↓isT, ↓rdAppend, ↓itemsOf, ↓rvOf, ↓argsOf, ↓argOf, Nat.reduceAdd, Nat.reduceLT, Nat.reduceSub, Int.reduceLT, Int.reduceLE, Int.reduceAdd, Int.reduceEq, Int.reduceNeg, Nat.reduceLeDiff, Nat.zero_add, Nat.reduceEqDiff, Nat.reduceBEq, ix41, ix42, ix43, ix40, List.length_cons, List.length_nil, List.map_cons, List.map_nil, List.replicate, List.cons_append, List.nil_append, List.getElem?_cons_zero, List.getElem?_cons_succ, List.set_cons_zero, List.set_cons_succ, Option.map_some, at0, at1, at2, at3, ix0, ix1, ix2, ix3, sh_int, sh_bl, sh_non, eqv_int, eqv_bl, eqv_str, decide_eq_true_eq, Bool.not_eq_true, Bool.not_true, Bool.not_false, Bool.false_eq_true, true_and, and_true, if_true, if_false, ite_true, ite_false, List.length_map, List.length_set, Sl.isD, List.mem_singleton, List.mem_cons, List.not_mem_nil, not_true_eq_false, not_false_eq_true, or_false]
      refine draw_i (by omega) ht (by omega) fun r tp' os t1 a b => ?_
      simp only [outE_i, outE_n, sz0, sz1, sz2, sz3, sz4, sz5, sz6, sz7, sz8, sz9, sz10, sz11, sz12, sz13, sz14, sz15, sz16, ↓tdFr, ↓frE, ↓rdDivmod, ↓rdNotIn, ↓tdTru, ↓startE, ↓tdSeq, ↓tdSet, ↓tdSetD, ↓tdDrop, ↓tdRet, ↓tdIfS, ↓tdNext, ↓tdAsg, ↓tdV, ↓tdC, ↓tdBin, ↓tdB, ↓tdCons, ↓tdNil, ↓tdTup, ↓tdLst, ↓tdTest, ↓tdAnd, ↓tdOr, ↓tdNot, ↓tdIf, ↓tdAndV, ↓tdOrV, ↓tdNotV, ↓tdNeg, ↓tdIsN, ↓tdNotN, ↓tdSl, ↓tdPart, ↓tdNoPart, ↓tdM, ↓tdSetIx, ↓tdAug, ↓tdPut, ↓tdGet2, ↓tdIsi, ↓tdListRg, ↓gdName, ↓gdNil, ↓gdCons, ↓gdTup, ↓tdIt, ↓tdRng1, ↓tdRng2, ↓tdCall, ↓tdNew, ↓tdJoin, ↓gcName, ↓gcNil, ↓gcCons, ↓gcTup, ↓tdYes, ↓res, ↓resR, ↓resAll, ↓rvD, ↓rdLen, ↓rdInt, ↓rdAbs, ↓rdMax2, ↓rdMin2, ↓rdOrd, ↓rdTuple, ↓rdList, ↓rdIx, ↓rdAdd, ↓rdSub, ↓rdMul, ↓rdMod, ↓rdDiv, ↓rdPow, ↓rdCmp, ↓rdEq, ↓rdNe, ↓rdIadd, ↓rdIn, ↓rdSorted, ↓rdSl, ↓isT, ↓rdAppend, ↓itemsOf, ↓rvOf, ↓argsOf, ↓argOf, Nat.reduceAdd, Nat.reduceLT, Nat.reduceSub, Int.reduceLT, Int.reduceLE, Int.reduceAdd, Int.reduceEq, Int.reduceNeg, Nat.reduceLeDiff, Nat.zero_add, Nat.reduceEqDiff, Nat.reduceBEq, ix41, ix42, ix43, ix40, List.length_cons, List.length_nil, List.map_cons, List.map_nil, List.replicate, List.cons_append, List.nil_append, List.getElem?_cons_zero, List.getElem?_cons_succ, List.set_cons_zero, List.set_cons_succ, Option.map_some, at0, at1, at2, at3, ix0, ix1, ix2, ix3, sh_int, sh_bl, sh_non, eqv_int, eqv_bl, eqv_str, decide_eq_true_eq, Bool.not_eq_true, Bool.not_true, Bool.not_false, Bool.false_eq_true, true_and, and_true, if_true, if_false, ite_true, ite_false, List.length_map, List.length_set, Sl.isD, List.mem_singleton, List.mem_cons, List.not_mem_nil, not_true_eq_false, not_false_eq_true, or_false]
      refine popAt a b (small_of (by omega)) fun j y ej hj => ?_
      have hl2 := hp.length_eq
      rw [List.length_append] at hl2
      refine ⟨Nat.lt_of_lt_of_le (show ts.length < 1001 by omega) (by decide), tp', hs.eraseIdx j, ts ++ [y], _, rfl, t1, ?_, ?_⟩
      · rw [List.append_assoc]
        exact ((erase_perm hj).append_left ts).trans hp
      · have := (List.getElem?_eq_some_iff.mp hj).1
        rw [List.length_eraseIdx, if_pos this]; omega
    · obtain ⟨tp, hs, ts, x0, rfl, ht, hp, hlen⟩ := hP
      rw [rng_len, Int.toNat_natCast] at hlen
      exact hKc tp hs ts x0 ht hp (List.length_eq_zero_iff.mp (by omega))
  unfold rShuf
  have hs := small_of hx
  rcases hm with rfl | rfl
  · refine seq_i fun Kc hK => ?_
    simp only [outE_i, outE_n, sz0, sz1, sz2, sz3, sz4, sz5, sz6, sz7, sz8, sz9, sz10, sz11, sz12, sz13, sz14, sz15, sz16, ↓tdFr, ↓frE, ↓rdDivmod, ↓rdNotIn, ↓tdTru, ↓startE, ↓tdSeq, ↓tdSet, ↓tdSetD, ↓tdDrop, ↓tdRet, ↓tdIfS, ↓tdNext, ↓tdAsg, ↓tdV, ↓tdC, ↓tdBin, ↓tdB, ↓tdCons, ↓tdNil, ↓tdTup, ↓tdLst, ↓tdTest, ↓tdAnd, ↓tdOr, ↓tdNot, ↓tdIf, ↓tdAndV, ↓tdOrV, ↓tdNotV, ↓tdNeg, ↓tdIsN, ↓tdNotN, ↓tdSl, ↓tdPart, ↓tdNoPart, ↓tdM, ↓tdSetIx, ↓tdAug, ↓tdPut, ↓tdGet2, ↓tdIsi, ↓tdListRg, ↓gdName, ↓gdNil, ↓gdCons, ↓gdTup, ↓tdIt, ↓tdRng1, ↓tdRng2, ↓tdCall, ↓tdNew, ↓tdJoin, ↓gcName, ↓gcNil, ↓gcCons, ↓gcTup, ↓tdYes, ↓res, ↓resR, ↓resAll, ↓rvD, ↓rdLen, ↓rdInt, ↓rdAbs, ↓rdMax2, ↓rdMin2, ↓rdOrd, ↓rdTuple, ↓rdList, ↓rdIx, ↓rdAdd, ↓rdSub, ↓rdMul, ↓rdMod, ↓rdDiv, ↓rdPow, ↓rdCmp, ↓rdEq, ↓rdNe, ↓rdIadd, ↓rdIn, ↓rdSorted, ↓rdSl, ↓isT, ↓rdAppend, ↓itemsOf, ↓rvOf, ↓argsOf, ↓argOf, Nat.reduceAdd, Nat.reduceLT, Nat.reduceSub, Int.reduceLT, Int.reduceLE, Int.reduceAdd, Int.reduceEq, Int.reduceNeg, Nat.reduceLeDiff, Nat.zero_add, Nat.reduceEqDiff, Nat.reduceBEq, ix41, ix42, ix43, ix40, List.length_cons, List.length_nil, List.map_cons, List.map_nil, List.replicate, List.cons_append, List.nil_append, List.getElem?_cons_zero, List.getElem?_cons_succ, List.set_cons_zero, List.set_cons_succ, Option.map_some, at0, at1, at2, at3, ix0, ix1, ix2, ix3, sh_int, sh_bl, sh_non, eqv_int, eqv_bl, eqv_str, decide_eq_true_eq, Bool.not_eq_true, Bool.not_true, Bool.not_false, Bool.false_eq_true, true_and, and_true, if_true, if_false, ite_true, ite_false, List.length_map, List.length_set, Sl.isD, List.mem_singleton, List.mem_cons, List.not_mem_nil, not_true_eq_false, not_false_eq_true, or_false]
    subst hK
    refine seq_i fun Kc hK => ?_
    simp only [outE_i, outE_n, sz0, sz1, sz2, sz3, sz4, sz5, sz6, sz7, sz8, sz9, sz10, sz11, sz12, sz13, sz14, sz15, sz16, ↓tdFr, ↓frE, ↓rdDivmod, ↓rdNotIn, ↓tdTru, ↓startE, ↓tdSeq, ↓tdSet, ↓tdSetD, ↓tdDrop, ↓tdRet, ↓tdIfS, ↓tdNext, ↓tdAsg, ↓tdV, ↓tdC, ↓tdBin, ↓tdB, ↓tdCons, ↓tdNil, ↓tdTup, ↓tdLst, ↓tdTest, ↓tdAnd, ↓tdOr, ↓tdNot, ↓tdIf, ↓tdAndV, ↓tdOrV, ↓tdNotV, ↓tdNeg, ↓tdIsN, ↓tdNotN, ↓tdSl, ↓tdPart, ↓tdNoPart, ↓tdM, ↓tdSetIx, ↓tdAug, ↓tdPut, ↓tdGet2, ↓tdIsi, ↓tdListRg, ↓gdName, ↓gdNil, ↓gdCons, ↓gdTup, ↓tdIt, ↓tdRng1, ↓tdRng2, ↓tdCall, ↓tdNew, ↓tdJoin, ↓gcName, ↓gcNil, ↓gcCons, ↓gcTup, ↓tdYes, ↓res, ↓resR, ↓resAll, ↓rvD, ↓rdLen, ↓rdInt, ↓rdAbs, ↓rdMax2, ↓rdMin2, ↓rdOrd, ↓rdTuple, ↓rdList, ↓rdIx, ↓rdAdd, ↓rdSub, ↓rdMul, ↓rdMod, ↓rdDiv, ↓rdPow, ↓rdCmp, ↓rdEq, ↓rdNe, ↓rdIadd, ↓rdIn, ↓rdSorted, ↓rdSl, ↓isT, ↓rdAppend, ↓itemsOf, ↓rvOf, ↓argsOf, ↓argOf, Nat.reduceAdd, Nat.reduceLT, Nat.reduceSub, Int.reduceLT, Int.reduceLE, Int.reduceAdd, Int.reduceEq, Int.reduceNeg, Nat.reduceLeDiff, Nat.zero_add, Nat.reduceEqDiff, Nat.reduceBEq, ix41, ix42, ix43, ix40, List.length_cons, List.length_nil, List.map_cons, List.map_nil, List.replicate, List.cons_append, List.nil_append, List.getElem?_cons_zero, List.getElem?_cons_succ, List.set_cons_zero, List.set_cons_succ, Option.map_some, at0, at1, at2, at3, ix0, ix1, ix2, ix3, sh_int, sh_bl, sh_non, eqv_int, eqv_bl, eqv_str, decide_eq_true_eq, Bool.not_eq_true, Bool.not_true, Bool.not_false, Bool.false_eq_true, true_and, and_true, if_true, if_false, ite_true, ite_false, List.length_map, List.length_set, Sl.isD, List.mem_singleton, List.mem_cons, List.not_mem_nil, not_true_eq_false, not_false_eq_true, or_false]
    subst hK
    refine seq_i fun Kc hK => ?_
    unfold tdFor
    simp only [outE_i, outE_n, sz0, sz1, sz2, sz3, sz4, sz5, sz6, sz7, sz8, sz9, sz10, sz11, sz12, sz13, sz14, sz15, sz16, ↓tdFr, ↓frE, ↓rdDivmod, ↓rdNotIn, ↓tdTru, ↓startE, ↓tdSeq, ↓tdSet, ↓tdSetD, ↓tdDrop, ↓tdRet, ↓tdIfS, ↓tdNext, ↓tdAsg, ↓tdV, ↓tdC, ↓tdBin, ↓tdB, ↓tdCons, ↓tdNil, ↓tdTup, ↓tdLst, ↓tdTest, ↓tdAnd, ↓tdOr, ↓tdNot, ↓tdIf, ↓tdAndV, ↓tdOrV, ↓tdNotV, ↓tdNeg, ↓tdIsN, ↓tdNotN, ↓tdSl, ↓tdPart, ↓tdNoPart, ↓tdM, ↓tdSetIx, ↓tdAug, ↓tdPut, ↓tdGet2, ↓tdIsi, ↓tdListRg, ↓gdName, ↓gdNil, ↓gdCons, ↓gdTup, ↓tdIt, ↓tdRng1, ↓tdRng2, ↓tdCall, ↓tdNew, ↓tdJoin, ↓gcName, ↓gcNil, ↓gcCons, ↓gcTup, ↓tdYes, ↓res, ↓resR, ↓resAll, ↓rvD, ↓rdLen, ↓rdInt, ↓rdAbs, ↓rdMax2, ↓rdMin2, ↓rdOrd, ↓rdTuple, ↓rdList, ↓rdIx, ↓rdAdd, ↓rdSub, ↓rdMul, ↓rdMod, ↓rdDiv, ↓rdPow, ↓rdCmp, ↓rdEq, ↓rdNe, ↓rdIadd, ↓rdIn, ↓rdSorted, ↓rdSl, ↓isT, ↓rdAppend, ↓itemsOf, ↓rvOf, ↓argsOf, ↓argOf, Nat.reduceAdd, Nat.reduceLT, Nat.reduceSub, Int.reduceLT, Int.reduceLE, Int.reduceAdd, Int.reduceEq, Int.reduceNeg, Nat.reduceLeDiff, Nat.zero_add, Nat.reduceEqDiff, Nat.reduceBEq, ix41, ix42, ix43, ix40, List.length_cons, List.length_nil, List.map_cons, List.map_nil, List.replicate, List.cons_append, List.nil_append, List.getElem?_cons_zero, List.getElem?_cons_succ, List.set_cons_zero, List.set_cons_succ, Option.map_some, at0, at1, at2, at3, ix0, ix1, ix2, ix3, sh_int, sh_bl, sh_non, eqv_int, eqv_bl, eqv_str, decide_eq_true_eq, Bool.not_eq_true, Bool.not_true, Bool.not_false, Bool.false_eq_true, true_and, and_true, if_true, if_false, ite_true, ite_false, List.length_map, List.length_set, Sl.isD, List.mem_singleton, List.mem_cons, List.not_mem_nil, not_true_eq_false, not_false_eq_true, or_false]
    refine ⟨⟨by omega, by omega⟩, go _ (fun tp hs ts x ht hp h0 => ?_) _⟩
    subst hK
    rw [h0, List.append_nil] at hp
    simp only [outE_i, outE_n, sz0, sz1, sz2, sz3, sz4, sz5, sz6, sz7, sz8, sz9, sz10, sz11, sz12, sz13, sz14, sz15, sz16, ↓tdFr, ↓frE, ↓rdDivmod, ↓rdNotIn, ↓tdTru, ↓startE, ↓tdSeq, ↓tdSet, ↓tdSetD, ↓tdDrop, ↓tdRet, ↓tdIfS, ↓tdNext, ↓tdAsg, ↓tdV, ↓tdC, ↓tdBin, ↓tdB, ↓tdCons, ↓tdNil, ↓tdTup, ↓tdLst, ↓tdTest, ↓tdAnd, ↓tdOr, ↓tdNot, ↓tdIf, ↓tdAndV, ↓tdOrV, ↓tdNotV, ↓tdNeg, ↓tdIsN, ↓tdNotN, ↓tdSl, ↓tdPart, ↓tdNoPart, ↓tdM, ↓tdSetIx, ↓tdAug, ↓tdPut, ↓tdGet2, ↓tdIsi, ↓tdListRg, ↓gdName, ↓gdNil, ↓gdCons, ↓gdTup, ↓tdIt, ↓tdRng1, ↓tdRng2, ↓tdCall, ↓tdNew, ↓tdJoin, ↓gcName, ↓gcNil, ↓gcCons, ↓gcTup, ↓tdYes, ↓res, ↓resR, ↓resAll, ↓rvD, ↓rdLen, ↓rdInt, ↓rdAbs, ↓rdMax2, ↓rdMin2, ↓rdOrd, ↓rdTuple, ↓rdList, ↓rdIx, ↓rdAdd, ↓rdSub, ↓rdMul, ↓rdMod, ↓rdDiv, ↓rdPow, ↓rdCmp, ↓rdEq, ↓rdNe, ↓rdIadd, ↓rdIn, ↓rdSorted, ↓rdSl, ↓isT, ↓rdAppend, ↓itemsOf, ↓rvOf, ↓argsOf, ↓argOf, Nat.reduceAdd, Nat.reduceLT, Nat.reduceSub, Int.reduceLT, Int.reduceLE, Int.reduceAdd, Int.reduceEq, Int.reduceNeg, Nat.reduceLeDiff, Nat.zero_add, Nat.reduceEqDiff, Nat.reduceBEq, ix41, ix42, ix43, ix40, List.length_cons, List.length_nil, List.map_cons, List.map_nil, List.replicate, List.cons_append, List.nil_append, List.getElem?_cons_zero, List.getElem?_cons_succ, List.set_cons_zero, List.set_cons_succ, Option.map_some, at0, at1, at2, at3, ix0, ix1, ix2, ix3, sh_int, sh_bl, sh_non, eqv_int, eqv_bl, eqv_str, decide_eq_true_eq, Bool.not_eq_true, Bool.not_true, Bool.not_false, Bool.false_eq_true, true_and, and_true, if_true, if_false, ite_true, ite_false, List.length_map, List.length_set, Sl.isD, List.mem_singleton, List.mem_cons, List.not_mem_nil, not_true_eq_false, not_false_eq_true, or_false]
    exact k _ _ _ hp ht rfl
  · refine seq_i fun Kc hK => ?_
    simp only [outE_i, outE_n, sz0, sz1, sz2, sz3, sz4, sz5, sz6, sz7, sz8, sz9, sz10, sz11, sz12, sz13, sz14, sz15, sz16, ↓tdFr, ↓frE, ↓rdDivmod, ↓rdNotIn, ↓tdTru, ↓startE, ↓tdSeq, ↓tdSet, ↓tdSetD, ↓tdDrop, ↓tdRet, ↓tdIfS, ↓tdNext, ↓tdAsg, ↓tdV, ↓tdC, ↓tdBin, ↓tdB, ↓tdCons, ↓tdNil, ↓tdTup, ↓tdLst, ↓tdTest, ↓tdAnd, ↓tdOr, ↓tdNot, ↓tdIf, ↓tdAndV, ↓tdOrV, ↓tdNotV, ↓tdNeg, ↓tdIsN, ↓tdNotN, ↓tdSl, ↓tdPart, ↓tdNoPart, ↓tdM, ↓tdSetIx, ↓tdAug, ↓tdPut, ↓tdGet2, ↓tdIsi, ↓tdListRg, ↓gdName, ↓gdNil, ↓gdCons, ↓gdTup, ↓tdIt, ↓tdRng1, ↓tdRng2, ↓tdCall, ↓tdNew, ↓tdJoin, ↓gcName, ↓gcNil, ↓gcCons, ↓gcTup, ↓tdYes, ↓res, ↓resR, ↓resAll, ↓rvD, ↓rdLen, ↓rdInt, ↓rdAbs, ↓rdMax2, ↓rdMin2, ↓rdOrd, ↓rdTuple, ↓rdList, ↓rdIx, ↓rdAdd, ↓rdSub, ↓rdMul, ↓rdMod, ↓rdDiv, ↓rdPow, ↓rdCmp, ↓rdEq, ↓rdNe, ↓rdIadd, ↓rdIn, ↓rdSorted, ↓rdSl, ↓isT, ↓rdAppend, ↓itemsOf, ↓rvOf, ↓argsOf, ↓argOf, Nat.reduceAdd, Nat.reduceLT, Nat.reduceSub, Int.reduceLT, Int.reduceLE, Int.reduceAdd, Int.reduceEq, Int.reduceNeg, Nat.reduceLeDiff, Nat.zero_add, Nat.reduceEqDiff, Nat.reduceBEq, ix41, ix42, ix43, ix40, List.length_cons, List.length_nil, List.map_cons, List.map_nil, List.replicate, List.cons_append, List.nil_append, List.getElem?_cons_zero, List.getElem?_cons_succ, List.set_cons_zero, List.set_cons_succ, Option.map_some, at0, at1, at2, at3, ix0, ix1, ix2, ix3, sh_int, sh_bl, sh_non, eqv_int, eqv_bl, eqv_str, decide_eq_true_eq, Bool.not_eq_true, Bool.not_true, Bool.not_false, Bool.false_eq_true, true_and, and_true, if_true, if_false, ite_true, ite_false, List.length_map, List.length_set, Sl.isD, List.mem_singleton, List.mem_cons, List.not_mem_nil, not_true_eq_false, not_false_eq_true, or_false]
    subst hK
    refine seq_i fun Kc hK => ?_
    simp only [outE_i, outE_n, sz0, sz1, sz2, sz3, sz4, sz5, sz6, sz7, sz8, sz9, sz10, sz11, sz12, sz13, sz14, sz15, sz16, ↓tdFr, ↓frE, ↓rdDivmod, ↓rdNotIn, ↓tdTru, ↓startE, ↓tdSeq, ↓tdSet, ↓tdSetD, ↓tdDrop, ↓tdRet, ↓tdIfS, ↓tdNext, ↓tdAsg, ↓tdV, ↓tdC, ↓tdBin, ↓tdB, ↓tdCons, ↓tdNil, ↓tdTup, ↓tdLst, ↓tdTest, ↓tdAnd, ↓tdOr, ↓tdNot, ↓tdIf, ↓tdAndV, ↓tdOrV, ↓tdNotV, ↓tdNeg, ↓tdIsN, ↓tdNotN, ↓tdSl, ↓tdPart, ↓tdNoPart, ↓tdM, ↓tdSetIx, ↓tdAug, ↓tdPut, ↓tdGet2, ↓tdIsi, ↓tdListRg, ↓gdName, ↓gdNil, ↓gdCons, ↓gdTup, ↓tdIt, ↓tdRng1, ↓tdRng2, ↓tdCall, ↓tdNew, ↓tdJoin, ↓gcName, ↓gcNil, ↓gcCons, ↓gcTup, ↓tdYes, ↓res, ↓resR, ↓resAll, ↓rvD, ↓rdLen, ↓rdInt, ↓rdAbs, ↓rdMax2, ↓rdMin2, ↓rdOrd, ↓rdTuple, ↓rdList, ↓rdIx, ↓rdAdd, ↓rdSub, ↓rdMul, ↓rdMod, ↓rdDiv, ↓rdPow, ↓rdCmp, ↓rdEq, ↓rdNe, ↓rdIadd, ↓rdIn, ↓rdSorted, ↓rdSl, ↓isT, ↓rdAppend, ↓itemsOf, ↓rvOf, ↓argsOf, ↓argOf, Nat.reduceAdd, Nat.reduceLT, Nat.reduceSub, Int.reduceLT, Int.reduceLE, Int.reduceAdd, Int.reduceEq, Int.reduceNeg, Nat.reduceLeDiff, Nat.zero_add, Nat.reduceEqDiff, Nat.reduceBEq, ix41, ix42, ix43, ix40, List.length_cons, List.length_nil, List.map_cons, List.map_nil, List.replicate, List.cons_append, List.nil_append, List.getElem?_cons_zero, List.getElem?_cons_succ, List.set_cons_zero, List.set_cons_succ, Option.map_some, at0, at1, at2, at3, ix0, ix1, ix2, ix3, sh_int, sh_bl, sh_non, eqv_int, eqv_bl, eqv_str, decide_eq_true_eq, Bool.not_eq_true, Bool.not_true, Bool.not_false, Bool.false_eq_true, true_and, and_true, if_true, if_false, ite_true, ite_false, List.length_map, List.length_set, Sl.isD, List.mem_singleton, List.mem_cons, List.not_mem_nil, not_true_eq_false, not_false_eq_true, or_false]
    subst hK
    refine seq_i fun Kc hK => ?_
    unfold tdFor
    simp only [outE_i, outE_n, sz0, sz1, sz2, sz3, sz4, sz5, sz6, sz7, sz8, sz9, sz10, sz11, sz12, sz13, sz14, sz15, sz16, ↓tdFr, ↓frE, ↓rdDivmod, ↓rdNotIn, ↓tdTru, ↓startE, ↓tdSeq, ↓tdSet, ↓tdSetD, ↓tdDrop, ↓tdRet, ↓tdIfS, ↓tdNext, ↓tdAsg, ↓tdV, ↓tdC, ↓tdBin, ↓tdB, ↓tdCons, ↓tdNil, ↓tdTup, ↓tdLst, ↓tdTest, ↓tdAnd, ↓tdOr, ↓tdNot, ↓tdIf, ↓tdAndV, ↓tdOrV, ↓tdNotV, ↓tdNeg, ↓tdIsN, ↓tdNotN, ↓tdSl, ↓tdPart, ↓tdNoPart, ↓tdM, ↓tdSetIx, ↓tdAug, ↓tdPut, ↓tdGet2, ↓tdIsi, ↓tdListRg, ↓gdName, ↓gdNil, ↓gdCons, ↓gdTup, ↓tdIt, ↓tdRng1, ↓tdRng2, ↓tdCall, ↓tdNew, ↓tdJoin, ↓gcName, ↓gcNil, ↓gcCons, ↓gcTup, ↓tdYes, ↓res, ↓resR, ↓resAll, ↓rvD, ↓rdLen, ↓rdInt, ↓rdAbs, ↓rdMax2, ↓rdMin2, ↓rdOrd, ↓rdTuple, ↓rdList, ↓rdIx, ↓rdAdd, ↓rdSub, ↓rdMul, ↓rdMod, ↓rdDiv, ↓rdPow, ↓rdCmp, ↓rdEq, ↓rdNe, ↓rdIadd, ↓rdIn, ↓rdSorted, ↓rdSl, ↓isT, ↓rdAppend, ↓itemsOf, ↓rvOf, ↓argsOf, ↓argOf, Nat.reduceAdd, Nat.reduceLT, Nat.reduceSub, Int.reduceLT, Int.reduceLE, Int.reduceAdd, Int.reduceEq, Int.reduceNeg, Nat.reduceLeDiff, Nat.zero_add, Nat.reduceEqDiff, Nat.reduceBEq, ix41, ix42, ix43, ix40, List.length_cons, List.length_nil, List.map_cons, List.map_nil, List.replicate, List.cons_append, List.nil_append, List.getElem?_cons_zero, List.getElem?_cons_succ, List.set_cons_zero, List.set_cons_succ, Option.map_some, at0, at1, at2, at3, ix0, ix1, ix2, ix3, sh_int, sh_bl, sh_non, eqv_int, eqv_bl, eqv_str, decide_eq_true_eq, Bool.not_eq_true, Bool.not_true, Bool.not_false, Bool.false_eq_true, true_and, and_true, if_true, if_false, ite_true, ite_false, List.length_map, List.length_set, Sl.isD, List.mem_singleton, List.mem_cons, List.not_mem_nil, not_true_eq_false, not_false_eq_true, or_false]
    refine ⟨⟨by omega, by omega⟩, go _ (fun tp hs ts x ht hp h0 => ?_) _⟩
    subst hK
    rw [h0, List.append_nil] at hp
    simp only [outE_i, outE_n, sz0, sz1, sz2, sz3, sz4, sz5, sz6, sz7, sz8, sz9, sz10, sz11, sz12, sz13, sz14, sz15, sz16, ↓tdFr, ↓frE, ↓rdDivmod, ↓rdNotIn, ↓tdTru, ↓startE, ↓tdSeq, ↓tdSet, ↓tdSetD, ↓tdDrop, ↓tdRet, ↓tdIfS, ↓tdNext, ↓tdAsg, ↓tdV, ↓tdC, ↓tdBin, ↓tdB, ↓tdCons, ↓tdNil, ↓tdTup, ↓tdLst, ↓tdTest, ↓tdAnd, ↓tdOr, ↓tdNot, ↓tdIf, ↓tdAndV, ↓tdOrV, ↓tdNotV, ↓tdNeg, ↓tdIsN, ↓tdNotN, ↓tdSl, ↓tdPart, ↓tdNoPart, ↓tdM, ↓tdSetIx, ↓tdAug, ↓tdPut, ↓tdGet2, ↓tdIsi, ↓tdListRg, ↓gdName, ↓gdNil, ↓gdCons, ↓gdTup, ↓tdIt, ↓tdRng1, ↓tdRng2, ↓tdCall, ↓tdNew, ↓tdJoin, ↓gcName, ↓gcNil, ↓gcCons, ↓gcTup, ↓tdYes, ↓res, ↓resR, ↓resAll, ↓rvD, ↓rdLen, ↓rdInt, ↓rdAbs, ↓rdMax2, ↓rdMin2, ↓rdOrd, ↓rdTuple, ↓rdList, ↓rdIx, ↓rdAdd, ↓rdSub, ↓rdMul, ↓rdMod, ↓rdDiv, ↓rdPow, ↓rdCmp, ↓rdEq, ↓rdNe, ↓rdIadd, ↓rdIn, ↓rdSorted, ↓rdSl, ↓isT, ↓rdAppend, ↓itemsOf, ↓rvOf, ↓argsOf, ↓argOf, Nat.reduceAdd, Nat.reduceLT, Nat.reduceSub, Int.reduceLT, Int.reduceLE, Int.reduceAdd, Int.reduceEq, Int.reduceNeg, Nat.reduceLeDiff, Nat.zero_add, Nat.reduceEqDiff, Nat.reduceBEq, ix41, ix42, ix43, ix40, List.length_cons, List.length_nil, List.map_cons, List.map_nil, List.replicate, List.cons_append, List.nil_append, List.getElem?_cons_zero, List.getElem?_cons_succ, List.set_cons_zero, List.set_cons_succ, Option.map_some, at0, at1, at2, at3, ix0, ix1, ix2, ix3, sh_int, sh_bl, sh_non, eqv_int, eqv_bl, eqv_str, decide_eq_true_eq, Bool.not_eq_true, Bool.not_true, Bool.not_false, Bool.false_eq_true, true_and, and_true, if_true, if_false, ite_true, ite_false, List.length_map, List.length_set, Sl.isD, List.mem_singleton, List.mem_cons, List.not_mem_nil, not_true_eq_false, not_false_eq_true, or_false]
    exact k _ _ _ hp ht rfl
end DL

set_option Elab.async false
set_option linter.all false
set_option maxRecDepth 100000
set_option maxHeartbeats 4000000
set_option autoImplicit false
namespace DL
open PySem PySem.Spec PyProof.Rows L2
/-! ### promises of defs that are run where no guard stands (so repr may be asked) -/
structure FnG (P : Program) (w : World) (K : PySem.W.Frag) (mg : Str → Option Value) (base : Heap) (k : Nat) (f : Addr) (fd : FuncData) (ps : List Str) (sp : Sp) : Prop where
  len : ∀ vs H Q E, sp vs H Q E → vs.length = ps.length
  run : ∀ (B : Around) (out : List Env) (s : Shared) (H : Hp) (ar : Args) (us : List Value) (vs : List V) (Q : VK) (E : XK), Room k B → B.guards = some [] → Env0 P w K mg base B out s H →
    BindsTo s fd ar (ps.zip us) → Vals vs us → sp vs H Q E → codeAny (model P w) B (.call (.ref f) ar) (CR CX0 out P w H s Q E) s
section
variable {P : Program} {w : World} {K : PySem.W.Frag} {mg : Str → Option Value} {base : Heap}
theorem FnG.mono {j k : Nat} {f : Addr} {fd : FuncData} {ps : List Str} {sp : Sp} (F : FnG P w K mg base j f fd ps sp) (h : j ≤ k) : FnG P w K mg base k f fd ps sp :=
  ⟨F.len, fun B out s H ar us vs Q E hr => F.run B out s H ar us vs Q E (hr.mono h)⟩
/-- a def's promise by its body -/
theorem fng_of {k : Nat} {f : Addr} {name qual : Str} {pa : Arguments} {body : List Stmt} {sc : Scope} {dV kV doc pm cd ct oc : Value} {an od : Option Addr} {osl : Array (Option Value)} {N ps : List Str} {sp : Sp}
    (at_ : K.lookup f = some ⟨oc, od, .func (PySem.W.fnOf name qual pa body sc dV kV doc pm an cd ct), osl⟩) (hcd : PySem.W.codeIn K cd qual = true) (S : FnScope N ps sc)
    (len : ∀ vs H Q E, sp vs H Q E → vs.length = ps.length)
    (run : ∀ (B : Around) (out : List Env) (s : Shared) (H : Hp) (vs : List V) (Q : VK) (E : XK), Room k (B.deeper (envOfC qual sc s.heap.objs.size f cd)) → B.guards = some [] → sp vs H Q E →
      ∃ t, PSs (cxOf CX0 P w K mg base N qual sc f cd B out s H E) body t ∧ t { nx := fun _ H1 => Q .non H1, rt := Q } (L2.start N vs) H) :
    FnG P w K mg base (k + 1) f (PySem.W.fnOf name qual pa body sc dV kV doc pm an cd ct) ps sp := by
  constructor
  · exact len
  intro B out s H ar us vs Q E room gd env bind vals prom
  have ln := len _ _ _ _ prom
  have inK : K.In s.heap := env.mod.kin.keeps fun b o z => (env.bs b o z).1
  have nl : s.heap.NoLimit := env.mod.nolimit.keeps fun b o z => (env.bs b o z).1
  refine codeAny_call_function room.depth (inK _ _ at_) rfl S.co S.gen rfl (PySem.W.codeRec_of inK hcd) (bind _ _ _ _ ?_)
  refine wpAny_newFunctionEnv_cells S.kind (fun y hy => ?_) (fun en heq t x => ?_)
  · obtain ⟨n, v⟩ := y
    cases S.par n (List.of_mem_zip hy).1 with
    | inl q => exact Or.inl q
    | inr q => exact Or.inr ⟨q, PySem.W.cellsFrom_some _ _ _ (Or.inl q)⟩
  · subst heq
    constructor
    · exact nl.keeps x.toInCall.keep
    refine codeAny_func ?_
    obtain ⟨rd, pf, go⟩ := run B out s H vs Q E (room.deeper _) gd prom
    have I := inv_start (E := E) (CX := CX0) S room.hd env ln vals x
    refine wpAny_mono (pf.run [] t (L2.start N vs) H _ I go) (fun fl u hu => ?_) (fun _ _ hu => hu)
    have close : ∀ {σ : L2.St} {H1 : Hp} {v : V} {z : Value}, Inv (cxOf CX0 P w K mg base N qual sc f cd B out s H E) [] σ H1 u → RelV v z → Q v H1 → CE out P w H s Q z u :=
      fun {σ H1 v z} J r q => ⟨v, H1, J.os, J.bare, J.base, J.hok, r, q⟩
    match fl, hu with
    | .ret z, ⟨v, σ, H1, J, r, q⟩ => exact close J r q
    | .next, ⟨σ, H1, J, q⟩ => exact close (v := V.non) (z := Value.none) J rfl q
    | .brk, ⟨_, _, _, q⟩ => exact q.elim
    | .cont, ⟨_, _, _, q⟩ => exact q.elim
theorem fndG {x qual : Str} {st : Stmt} {f : Addr} {fd : FuncData} {Ns ps : List Str} {k : Nat} {N : List Nat × List Nat} {n : Nat} {sp : FD}
    (F : Fun K x qual st f fd) (S : FnScope Ns ps (defScope st)) (hn : ps.length = n)
    (hb : ∀ (cdv : Value) (A : Around) (outer : List Env) (s : Shared) (H : Hp) (E : XK), Room k (A.deeper (PyProof.Rows.envOfC qual (defScope st) s.heap.objs.size f cdv)) → A.guards = some [] →
      ∃ t, PSDs (cxOf CX0 P w K mg base Ns qual (defScope st) f cdv A outer s H E).nox N (defBody st) t ∧ ∀ (args : List Sl) (Q : Sl → (Nat → Option Sl) → Prop), args.length = n → sp args Q → t { nx := fun env => Q (.d .none) (osOf env), rt := fun r env => Q r (osOf env) } (startE Ns.length args)) :
    FnG P w K mg base (k + 1) f fd ps (spD K N n sp) := by
  obtain ⟨oc, od, kV, doc, pm, an, cdv, ct, osl, rfl, lk, hcd⟩ := F.ex
  refine fng_of lk hcd S (fun vs H Q E h => by rw [hn]; exact spD_len h) fun A outer s H vs Q E hr hg h => ?_
  obtain ⟨t, hp, ht⟩ := hb cdv A outer s H E hr hg
  obtain ⟨ts, p1, q1⟩ := body_go (X := (cxOf CX0 P w K mg base Ns qual (defScope st) f cdv A outer s H E).nox) hp ht h
  exact ⟨ts, p1.nox, q1⟩
end
section
variable {X : Cx} {k n : Nat} {f : Addr} {fd : FuncData} {ps : List Str} {N : List Nat × List Nat} {g : FD} {x : Str} {p pos : Pos} {e : Expr} {es : List Expr} {ta : TDA}
theorem pd_callG (F : FnG X.prog X.w X.K X.mg X.base k f fd ps (spD X.K N n g)) (hr : Room k X.A ∧ X.A.guards = some []) (hg : Gl X x) (hm : X.mg x = some (.ref f)) (hk : PySem.W.keepIn X.K (.ref f) = true) (hb : Binds X.K fd ps [])
    (ha : PDA X (e :: es) ta) (hN : N.1.length ≤ 1 := by decide) (hdb : (x == ("__debug__" : Str)) = false := by decide) (he : starEach (e :: es) X.env = (false, eval e X.env) :: starEach es X.env := by rfl) (hpl : (backTo pos (starEach es X.env)).any (·.1) = false := by rfl) :
    PD X (.Call (.Name x p) (e :: es) [] pos) (tdCall N n g ta) := by
  refine pd_callP (E0 := fun _ _ _ => False) (fun t pt => ⟨fun pins s σ H Q I h => ?_⟩) ha hN
  refine wpAny_Call_Name_kw (ld_glob I hg hm ?_ hdb)
  refine PySem.W.callWith_K (h₀ := X.base) I.ok.mod.kin hk (thn (pt.run pos pins s σ H _ I h) ?_) he hpl
  intro us s1 ⟨vs, H1, I1, r, q⟩
  refine ⟨I1.kIn, ?_⟩
  have r2 : Vals (vs ++ []) (us ++ []) := r.append .nil
  have hl : (us ++ []).length = ps.length := by rw [← r2.length]; exact F.len _ _ _ _ q
  refine wpAny_call (codeAny_mono (F.run X.A X.stack s1 H1 ⟨us, []⟩ (us ++ []) (vs ++ []) Q _ hr.1 hr.2 I1.env0 (hb s1 us I1.kIn hl) r2 q) fun z s2 hz => ?_)
  match z, hz with
  | .error er, hz => exact hz.elim
  | .ok (.ret u), hz => exact I1.after hz
  | .ok .next, hz => exact hz.elim
  | .ok .brk, hz => exact hz.elim
  | .ok .cont, hz => exact hz.elim
/-- repr of data -/
def rdRepr : List PyData → (Rv → Prop) → Prop
  | [d], Q => (d.showable = true ∧ d.hasDict = false ∧ d.depth ≤ 64 ∧ d.shown.length ≤ sizeLine) ∧ Q (.d (.str d.shown))
  | _, _ => False
theorem bd_repr (hu : X.A.units + 66 < cLine) (hg : X.A.guards = some []) : BD X (.builtin "repr") rdRepr := by
  refine ⟨fun vs H Q => ∃ v d, vs = [v] ∧ Dp X.K H v d ∧ (d.showable = true ∧ d.hasDict = false ∧ d.depth ≤ 64 ∧ d.shown.length ≤ sizeLine) ∧ Q (.str d.shown) H, fun pins s σ H xs us Q I r h => ?_, fun H W vs xs Q Qd hw r q kk => ?_⟩
  · obtain ⟨v, d, rfl, hd, ⟨h1, h2, h3, h4⟩, q⟩ := h
    obtain ⟨u, rfl, ru⟩ := vals1 r
    have fin : ∀ h' tk tk', (∀ b o, s.heap.get? b = some o → h'.get? b = some o) → EP X pins σ Q (.str d.shown tk) { s with heap := h', toks := tk' } := fun h' tk tk' ke => ⟨.str _, H, I.kept ke, ⟨_, rfl⟩, q⟩
    have keep0 : ∀ b o, s.heap.get? b = some o → s.heap.get? b = some o := fun _ _ e => e
    have big : ∀ a as, u = .ref a → Reads s.heap u d as → wpAny (model X.prog X.w) X.A (call (.builtin "repr") [u]) (EP X pins σ Q) X.xe s := fun a as e rd => by
      subst e
      exact repr_of_reads' rd h1 (PyData.noDict_hsm h2) hg (by omega) keep0 (fun h' tk tk' ke => fin h' tk tk' ke) h4
    obtain ⟨as, rd⟩ := Dp.reads I d v u hd ru
    cases d with
    | none =>
      cases hd; cases ru
      exact PySem.P.repr_of_none (by simpa [PyData.shown] using fin s.heap s.toks (s.toks + 1) keep0)
    | bool b =>
      cases hd; cases ru
      exact PySem.P.repr_of_bool (by simpa [PyData.shown] using fin s.heap s.toks (s.toks + 1) keep0)
    | int i =>
      cases hd
      obtain ⟨t, rfl⟩ := ru
      exact PySem.P.repr_of_int (by simpa [PyData.showable] using h1) (by simpa [PyData.shown] using fin s.heap s.toks (s.toks + 1) keep0)
    | str z =>
      cases hd
      obtain ⟨t, rfl⟩ := ru
      have h4' : (reprText z).length ≤ sizeLine := by simpa [PyData.shown] using h4
      exact PySem.P.repr_of_str (by simpa [PyData.shown] using fin s.heap s.toks (s.toks + 1) keep0) h4'
    | list xs =>
      cases hd with
      | lst a b => exact big _ _ ru rd
    | tuple xs =>
      cases hd with
      | tup a b => exact big _ _ ru rd
    | dict kv => cases hd
  · unfold rdRepr at q
    split at q
    · obtain ⟨v, rfl, d⟩ := dqall1 r
      exact ⟨v, _, rfl, d.dp, q.1, kk.str q.2⟩
    · exact q.elim
theorem bt_repr : bootBuiltins "repr" = some (.builtin "repr") := by decide +kernel
end
/-! ### the law's call, from where no guard stands -/
theorem walk_ofG {l : PySem.W.OpenLaw} {n k : Nat} {q : Program} {loose : List Str} {XP : (Str → Option Value) → Heap → Prop} {YP : World → Heap → Prop} {d : DefRec} {K : Params → PySem.W.Frag} {sp : World → Sp} {x : Str}
    (hn : l.most = some n) (hn2 : n ≤ sizeLine) (hdf : d.params.defaults = []) (hr : Room k callerA) (hY : ∀ (w : World) (h : Heap), YP w h → (K w.params).In h)
    (F : ∀ (w : World) (mg : Str → Option Value) (fa : Addr) (h : Heap), (K w.params).In h → h.Ns mainGlobals mg → mg d.name = some (.ref fa) →
      ∃ fd : FuncData, (∀ (s : Shared) (u : Value), BindsTo s fd ⟨[u], []⟩ [(x, u)]) ∧
        ∀ base : Heap, (K w.params).In base → base.Ns mainGlobals mg → FnG l.prog w (K w.params) mg base k fa fd [x] (sp w))
    (hsp : ∀ (w : World) (H : Hp) (a : Addr) (ns : List Int), ns.length ≤ n → Only H → SqL (K w.params) H a (ns.map V.int) → sp w [.ref a] H (fun v _ => v = .bl true) fun _ _ _ => False) :
    PySem.W.WalkO q loose XP YP l.row.toRowW d [] (fun f vs => PySem.call f vs) := by
  refine Att.attach_call hn hdf ?_
  intro w s₀ s mg mb fa o pm cd doc a vs ns G Y ho hd hcd hmg sat isI hlen gens
  have inK := hY w _ Y
  obtain ⟨fd, bind, prom⟩ := F w mg fa _ inK G.T.g hmg
  -- what is tracked: the script, unless the module holds it
  obtain ⟨H, only, seq, hok, just, free⟩ : ∃ H : Hp, Only H ∧ SqL (K w.params) H a (ns.map V.int) ∧ HOk l.prog w H s.heap ∧ (∀ b, H b ≠ none → b = a) ∧ (H a ≠ none → (K w.params).lookup a = none) := by
    cases lk : (K w.params).lookup a with
    | some u =>
      have same : s.heap.get? a = some u := inK a u lk
      rw [sat] at same
      cases same
      refine ⟨fun _ => none, fun _ => Or.inl rfl, Or.inr ⟨_, vs.toArray, 0, lk, rfl, rfl, rfl, ?_, ?_⟩, (fun b u (z : (none : Option HO) = some u) => (by cases z)), fun b z => absurd rfl z, fun z => absurd rfl z⟩
      · rw [List.size_toArray, isI.length]
        exact Nat.le_trans hlen hn2
      · have := vals_ints isI
        simpa using this
    | none =>
      let sc : HO := .frz { cls := .type "list", data := .seq vs.toArray } (.lst (ns.map V.int))
      refine ⟨fun b => if b = a then some sc else none, fun b => ?_, Or.inl (Or.inr ⟨{ cls := .type "list", data := .seq vs.toArray }, if_pos rfl⟩), fun b u z => ?_, fun b z => ?_, fun _ => rfl⟩
      · by_cases c : b = a
        · exact Or.inr ⟨_, _, if_pos c⟩
        · exact Or.inl (if_neg c)
      · by_cases c : b = a
        · have z2 := (if_pos c).symm.trans z
          cases z2
          subst c
          exact ⟨sat, by rw [List.length_map]; exact Nat.le_trans hlen hn2, vs, 0, vals_ints isI, sat⟩
        · have z2 := (if_neg c).symm.trans z
          cases z2
      · exact Classical.byContradiction fun c => z (if_neg c)
  have lst : ∀ {b : Addr} {o : Obj}, s.heap.get? b = some o → H b ≠ none → o = { cls := .type "list", data := .seq vs.toArray } := fun e z => by
    rw [just _ z, sat] at e
    exact (Option.some.inj e).symm
  have ns_ : ∀ {b : Addr} {m : Str → Option Value}, s.heap.Ns b m → (hidT s.heap H).Ns b m := fun {b m} ⟨o, es, ep, e, d, r⟩ => by
    refine ⟨o, es, ep, hidT_get e (Classical.byContradiction fun z => ?_), d, r⟩
    rw [lst e z] at d
    exact (nomatch (show Data.seq vs.toArray 0 = Data.dict es ep from d))
  have kin : (K w.params).In (hidT s.heap H) := fun b o e => hidT_get (inK b o e) (Classical.byContradiction fun z => by
    have c := just b z
    subst c
    rw [free z] at e
    cases e)
  obtain ⟨mc, lim1, lim2⟩ := G.T.nolimit
  have md : Mod (K w.params) mg (hidT s.heap H) := ⟨kin, ns_ G.T.g, ⟨mb, ns_ G.T.b, G.T.builtins⟩, ⟨mc, ns_ lim1, lim2⟩⟩
  have e0 : Env0 l.prog w (K w.params) mg (hidT s.heap H) callerA [] s H :=
    { frames := rfl, mod := md, bs := fun b o e => of_hidT e, bsz := Nat.le_of_eq (hidT_size _ _), funs := trivial, frf := fun b hb => absurd hb List.not_mem_nil, hok := hok, bare := .of_eq gens }
  refine codeAny_mono ((prom _ kin (ns_ G.T.g)).run callerA [] s H ⟨[.ref a], []⟩ [.ref a] [.ref a] _ _ hr rfl e0 (bind s (.ref a)) (.cons rfl .nil) (hsp w H a ns hlen only seq)) ?_
  intro r s' h
  match r, h with
  | .error e, h => exact h.elim
  | .ok .next, h => exact h.elim
  | .ok .brk, h => exact h.elim
  | .ok .cont, h => exact h.elim
  | .ok (.ret u), ⟨v, H', os, bare, un, hok', rv, qv⟩ =>
    have e1 : v = .bl true := qv
    subst e1
    have e2 : u = Value.bool true := rv
    subst e2
    refine ⟨rfl, OldK.of_keep (fun b o e => ?_), os, bare⟩
    cases z : H b with
    | none => exact un.keep b o e z (fun m => absurd m List.not_mem_nil) List.not_mem_nil
    | some u =>
      rcases only b with y | ⟨ob, xs, y⟩
      · rw [y] at z; cases z
      · have f1 := (hok b _ y).1
        have f2 := (hok' b _ (un.frzs b ob _ y)).1
        rw [e] at f1
        cases f1
        exact f2
end DL

set_option Elab.async false
set_option linter.all false
set_option maxRecDepth 100000
set_option maxHeartbeats 4000000
set_option autoImplicit false
namespace DL
open PySem PySem.Spec L2
theorem u66 {k : Nat} {A : Around} (r : Room k A) : A.units + 66 < cLine := by have := r.un; omega
/-- (a, b, ..) = a list of that length -/
def gdLst (n : Nat) (t : TDGs) : TDG := fun x env Q => match x with
  | .list xs => xs.length = n ∧ t xs env Q
  | _ => False
section
variable {X : Cx} {N : List Nat × List Nat} {es : List Expr} {u : TDGs} {pos : Pos}
theorem pdg_lst {k n : Nat} (hc : X.calm = true) (h : PDGs X N es u) (hn : (assignEach es X.env).length = n := by rfl) (hst : (assignEach es X.env).findIdx? (·.1) = none := by rfl) : PDG X N (.Tuple es k pos) (gdLst n u) := by
  obtain ⟨g, p, q⟩ := h
  refine ⟨_, pg_unl hc p hn hst, fun B v x σ H W A env Q Qd hB R d h k => ?_⟩
  cases x with
  | list xs =>
    cases d with
    | lst s r => exact ⟨_, _, rfl, hw_same.seq s, r.len.trans h.1, q B _ _ σ H W A env Q Qd hB R r h.2 k⟩
  | _ => exact h.elim
end
section
variable {X : Cx}
def rdMax3 : List PyData → (Rv → Prop) → Prop
  | [.int i, .int j, .int k], Q => Q (.d (.int (if k > (if j > i then j else i) then k else (if j > i then j else i))))
  | _, _ => False
def rdMin3 : List PyData → (Rv → Prop) → Prop
  | [.int i, .int j, .int k], Q => Q (.d (.int (if k < (if j < i then j else i) then k else (if j < i then j else i))))
  | _, _ => False
theorem dqall3 {K : PySem.W.Frag} {H : Hp} {W : List Addr} {vs : List V} {x y z : PyData} (h : DqAll K H W vs [x, y, z]) : ∃ v u w, vs = [v, u, w] ∧ Dq K H W v x ∧ Dq K H W u y ∧ Dq K H W w z := by
  cases h with
  | cons a b => cases b with
    | cons b c => cases c with
      | cons c d => cases d; exact ⟨_, _, _, rfl, a, b, c⟩
theorem nu_max2 (i j : Int) : nuMax2 (.int i) (.int j) = some (.int (if j > i then j else i)) := by
  show (some (decide (i < j))).map (fun c => if c = true then V.int j else V.int i) = _
  by_cases h : j > i
  · rw [if_pos h, decide_eq_true (show i < j from h)]; rfl
  · rw [if_neg h, decide_eq_false (show ¬ i < j from h)]; rfl
theorem nu_max3 (i j k : Int) : nuMax3 (.int i) (.int j) (.int k) = some (.int (if k > (if j > i then j else i) then k else (if j > i then j else i))) := by
  unfold nuMax3
  rw [nu_max2, Option.bind_some, nu_max2]
theorem bd_max3 (hc : X.calm = true) : BD X (.builtin "max") rdMax3 := by
  refine ⟨_, call_max3Nu hc, fun H W vs xs Q Qd hw r q k => ?_⟩
  unfold rdMax3 at q
  split at q
  · obtain ⟨v, u, w, rfl, d, d2, d3⟩ := dqall3 r
    rw [d.int, d2.int, d3.int]
    exact ⟨_, _, _, _, rfl, nu_max3 _ _ _, k.int q⟩
  · exact q.elim
/-- max, min of one list of ints -/
def rdMaxL : List PyData → (Rv → Prop) → Prop
  | [.list xs], Q => ∃ ns : List Int, xs = ns.map .int ∧ 0 < ns.length ∧ ∀ m, m ∈ ns → (∀ y, y ∈ ns → y ≤ m) → Q (.d (.int m))
  | _, _ => False
def rdMinL : List PyData → (Rv → Prop) → Prop
  | [.list xs], Q => ∃ ns : List Int, xs = ns.map .int ∧ 0 < ns.length ∧ ∀ m, m ∈ ns → (∀ y, y ∈ ns → m ≤ y) → Q (.d (.int m))
  | _, _ => False
theorem bd_maxL (hc : X.calm = true) : BD X (.builtin "max") rdMaxL := by
  refine ⟨_, cr_max hc, fun H W vs xs Q Qd hw r q k => ?_⟩
  unfold rdMaxL at q
  split at q
  · obtain ⟨v, rfl, d⟩ := dqall1 r
    obtain ⟨ns, rfl, h0, q⟩ := q
    obtain ⟨a, us, rfl, s, da⟩ := d
    rw [da.ints] at s
    exact ⟨a, ns, rfl, s, h0, fun m h1 h2 => k.int (q m h1 h2)⟩
  · exact q.elim
theorem bd_minL (hc : X.calm = true) : BD X (.builtin "min") rdMinL := by
  refine ⟨_, cr_min hc, fun H W vs xs Q Qd hw r q k => ?_⟩
  unfold rdMinL at q
  split at q
  · obtain ⟨v, rfl, d⟩ := dqall1 r
    obtain ⟨ns, rfl, h0, q⟩ := q
    obtain ⟨a, us, rfl, s, da⟩ := d
    rw [da.ints] at s
    exact ⟨a, ns, rfl, s, h0, fun m h1 h2 => k.int (q m h1 h2)⟩
  · exact q.elim
end
/-- == where two texts need no look -/
def rdEqS : PyData → PyData → (Rv → Prop) → Prop
  | .str x, .str y, Q => Q (.d (.bool (decide (x = y))))
  | a, b, Q => rdEq a b Q
theorem od_eqS {X : Cx} (hu : X.A.units + 64 < cLine) : OpD X (compareOp .Eq) rdEqS := by
  refine ⟨_, orR op_eq (op_eqD hu), fun H W x y a b Q Qd hw ra rb q k => ?_⟩
  unfold rdEqS at q
  split at q
  · rename_i a b
    refine .inl ?_
    rw [ra.str, rb.str]
    refine ⟨rfl, ?_⟩
    have e : decide (V.str a = V.str b) = decide (a = b) := by
      by_cases c : a = b
      · subst c; simp
      · rw [decide_eq_false c, decide_eq_false fun z => c (by injection z)]
    rw [e]
    exact k.bl q
  · obtain ⟨h1, h2, q⟩ := q
    exact .inr ⟨_, _, ra.dp, rb.dp, h1, h2, k.bl q⟩
end DL

set_option Elab.async false
set_option linter.all false
set_option maxRecDepth 100000
set_option maxHeartbeats 4000000
set_option autoImplicit false
namespace DL
open PySem PySem.Spec L2
/-! ### texts and data that may be compared, shown -/
def Sg (z : Str) : Prop := z.cps.all (· < 0x110000) = true
theorem sg_app {a b : Str} (h : Sg a) (h2 : Sg b) : Sg (a ++ b) := by
  unfold Sg at *
  show (a.cps ++ b.cps).all _ = true
  rw [Array.all_append, h, h2]; rfl
theorem sg_one {z : Str} (h : Sg z) {c : Nat} (hc : c ∈ z.cps.toList) : Sg ⟨#[c]⟩ := by
  unfold Sg at *
  have := Array.all_eq_true_iff_forall_mem.mp h c (by simpa using hc)
  simpa using this
theorem len_app (a b : Str) : (a ++ b).length = a.length + b.length := by
  show (a.cps ++ b.cps).size = _
  rw [Array.size_append]; rfl
theorem sh_str {z : Str} (h : Sg z) : SeqAt.shaped (.str z) = true := by
  simp only [SeqAt.shaped, PyData.canLay0, PyData.depth, Bool.and_eq_true]
  exact ⟨h, decide_eq_true (Nat.zero_le _)⟩
theorem lay_map {α : Type} (f : α → PyData) : ∀ l : List α, (∀ x ∈ l, (f x).canLay0 = true ∧ (f x).depth = 0) → PyData.canLayAll0 (l.map f) = true ∧ PyData.depthAll (l.map f) = 0
  | [], _ => by simp [PyData.canLayAll0, PyData.depthAll]
  | a :: r, h => by
    obtain ⟨h1, h2⟩ := lay_map f r fun x hx => h x (List.mem_cons_of_mem _ hx)
    obtain ⟨h3, h4⟩ := h a List.mem_cons_self
    simp [PyData.canLayAll0, PyData.depthAll, h1, h2, h3, h4]
theorem sh_map {α : Type} (f : α → PyData) (l : List α) (h : ∀ x ∈ l, (f x).canLay0 = true ∧ (f x).depth = 0) : SeqAt.shaped (.list (l.map f)) = true ∧ SeqAt.shaped (.tuple (l.map f)) = true := by
  obtain ⟨h1, h2⟩ := lay_map f l h
  simp [SeqAt.shaped, PyData.canLay0, PyData.depth, h1, h2]
theorem lay_str {z : Str} (h : Sg z) : (PyData.str z).canLay0 = true ∧ (PyData.str z).depth = 0 := by
  simp only [PyData.canLay0, PyData.depth, and_true]
  exact h
theorem lay_bool (b : Bool) : (PyData.bool b).canLay0 = true ∧ (PyData.bool b).depth = 0 := by simp [PyData.canLay0, PyData.depth]
theorem lay_int (b : Int) : (PyData.int b).canLay0 = true ∧ (PyData.int b).depth = 0 := by simp [PyData.canLay0, PyData.depth]
theorem eqv_map {α : Type} [DecidableEq α] (f : α → PyData) (hf : ∀ a b, PyData.eqv (f a) (f b) = decide (a = b)) : ∀ a b : List α, PyData.eqvAll (a.map f) (b.map f) = decide (a = b)
  | [], [] => by simp [PyData.eqvAll]
  | [], _ :: _ => by simp [PyData.eqvAll]
  | _ :: _, [] => by simp [PyData.eqvAll]
  | x :: a, y :: b => by
    rw [List.map_cons, List.map_cons, PyData.eqvAll, hf, eqv_map f hf a b]
    by_cases h : x = y
    · subst h; simp
    · simp [h]
theorem eqv_strs (a b : List Str) : PyData.eqv (.list (a.map .str)) (.list (b.map .str)) = decide (a = b) ∧ PyData.eqv (.tuple (a.map .str)) (.tuple (b.map .str)) = decide (a = b) := by
  have := eqv_map PyData.str (fun a b => eqv_str) a b
  exact ⟨by rw [PyData.eqv]; exact this, by rw [PyData.eqv]; exact this⟩
theorem any_bools {α : Type} (p : α → Bool) (l : List α) : ((l.map fun x => PyData.bool (p x)).any fun z => PyData.eqv z (.bool true)) = l.any p := by
  induction l with
  | nil => rfl
  | cons a r ih =>
    rw [List.map_cons, List.any_cons, List.any_cons, ih, eqv_bl]
    cases p a <;> rfl
/-! ### what repr may be asked of -/
def RepOk (x : PyData) : Prop := SeqAt.shaped x = true ∧ (x.showable = true ∧ x.hasDict = false ∧ x.depth ≤ 64 ∧ x.shown.length ≤ sizeLine)
structure RepN (dp n : Nat) (x : PyData) : Prop where
  lay : x.canLay0 = true
  dep : x.depth ≤ dp
  wei : x.weight ≤ n
  sho : x.intsShort 13 = true
  log : x.showable = true
structure RepL (dp n : Nat) (xs : List PyData) : Prop where
  lay : PyData.canLayAll0 xs = true
  dep : PyData.depthAll xs ≤ dp
  wei : PyData.weightAll xs ≤ n
  sho : PyData.intsShortAll 13 xs = true
  log : PyData.showableAll xs = true
theorem rep_int {i : Int} (h : -1000000000000 < i ∧ i < 1000000000000) : RepN 0 64 (.int i) := by
  have h1 : i.natAbs < 10 ^ 12 := by omega
  have h2 : i.natAbs.log2 < 40 := by
    by_cases h0 : i.natAbs = 0
    · rw [h0]; decide
    · exact (Nat.log2_lt h0).mpr (Nat.lt_trans h1 (by decide))
  refine ⟨by simp [PyData.canLay0], by simp [PyData.depth], ?_, ?_, ?_⟩
  · rw [PyData.weight]
    split <;> omega
  · rw [PyData.intsShort]
    exact decide_eq_true (PyData.shown_int_le h1)
  · rw [PyData.showable]
    exact decide_eq_true (by omega)
theorem rep_bool {b : Bool} : RepN 0 0 (.bool b) := ⟨by simp [PyData.canLay0], by simp [PyData.depth], by simp [PyData.weight], by simp [PyData.intsShort], by simp [PyData.showable]⟩
theorem rep_none : RepN 0 0 .none := ⟨by simp [PyData.canLay0], by simp [PyData.depth], by simp [PyData.weight], by simp [PyData.intsShort], by simp [PyData.showable]⟩
theorem rep_str {z : Str} {n : Nat} (h : Sg z) (h2 : z.length ≤ n) : RepN 0 n (.str z) := ⟨by rw [PyData.canLay0]; exact h, by simp [PyData.depth], by rw [PyData.weight]; exact h2, by simp [PyData.intsShort], by simp [PyData.showable]⟩
theorem rep_nil {dp : Nat} : RepL dp 0 [] := ⟨by simp [PyData.canLayAll0], by simp [PyData.depthAll], by simp [PyData.weightAll], by simp [PyData.intsShortAll], by simp [PyData.showableAll]⟩
theorem rep_cons {dp m n : Nat} {x : PyData} {xs : List PyData} (h : RepN dp m x) (t : RepL dp n xs) : RepL dp (m + 1 + n) (x :: xs) := by
  refine ⟨by simp [PyData.canLayAll0, h.lay, t.lay], ?_, ?_, by simp [PyData.intsShortAll, h.sho, t.sho], by simp [PyData.showableAll, h.log, t.log]⟩
  · rw [PyData.depthAll]; have := h.dep; have := t.dep; omega
  · rw [PyData.weightAll]; have := h.wei; have := t.wei; omega
theorem rep_tup {dp n : Nat} {xs : List PyData} (t : RepL dp n xs) : RepN (dp + 1) n (.tuple xs) :=
  ⟨by rw [PyData.canLay0]; exact t.lay, by rw [PyData.depth]; have := t.dep; omega, by rw [PyData.weight]; exact t.wei, by rw [PyData.intsShort]; exact t.sho, by rw [PyData.showable]; exact t.log⟩
theorem rep_lst {dp n : Nat} {xs : List PyData} (t : RepL dp n xs) : RepN (dp + 1) n (.list xs) :=
  ⟨by rw [PyData.canLay0]; exact t.lay, by rw [PyData.depth]; have := t.dep; omega, by rw [PyData.weight]; exact t.wei, by rw [PyData.intsShort]; exact t.sho, by rw [PyData.showable]; exact t.log⟩
theorem RepN.mono {dp dp' n n' : Nat} {x : PyData} (h : RepN dp n x) (h1 : dp ≤ dp') (h2 : n ≤ n') : RepN dp' n' x := ⟨h.lay, Nat.le_trans h.dep h1, Nat.le_trans h.wei h2, h.sho, h.log⟩
theorem RepL.mono {dp dp' n n' : Nat} {x : List PyData} (h : RepL dp n x) (h1 : dp ≤ dp') (h2 : n ≤ n') : RepL dp' n' x := ⟨h.lay, Nat.le_trans h.dep h1, Nat.le_trans h.wei h2, h.sho, h.log⟩
theorem rep_map {α : Type} {dp n : Nat} (f : α → PyData) : ∀ l : List α, (∀ x ∈ l, RepN dp n (f x)) → RepL dp (l.length * (n + 1)) (l.map f)
  | [], _ => rep_nil.mono (Nat.le_refl _) (Nat.zero_le _)
  | a :: r, h => (rep_cons (h a List.mem_cons_self) (rep_map f r fun x hx => h x (List.mem_cons_of_mem _ hx))).mono (Nat.le_refl _) (by rw [List.length_cons, Nat.add_mul]; omega)
theorem rep_ok {dp n : Nat} {x : PyData} (h : RepN dp n x) (h1 : dp ≤ 64) (h2 : n ≤ 1048576) : RepOk x := by
  have hd := Nat.le_trans h.dep h1
  have hl : PyData.layable0 x = true := by
    unfold PyData.layable0
    rw [h.lay, decide_eq_true hd, decide_eq_true (show x.weight ≤ 2 ^ 20 from Nat.le_trans h.wei h2)]; rfl
  refine ⟨?_, h.log, PyData.hasDict_of_layable hl, hd, PyData.shown_fits_of_layable0 (B := 13) (by decide) (by decide) hl h.sho⟩
  unfold SeqAt.shaped
  rw [h.lay, decide_eq_true hd]; rfl
/-! ### dicts by their keys -/
theorem valD_cons (a : Key) (b : PyData) (r : List (Key × PyData)) (k : Key) : valD ((a, b) :: r) k = if a = k then some b else valD r k := by
  unfold valD
  rw [List.find?_cons]
  by_cases c : a = k
  · rw [if_pos c, decide_eq_true c]; rfl
  · rw [if_neg c, decide_eq_false c]
theorem valD_repl (k : Key) (x : PyData) (k' : Key) : ∀ kvs : List (Key × PyData), valD (kvs.map fun kv => if kv.1 = k then (kv.1, x) else kv) k' = if k' = k then (if (kvs.any fun kv => decide (kv.1 = k)) = true then some x else none) else valD kvs k'
  | [] => by simp [valD]
  | (a, b) :: r => by
    have ih := valD_repl k x k' r
    rw [List.map_cons, List.any_cons]
    by_cases c : a = k
    · subst c
      rw [if_pos rfl, valD_cons, ih, decide_eq_true rfl, Bool.true_or, if_pos rfl, valD_cons]
      by_cases d : k' = a
      · subst d; rw [if_pos rfl, if_pos rfl]
      · rw [if_neg d, if_neg fun e => d e.symm, if_neg d, if_neg fun e => d e.symm]
    · rw [if_neg c, valD_cons, ih, decide_eq_false c, Bool.false_or, valD_cons]
      by_cases d : k' = k
      · subst d; rw [if_neg c, if_pos rfl, if_pos rfl]
      · rw [if_neg d, if_neg d]
theorem valD_none {kvs : List (Key × PyData)} {k : Key} (h : (kvs.any fun kv => decide (kv.1 = k)) ≠ true) : valD kvs k = none := by
  induction kvs with
  | nil => rfl
  | cons a r ih =>
    obtain ⟨a, b⟩ := a
    rw [List.any_cons] at h
    have h1 : ¬ a = k := fun e => h (by rw [decide_eq_true (show (a, b).fst = k from e)]; rfl)
    rw [valD_cons, if_neg h1, ih fun e => h (by rw [e, Bool.or_true])]
theorem valD_snoc (kvs : List (Key × PyData)) (k : Key) (x : PyData) (k' : Key) : valD (kvs ++ [(k, x)]) k' = match valD kvs k' with
  | some y => some y
  | none => if k = k' then some x else none := by
  induction kvs with
  | nil => rw [List.nil_append, valD_cons]; rfl
  | cons a r ih =>
    obtain ⟨a, b⟩ := a
    rw [List.cons_append, valD_cons, valD_cons, ih]
    by_cases c : a = k'
    · rw [if_pos c, if_pos c]
    · rw [if_neg c, if_neg c]
theorem valD_put (kvs : List (Key × PyData)) (k : Key) (x : PyData) (k' : Key) : valD (putD kvs k x) k' = if k' = k then some x else valD kvs k' := by
  unfold putD
  by_cases c : (kvs.any fun kv => decide (kv.1 = k)) = true
  · rw [if_pos c, valD_repl, if_pos c]
  · rw [if_neg c, valD_snoc]
    by_cases d : k' = k
    · subst d
      simp [valD_none c]
    · rw [if_neg d, if_neg fun e => d e.symm]
      cases valD kvs k' <;> rfl
theorem put_len (kvs : List (Key × PyData)) (k : Key) (x : PyData) : (putD kvs k x).length ≤ kvs.length + 1 := by
  unfold putD
  split
  · rw [List.length_map]; omega
  · rw [List.length_append]; exact Nat.le_refl _
theorem valD_nil (k : Key) : valD [] k = none := rfl
theorem pick_map {α : Type} {tp : List PyData} {menu : PyData} {R : Sl → (Nat → Option Sl) → Prop} (g0 : α → PyData) (ns : List α) (P : α → Prop) (h1 : itemsOf menu = some (ns.map g0)) (h2 : 1 ≤ ns.length ∧ ns.length ≤ 1000) (h4 : TapeOk tp) (hP : ∀ n ∈ ns, P n) (h : ∀ (n : α) (tp' : List PyData) (os : Nat → Option Sl), TapeOk tp' → P n → R (.d (g0 n)) (ios (.l tp') os)) : spPick [.l tp, .d menu] R := by
  refine pick_i _ h1 (by rw [List.length_map]; exact h2.1) (by rw [List.length_map]; exact small_of h2.2) h4 fun x tp' os ht hx => ?_
  obtain ⟨n, hn, rfl⟩ := List.mem_map.mp hx
  exact h n tp' os ht (hP n hn)
theorem strs_of {p : Str → Prop} : ∀ {acc : List PyData}, (∀ y ∈ acc, ∃ z : Str, y = .str z ∧ p z) → ∃ zs : List Str, acc = zs.map .str ∧ ∀ z ∈ zs, p z
  | [], _ => ⟨[], rfl, fun z hz => by cases hz⟩
  | a :: r, h => by
    obtain ⟨n, rfl, hn⟩ := h a List.mem_cons_self
    obtain ⟨ps, rfl, hp⟩ := strs_of (acc := r) fun y hy => h y (List.mem_cons_of_mem _ hy)
    exact ⟨n :: ps, rfl, fun z hz => (List.mem_cons.mp hz).elim (fun e => e ▸ hn) (hp z)⟩
theorem map_of {α : Type} (f : α → PyData) {p : α → Prop} : ∀ {acc : List PyData}, (∀ y ∈ acc, ∃ z : α, y = f z ∧ p z) → ∃ zs : List α, acc = zs.map f ∧ ∀ z ∈ zs, p z
  | [], _ => ⟨[], rfl, fun z hz => by cases hz⟩
  | a :: r, h => by
    obtain ⟨n, rfl, hn⟩ := h a List.mem_cons_self
    obtain ⟨ps, rfl, hp⟩ := map_of f (acc := r) fun y hy => h y (List.mem_cons_of_mem _ hy)
    exact ⟨n :: ps, rfl, fun z hz => (List.mem_cons.mp hz).elim (fun e => e ▸ hn) (hp z)⟩
theorem sg_cut {z : Str} (h : Sg z) (lo hi : Option Int) : Sg (cutS z lo hi) := by
  unfold Sg at *
  unfold cutS
  rw [Array.all_eq_true_iff_forall_mem] at *
  intro c hc
  refine h c ?_
  have := List.mem_of_mem_drop (List.mem_of_mem_take (by simpa using hc))
  simpa using this
theorem rng_mem {n : Int} {x : PyData} (h : x ∈ rngL 0 n) : ∃ k : Nat, x = .int k ∧ (k : Int) < n := by
  obtain ⟨i, hi⟩ := List.mem_iff_getElem?.mp h
  exact ⟨i, rng_at hi⟩
theorem at_neg1 {α : Type} (f : α → PyData) (l : List α) (h : 1 ≤ l.length) : atI (l.map f) (-1) = some (f (l[l.length - 1]'(by omega))) := by
  unfold atI ixN
  rw [List.length_map, if_neg (by omega), if_pos (by omega)]
  show (l.map f)[((l.length : Int) + -1).toNat]? = _
  rw [show ((l.length : Int) + -1).toNat = l.length - 1 by omega, List.getElem?_map, List.getElem?_eq_getElem]
  rfl
/-- a character of a text, by its place -/
theorem at_sig {z : Str} (h : Sg z) {i : Int} (h0 : 0 ≤ i) (h1 : i < z.length) : ∃ c, atI z.cps.toList i = some c ∧ Sg ⟨#[c]⟩ := by
  obtain ⟨j, rfl⟩ : ∃ j : Nat, i = j := ⟨i.toNat, by omega⟩
  have hj : j < z.cps.toList.length := by rw [Array.length_toList]; show j < z.length; omega
  exact ⟨_, atI_nat (List.getElem?_eq_getElem hj), sg_one h (List.getElem_mem hj)⟩
end DL

set_option Elab.async false
set_option linter.all false
set_option maxRecDepth 100000
set_option maxHeartbeats 4000000
set_option autoImplicit false
/-! a range that a name holds, tuples of the module, enumerate over a tuple -/
namespace DL
open PySem PySem.Spec L2 PyProof.Rows
theorem bt_range : bootBuiltins "range" = some (.type "range") := by decide +kernel
/-- range(n), as a value -/
def rdRgV : List PyData → (Rv → Prop) → Prop
  | [.int j], Q => Q (.n (.g 0 j))
  | _, _ => False
section
variable {X : Cx} {e tg : Expr} {te : TD} {pos : Pos}
theorem cr_range1 : CallR X (.type "range") (fun vs H Q => ∃ j, vs = [V.int j] ∧ ∀ p, H p = none → Q (.ref p) (upd H p (.rng 0 j))) := by
  intro pins s σ H vs us Q I r h
  obtain ⟨j, rfl, q⟩ := h
  obtain ⟨u1, rfl, ri⟩ := vals1 r
  obtain ⟨t, rfl⟩ := ri
  refine call_range_1 ⟨.ref s.heap.objs.size, upd H s.heap.objs.size (.rng 0 j), I.laid (t' := s.toks + 1 + 1) (fun b o e => Heap.get?_push_of_some _ e) (Nat.le_refl _) ?_, rfl, q _ (I.hok.fresh (Nat.le_refl _))⟩
  exact ⟨s.toks, t, s.toks + 1, Heap.get?_push_size _ rfl⟩
theorem bd_rgV : BD X (.type "range") rdRgV := by
  refine ⟨_, cr_range1, fun H W vs xs Q Qd hw r q k => ?_⟩
  unfold rdRgV at q
  split at q
  · obtain ⟨v, rfl, d⟩ := dqall1 r
    refine ⟨_, by rw [d.int], fun p hp => ?_⟩
    exact k _ _ (p :: W) (.n (.g 0 _)) (grow_own hp) ⟨p, rfl, hp, List.mem_cons_self, fun z => hw p z hp, upd_same⟩ q
  · exact q.elim
/-- what a range that a name holds yields -/
def tdRgI (i : Nat) : TDI := fun env Q => match env[i]? with
  | some (some (.g lo hi)) => (-(2 ^ 62) ≤ lo ∧ lo < 2 ^ 62 ∧ -(2 ^ 62) ≤ hi ∧ hi < 2 ^ 62) ∧ Q (rngL lo hi) env
  | _ => False
def iRgO (tl : TE) : TI := fun σ H R => tl σ H fun x H1 => ∃ (a : Addr) (lo hi : Int), x = .ref a ∧ H1 a = some (.rng lo hi) ∧ (-(2 ^ 62) ≤ lo ∧ lo < 2 ^ 62 ∧ -(2 ^ 62) ≤ hi ∧ hi < 2 ^ 62) ∧ R (Itr lo (hi - lo).toNat) H1
theorem pi_rgO {tl : TE} (hl : PE X e tl) : PI X tg e (iRgO tl) := by
  refine ⟨fun pins s σ H R I h => ?_⟩
  refine thn (hl.run pins s σ H _ I h) fun v s1 ⟨x, H1, I1, r1, q1⟩ => ?_
  obtain ⟨a, lo, hi, rfl, ha, ⟨h1, h2, h3, h4⟩, q⟩ := q1
  cases r1
  obtain ⟨t, u, v, ho⟩ := I1.hok a _ ha
  refine wpAny_pyIter_range ho (small_one h1 h2 h3 h4) (pi_one (tk := s1.toks) I1 _ (turn_range _ lo (hi - lo).toNat) ?_ q)
  have e1 : lo + ((0 : Nat) : Int) * 1 = lo := by simp
  have e2 : (((hi - lo).toNat : Nat) : Int) - ((0 : Nat) : Int) = Builtin.Range.rangeSize lo hi 1 := by rw [rangeSize_one]; split <;> omega
  show IsRangeIter _ _ (lo + ((0 : Nat) : Int) * 1) ((((hi - lo).toNat : Nat) : Int) - ((0 : Nat) : Int)) 1
  rw [e1, e2]
  exact Heap.get?_push_size _ rfl
theorem pdi_rgI {i : Nat} (he : PE X e (tVar i)) : PDI X tg e (tdRgI i) := by
  refine ⟨_, pi_rgO he, fun σ H W A env R Qd E ht k => ?_⟩
  unfold tdRgI at ht
  split at ht
  · rename_i lo hi hs
    obtain ⟨a, ha, hv, ow⟩ := E.own i _ hs rfl
    exact ⟨_, hv, a, lo, hi, rfl, ow, ht.1, k _ H W env _ E .refl walk_rng ht.2⟩
  · exact ht.elim
/-- a tuple of the module -/
theorem dp_ktup {K : PySem.W.Frag} {H : Hp} {a : Addr} {o : Obj} {its : Array Value} {n : Nat} {vs : List V} {xs : List PyData} (hk : K.lookup a = some o) (hc : o.cls = .type "tuple") (hd : o.data = .seq its n) (hs : its.size ≤ sizeLine) (hv : Vals vs its.toList) (dx : DpAll K H vs xs) : Dp K H (.ref a) (.tuple xs) := .tup (.inr ⟨o, its, n, hk, hc, hd, hs, hv⟩) dx
theorem dp_kpair {K : PySem.W.Frag} {a : Addr} {od : Option Addr} {i j : Int} {t u : Tok} {n : Nat} {sl : Array (Option Value)} (hk : K.lookup a = some ⟨.type "tuple", od, .seq #[.int i t, .int j u] n, sl⟩) (H : Hp) : Dp K H (.ref a) (.tuple [.int i, .int j]) :=
  dp_ktup (vs := [.int i, .int j]) hk rfl rfl (by show 2 ≤ sizeLine; decide) (.cons ⟨t, rfl⟩ (.cons ⟨u, rfl⟩ .nil)) (.cons (.int _) (.cons (.int _) .nil))
theorem pd_gdat {x : Str} {a : Addr} {y : PyData} (hg : Gl X x) (hm : X.mg x = some (.ref a)) (hy : ∀ H, Dp X.K H (.ref a) y) (hd : (x == ("__debug__" : Str)) = false := by decide) : PD X (.Name x pos) (tdC y) :=
  ⟨_, pe_glob (v := .ref a) hg hm rfl hd, fun σ H W A env Q Qd E ht k => k _ H W env (.d y) E .refl (hy _) ht⟩
end
end DL

set_option Elab.async false
set_option linter.all false
set_option maxRecDepth 100000
set_option maxHeartbeats 4000000
set_option autoImplicit false
/-! enumerate over a tuple -/
namespace DL
open PySem PySem.Spec L2 PyProof.Rows
open Sem (wp)
open AutoSeq1 (wpAny_loadPart')
section
variable {prog : Program} {w : World} {A : Around} {E : Value → Shared → Prop} {s : Shared}
theorem nextOf_tuple_item {it l : Addr} {i : Nat} {items : Array Value} {x : Value} {Q : Value → Shared → Prop} (hit : s.heap.IsTupleIter it l i)
    (hl : s.heap.IsTuple l items) (hx : items[i]? = some x)
    (hQ : ∀ h', h'.IsTupleIter it l (i + 1) → Heap.SameBut it s.heap h' → Q x { s with heap := h' }) :
    wpAny (model prog w) A (Builtin.SmallTypes.nextOf (.ref it)) Q E s := by
  obtain ⟨o, ho, hc, hd⟩ := id hit
  obtain ⟨ol, hol, _, nl, hdl⟩ := hl
  unfold Builtin.SmallTypes.nextOf
  refine wpAny_bind (wpAny_callSpecial?_slot (name := Str.ofString "__next__") hit.typeIs F.slot_tuple_iterator_next
    (wpAny_call_entry F.slot_tuple_iterator_next hit.typeIs F.entry_tuple_iterator_next ?_ (F.args_tuple_iterator_next_1 _)))
  show wpAny _ _ (field (.ref it) 0 >>= _) _ _ s
  refine wpAny_bind (wpAny_field ho hd (x := .ref l) rfl ?_)
  show wpAny _ _ (if (Value.ref l == Value.none) = true then _ else _) _ _ s
  rw [if_neg (show ¬ ((Value.ref l == Value.none) = true) from Bool.false_ne_true)]
  show wpAny _ _ (field (.ref it) 1 >>= _) _ _ s
  refine wpAny_bind (wpAny_field ho hd (x := .int i 0) rfl ?_)
  show wpAny _ _ (seqItems? (.ref l) >>= _) _ _ s
  refine wpAny_bind (wpAny_seqItems hol hdl ?_)
  simp only [Int.toNat_natCast, hx]
  refine wpAny_bind (wpAny_setField ho hd (by simp) (wpAny_pure ⟨x, rfl, wpAny_pure (hQ _ ?_ (Heap.SameBut.update ..))⟩))
  exact ⟨_, Heap.get?_update_self _ ho (Obj.isFreed_of_fields (Obj.data_mapFields hd _)), (Obj.cls_mapFields ..).trans hc, by
    rw [Obj.data_mapFields hd]; simp [rawInt]⟩
theorem nextOf_tuple_end {it l : Addr} {i : Nat} {items : Array Value} {Q : Value → Shared → Prop} (hh : A.handled = none)
    (hit : s.heap.IsTupleIter it l i) (hl : s.heap.IsTuple l items) (hx : items[i]? = none)
    (hE : ∀ h' e, Heap.ExtBut it s.heap h' → (∃ o, h'.get? e = some o ∧ o.cls = .type "StopIteration") → E (.ref e) { s with heap := h' }) :
    wpAny (model prog w) A (Builtin.SmallTypes.nextOf (.ref it)) Q E s := by
  obtain ⟨o, ho, hc, hd⟩ := id hit
  obtain ⟨ol, hol, _, nl, hdl⟩ := hl
  unfold Builtin.SmallTypes.nextOf
  refine wpAny_bind (wpAny_callSpecial?_slot (name := Str.ofString "__next__") hit.typeIs F.slot_tuple_iterator_next
    (wpAny_call_entry F.slot_tuple_iterator_next hit.typeIs F.entry_tuple_iterator_next ?_ (F.args_tuple_iterator_next_1 _)))
  show wpAny _ _ (field (.ref it) 0 >>= _) _ _ s
  refine wpAny_bind (wpAny_field ho hd (x := .ref l) rfl ?_)
  show wpAny _ _ (if (Value.ref l == Value.none) = true then _ else _) _ _ s
  rw [if_neg (show ¬ ((Value.ref l == Value.none) = true) from Bool.false_ne_true)]
  show wpAny _ _ (field (.ref it) 1 >>= _) _ _ s
  refine wpAny_bind (wpAny_field ho hd (x := .int i 0) rfl ?_)
  show wpAny _ _ (seqItems? (.ref l) >>= _) _ _ s
  refine wpAny_bind (wpAny_seqItems hol hdl ?_)
  simp only [Int.toNat_natCast, hx]
  refine wpAny_bind (wpAny_rule (wpAny_bind (wpAny_setField ho hd (by simp) ?_)))
  show wpAny _ _ (newExc (.type "StopIteration") [] >>= _) _ _ _
  refine wpAny_bind ?_
  simp only [newExc, newTuple]
  refine wpAny_bind (wpAny_newObj_type ?_ (by size_fits))
  refine wpAny_bind (m := firstArgMember _ _) (wpAny_of_eq (a := Value.none) (by first | rfl | (simp only [firstArgMember]; rfl)) ?_)
  refine wpAny_newObj_type ?_ (by size_fits)
  simp only [raiseNew]
  refine wpAny_bind (wpAny_handled ?_)
  first | rw [show A.in1.handled = none from hh] | rw [hh]
  refine wpAny_bind (wpAny_pure (wpAny_throw ?_))
  exact hE _ _ (((Heap.SameBut.update ..).extBut.push _).push _) ⟨_, Heap.get?_push_size _ rfl, rfl⟩
theorem IsTuple_extBut {h h' : Heap} {a b : Addr} {items : Array Value} (x : h.IsTuple a items) (hs : Heap.ExtBut b h h') (hab : a ≠ b) : h'.IsTuple a items :=
  let ⟨o, ho, r⟩ := x; ⟨o, hs a o hab ho, r⟩
end
theorem draws_tuple {prog : Program} {w : World} {A : Around} (hh : A.handled = none) (it l : Addr) (hne : l ≠ it) (items : Array Value) :
    Draws prog w A it [it, l] items.size (fun i v => items[i]? = some v) (fun i h => h.IsTupleIter it l i ∧ h.IsTuple l items) where
  live := fun _ _ st => let ⟨o, ho, _⟩ := st.1; ⟨o, ho⟩
  frame := fun _ _ _ st hk => ⟨let ⟨o, ho, r⟩ := st.1; ⟨o, hk it (by simp) o ho, r⟩, let ⟨o, ho, r⟩ := st.2; ⟨o, hk l (by simp) o ho, r⟩⟩
  item := fun i s Q E hi st hQ => by
    refine nextOf_tuple_item st.1 st.2 (x := items[i]) (by simp [hi]) fun h' hit' hs' => ?_
    exact hQ _ h' s.toks (by simp [hi]) ⟨hit', IsTuple_extBut st.2 hs'.extBut hne⟩ hs'
  done := fun s Q E st hE => nextOf_tuple_end hh st.1 st.2 (by simp) hE
theorem meets_enumerate_newT (l : Addr) (items : Array Value) (n : Nat) (dct : Option Addr) (sl : Array (Option Value)) :
    Meets (Builtin.«enumerate.__new__» ⟨[.type "enumerate", .ref l], []⟩) (fun _ R s => s.heap.get? l = some { cls := .type "tuple", dict := dct, data := .seq items n, slots := sl } ∧
      R (.ok (.ret (.ref (s.heap.push { cls := .type "tuple_iterator", data := .fields #[.ref l, .int 0 0] }).objs.size)))
        { s with heap := (s.heap.push { cls := .type "tuple_iterator", data := .fields #[.ref l, .int 0 0] }).push { cls := .type "enumerate", data := .fields #[.none, .bool false, .ref s.heap.objs.size, rawInt 0, .none, .none] } }) :=
  .of_wp fun prog w A R s h => by
    obtain ⟨hp, g, d, tk, os⟩ := s; obtain ⟨hl, h⟩ := h
    have hsub := sub_enumerate
    have hL : Heap.IsTuple (Shared.heap ⟨hp, g, d, tk, os⟩) l items := ⟨_, hl, rfl, n, rfl⟩
    wp_walk using wpAny_loadPart' hl
    refine wpAny_stack_any fun st => wpAny_pure ?_
    split
    · rename_i c _ _ _ _ _
      cases (c == Value.type "enumerate")
      · wp_walk using wpAny_loadPart' hl, wpAny_pyIter_tuple hL
        exact ⟨_, rfl, h⟩
      · wp_walk using wpAny_loadPart' hl, wpAny_pyIter_tuple hL
        exact ⟨_, rfl, h⟩
    · wp_walk using wpAny_loadPart' hl, wpAny_pyIter_tuple hL
      exact ⟨_, rfl, h⟩
theorem call_enumerate_tuple {prog : Program} {w : World} {A : Around} {E : Value → Shared → Prop} {s : Shared} {l : Addr} {items : Array Value} {Q : Value → Shared → Prop} (hL : s.heap.IsTuple l items)
    (h : ∀ h', IsEnum h' (s.heap.objs.size + 1) s.heap.objs.size 0 .none → h'.IsTupleIter s.heap.objs.size l 0 → h'.objs.size = s.heap.objs.size + 2 →
      (∀ b o, s.heap.get? b = some o → h'.get? b = some o) → Q (.ref (s.heap.objs.size + 1)) { s with heap := h' }) :
    wpAny (model prog w) A (call (.type "enumerate") [.ref l]) Q E s := by
  obtain ⟨⟨c, dct, dt, sl⟩, hl, hc, n, hd⟩ := hL
  replace hc : c = .type "tuple" := hc
  replace hd : dt = .seq items n := hd
  subst hc hd
  refine callType_new F.called_enumerate (by decide) (F.typeCall_enumerate_1 _) (F.newCall_enumerate_1 _) (fun obj => F.args_object_init_2 obj _) F.entry_enumerate_new
    (meets_enumerate_newT l items n dct sl) ⟨hl, ?_⟩
  have hz : (s.heap.push { cls := .type "tuple_iterator", data := .fields #[.ref l, .int 0 0] }).objs.size = s.heap.objs.size + 1 := Heap.size_push ..
  show _ ∧ _
  rw [hz]
  have he : IsEnum ((s.heap.push { cls := .type "tuple_iterator", data := .fields #[.ref l, .int 0 0] }).push
      { cls := .type "enumerate", data := .fields #[.none, .bool false, .ref s.heap.objs.size, rawInt 0, .none, .none] }) (s.heap.objs.size + 1) s.heap.objs.size 0 .none := by
    have := Heap.get?_push_size (s.heap.push { cls := .type "tuple_iterator", data := .fields #[.ref l, .int 0 0] })
      (o := { cls := .type "enumerate", data := .fields #[.none, .bool false, .ref s.heap.objs.size, rawInt 0, .none, .none] }) rfl
    rw [hz] at this; exact this
  refine ⟨⟨_, he, rfl⟩, h _ he ⟨_, Heap.get?_push_of_some _ (Heap.get?_push_size _ rfl), rfl, rfl⟩ (by rw [Heap.size_push, hz]) fun b o x => Heap.get?_push_of_some _ (Heap.get?_push_of_some _ x)⟩
/-- the tuple at a, each item in a new pair -/
def IteT (K : PySem.W.Frag) (a : Addr) : It :=
  ⟨fun i H => ∃ (xs : List V) (x : V), SqT K H a xs ∧ xs[i]? = some x, fun i H v H' => ∃ T x, v = .ref T ∧ H T = none ∧ H' = upd H T (.tup [.int (i : Nat), x]) ∧ ∀ xs, SqT K H a xs → xs[i]? = some x, fun i H => ∃ xs : List V, SqT K H a xs ∧ xs.length ≤ i⟩
theorem turn_enumT {P : Program} {w : World} {K : PySem.W.Frag} {elts : List Expr} {kk : Nat} {tpos : Pos} (a e it : Addr) (hai : a ≠ it) (hae : a ≠ e) :
    Turn P w K (.Tuple elts kk tpos) (IteT K a) [e, it] e (fun i h => (∃ old, IsEnum h e it ((i : Nat) : Int) old) ∧ h.IsTupleIter it a i ∧ e ≠ it) where
  mem := by simp
  obj := fun i h st b hb => by
    obtain ⟨⟨old, he⟩, ⟨o, ho, hc, hd⟩, _⟩ := st
    have e' : b = e ∨ b = it := by simpa using hb
    rcases e' with z | z
    · rw [z]; exact ⟨_, he, fun v q => nomatch q⟩
    · rw [z]; exact ⟨o, ho, fun v q => by rw [hd] at q; cases q⟩
  keep := fun i h h' st k => let ⟨⟨old, he⟩, ⟨o, ho, r⟩, hne⟩ := st; ⟨⟨old, k e (by simp) _ he⟩, ⟨o, k it (by simp) o ho, r⟩, hne⟩
  item := by
    intro X hP hw hK hc i pins s σ H E I hf st hg
    subst hP hw hK
    obtain ⟨⟨old, he⟩, hit, hne⟩ := st
    obtain ⟨xs, x, hq, hx⟩ := hg
    obtain ⟨its, rv, p, hz⟩ := I.tuple hq
    obtain ⟨u, hu, ru⟩ := rv.get hx
    have hel : e < s.heap.objs.size := Heap.lt_size he
    have hil : it < s.heap.objs.size := by obtain ⟨_, q, _⟩ := hit; exact Heap.lt_size q
    have hlt : i < its.toArray.size := by
      have := (List.getElem?_eq_some_iff.mp hu).1
      simpa using this
    refine wpAny_pyNext_enum_itemD (draws_tuple (A := X.A.in1) (show X.A.in1.handled = none from I.ok.hd hc) it a hai its.toArray) he ⟨hit, show s.heap.IsTuple a its.toArray from p⟩ hlt hne (by simp [hne, Ne.symm hae]) fun u' h' tk hP ho hit' hT hsz hk => ?_
    have hu' : u' = u := by
      have h1 : its[i]? = some u' := by simpa using hP
      rw [hu] at h1; exact (Option.some.inj h1).symm
    subst hu'
    refine ⟨_, rfl, wpAny_letOwnedTupleGo_enum (s := { s with heap := h', toks := tk + 1 }) ho fun h'' he' sb => ?_⟩
    have hT2 : h''.get? s.heap.objs.size = some { cls := .type "tuple", data := .seq #[.int i tk, u'] } := (sb.2 _ (Nat.ne_of_gt hel)).trans hT
    have new : ObjOk X.prog X.w (upd H s.heap.objs.size (.tup [.int (i : Nat), x])) h'' s.heap.objs.size (.tup [.int (i : Nat), x]) :=
      ⟨by show 2 ≤ sizeLine; decide, [.int i tk, u'], .cons ⟨_, rfl⟩ (.cons ru .nil), ⟨_, hT2, rfl, _, rfl⟩⟩
    have I1 : Inv X pins σ (upd H s.heap.objs.size (.tup [.int (i : Nat), x])) { s with heap := h'', toks := tk + 1 } :=
      I.turnedNew (ch := [e, it]) (fun b ob hb q => (sb.2 b (fun z => hb (by simp [z]))).trans (hk b ob (fun z => hb (by simp [z])) (fun z => hb (by simp [z])) q)) hf (Nat.le_refl _) new
    refine ⟨.ref s.heap.objs.size, _, I1, rfl, ⟨_, x, rfl, I.hok.fresh (Nat.le_refl _), rfl, fun ys hy => by rw [I.tuple_inj hy hq]; exact hx⟩, ⟨⟨u', ?_⟩, ?_, hne⟩, fun b hb => ?_⟩
    · have e1 : ((i + 1 : Nat) : Int) = (i : Int) + 1 := by omega
      rw [e1]; exact he'
    · obtain ⟨o, ho2, r⟩ := hit'.1
      exact ⟨o, (sb.2 it (Ne.symm hne)).trans ho2, r⟩
    · have hb' : b < s.heap.objs.size := by
        have e' : b = e ∨ b = it := by simpa using hb
        rcases e' with z | z
        · rw [z]; exact hel
        · rw [z]; exact hil
      rw [upd_ne (Nat.ne_of_lt hb')]
      exact (hf b hb).1
  done := by
    intro X hP hw hK hc i pins s σ H E I hf st hg
    subst hP hw hK
    obtain ⟨⟨old, he⟩, hit, hne⟩ := st
    obtain ⟨xs, hq, hx⟩ := hg
    obtain ⟨its, rv, p, hz⟩ := I.tuple hq
    obtain ⟨f0, f1, f2, f3, f4, f5⟩ := hf it (by simp)
    have hl := rv.length
    have hT : s.TypeIs (.ref e) "enumerate" := ⟨_, he, rfl⟩
    unfold pyNext
    refine wpAny_bind (wpAny_attempt (wpAny_callSpecial?_slot (name := Str.ofString "__next__") hT F.slot_enumerate_next
      (wpAny_call_entry F.slot_enumerate_next hT F.entry_enumerate_next ?_ (F.args_enumerate_next_1 _))))
    show wpAny _ _ (field (.ref e) 2 >>= _) _ _ _
    refine wpAny_bind (wpAny_field he rfl (x := .ref it) rfl ?_)
    refine wpAny_bind (nextOf_tuple_end (show X.A.in1.handled = none from I.ok.hd hc) hit (show s.heap.IsTuple a its.toArray from p) (by simp; omega) fun h' x he' hx' => ?_)
    obtain ⟨o, ho, hc⟩ := hx'
    refine wpAny_bind (wpAny_isInstance (T := "StopIteration") (b := true) ⟨o, ho, hc⟩ isSubtype_stop ?_)
    exact wpAny_pure ⟨rfl, I.turned (t' := s.toks) (fun b o hb q => he' b o hb q) f0 f1 f3 f4 f5⟩
  self := fun A i s Q E st h => let ⟨⟨_, he⟩, _⟩ := st; wpAny_pyIter_enum he h
def iEnumT (K : PySem.W.Frag) (ta : TA) : TI := fun σ H R => ta σ H fun vs H1 => ∃ a xs, vs = [.ref a] ∧ SqT K H1 a xs ∧ R (IteT K a) H1
theorem pi_enumT {X : Cx} {e : Expr} {ta : TA} {p pos tpos : Pos} {elts : List Expr} {kk : Nat} (hg : Gl X "enumerate") (hm : X.mg "enumerate" = none) (ha : PA X [e] ta) (hs : starEach [e] X.env = [(false, eval e X.env)] := by rfl) :
    PI X (.Tuple elts kk tpos) (.Call (.Name "enumerate" p) [e] [] pos) (iEnumT X.K ta) := by
  refine ⟨fun pins s σ H R I h => ?_⟩
  refine Call_ (ld_blt I hg hm boot_enumerate (PyProof.Rows.callWith_type1 (thn (ha.run pos pins s σ H _ I h) fun us s1 ⟨vs, H1, I1, r1, q1⟩ => ?_) hs rfl))
  obtain ⟨a, xs, ex, hq, q⟩ := q1
  subst ex
  cases r1 with
  | cons r rr =>
    cases rr
    cases r
    obtain ⟨its, rv, p', hz⟩ := I1.tuple hq
    have hal : a < s1.heap.objs.size := by obtain ⟨_, z, _⟩ := p'; exact Heap.lt_size z
    refine call_enumerate_tuple (show s1.heap.IsTuple a its.toArray from p') fun h' he hit hsz hk => wpAny_pyIter_enum he ?_
    have I2 : Inv X pins σ H1 { s1 with heap := h' } := I1.kept (t' := s1.toks) hk
    refine ⟨s1.heap.objs.size + 1, [s1.heap.objs.size + 1, s1.heap.objs.size], _, _, H1, rfl, I2, turn_enumT a (s1.heap.objs.size + 1) s1.heap.objs.size (Nat.ne_of_lt hal) (Nat.ne_of_lt (Nat.lt_succ_of_lt hal)), ⟨⟨.none, he⟩, hit, Nat.succ_ne_self _⟩, fun b hb => ?_, q⟩
    have e' : b = s1.heap.objs.size + 1 ∨ b = s1.heap.objs.size := by simpa using hb
    have hle : s1.heap.objs.size ≤ b := by
      rcases e' with z | z
      · rw [z]; exact Nat.le_add_right _ _
      · rw [z]; exact Nat.le_refl _
    exact I1.fpOk hle (I1.hok.fresh hle)
/-- enumerate over a list or a tuple -/
def iEnumA (K : PySem.W.Frag) (ta : TA) : TI := fun σ H R => ta σ H fun vs H1 => ∃ a, vs = [.ref a] ∧ ((∃ xs, SqL K H1 a xs ∧ R (Ite K a) H1) ∨ ∃ xs, SqT K H1 a xs ∧ R (IteT K a) H1)
theorem pi_enumA {X : Cx} {e : Expr} {ta : TA} {p pos tpos : Pos} {elts : List Expr} {kk : Nat} (hg : Gl X "enumerate") (hm : X.mg "enumerate" = none) (ha : PA X [e] ta) (hs : starEach [e] X.env = [(false, eval e X.env)] := by rfl) :
    PI X (.Tuple elts kk tpos) (.Call (.Name "enumerate" p) [e] [] pos) (iEnumA X.K ta) := by
  refine ⟨fun pins s σ H R I h => ?_⟩
  refine Call_ (ld_blt I hg hm boot_enumerate (PyProof.Rows.callWith_type1 (thn (ha.run pos pins s σ H _ I h) fun us s1 ⟨vs, H1, I1, r1, q1⟩ => ?_) hs rfl))
  obtain ⟨a, ex, q⟩ := q1
  subst ex
  cases r1 with
  | cons r rr =>
    cases rr
    cases r
    have fp : ∀ b ∈ [s1.heap.objs.size + 1, s1.heap.objs.size], FpOk X pins H1 b := fun b hb => by
      have e' : b = s1.heap.objs.size + 1 ∨ b = s1.heap.objs.size := by simpa using hb
      have hle : s1.heap.objs.size ≤ b := by
        rcases e' with z | z
        · rw [z]; exact Nat.le_add_right _ _
        · rw [z]; exact Nat.le_refl _
      exact I1.fpOk hle (I1.hok.fresh hle)
    rcases q with ⟨xs, hq, q⟩ | ⟨xs, hq, q⟩
    · obtain ⟨its, rv, p', hz⟩ := I1.list hq
      refine call_enumerate_list p'.isList fun h' he hit hsz hk => wpAny_pyIter_enum he ?_
      have I2 : Inv X pins σ H1 { s1 with heap := h' } := I1.kept (t' := s1.toks) hk
      exact ⟨s1.heap.objs.size + 1, [s1.heap.objs.size + 1, s1.heap.objs.size], _, _, H1, rfl, I2, turn_enum a (s1.heap.objs.size + 1) s1.heap.objs.size, ⟨⟨.none, he⟩, hit, Nat.succ_ne_self _⟩, fp, q⟩
    · obtain ⟨its, rv, p', hz⟩ := I1.tuple hq
      have hal : a < s1.heap.objs.size := by obtain ⟨_, z, _⟩ := p'; exact Heap.lt_size z
      refine call_enumerate_tuple (show s1.heap.IsTuple a its.toArray from p') fun h' he hit hsz hk => wpAny_pyIter_enum he ?_
      have I2 : Inv X pins σ H1 { s1 with heap := h' } := I1.kept (t' := s1.toks) hk
      exact ⟨s1.heap.objs.size + 1, [s1.heap.objs.size + 1, s1.heap.objs.size], _, _, H1, rfl, I2, turn_enumT a (s1.heap.objs.size + 1) s1.heap.objs.size (Nat.ne_of_lt hal) (Nat.ne_of_lt (Nat.lt_succ_of_lt hal)), ⟨⟨.none, he⟩, hit, Nat.succ_ne_self _⟩, fp, q⟩
theorem walk_enumT {K : PySem.W.Frag} {G : Hp} {a : Addr} {vs : List V} {xs : List PyData} (s : SqT K G a vs) (d : DpAll K G vs xs) : Walk K (IteT K a) G (enumL xs) := by
  intro H W e hw i
  have s' : SqT K H a vs := same_t hw_same (same_t e s)
  have hl : (enumL xs).length = xs.length := by unfold enumL; rw [List.length_zipWith, List.length_range, Nat.min_self]
  refine ⟨fun x hx => ?_, fun hle => ⟨vs, s', by rw [d.len]; omega⟩⟩
  have hi : i < xs.length := by rw [← hl]; exact (List.getElem?_eq_some_iff.mp hx).1
  have hx2 : x = .tuple [.int (i : Nat), xs[i]] := by
    unfold enumL at hx
    rw [List.getElem?_zipWith, List.getElem?_eq_getElem hi, List.getElem?_range hi] at hx
    exact (Option.some.inj hx).symm
  obtain ⟨v, hv, dv⟩ := d.get (List.getElem?_eq_getElem hi)
  refine ⟨⟨vs, v, s', hv⟩, fun u H' y => ?_⟩
  obtain ⟨T, x1, rfl, hT, rfl, y⟩ := y
  have := y vs s'
  rw [hv] at this; cases this
  have g : Grow H W (upd H T (.tup [.int (i : Nat), v])) W := grow_new hT
  refine ⟨g, ?_⟩
  rw [hx2]
  refine .tup (.inl (.inl (hw_of (fun z => hw T z hT) upd_same))) ?_
  exact dpa_mono ((g.stp (A := [])).same fun _ z => absurd z (by simp)) _ (.cons (.int _) (.cons (dp_mono e _ dv) .nil))
def tdEnum2 (t : TDA) : TDI := fun env Q => t env fun rvs env1 => match resAll rvs with
  | some [.list xs] => Q (enumL xs) env1
  | some [.tuple xs] => Q (enumL xs) env1
  | _ => False
theorem pdi_enum2 {X : Cx} {e : Expr} {ta : TDA} {p pos tpos : Pos} {elts : List Expr} {kk : Nat} (hg : Gl X "enumerate") (hm : X.mg "enumerate" = none) (ha : PDA X [e] ta) (hs : starEach [e] X.env = [(false, eval e X.env)] := by rfl) : PDI X (.Tuple elts kk tpos) (.Call (.Name "enumerate" p) [e] [] pos) (tdEnum2 ta) := by
  obtain ⟨t1, p1, q1⟩ := ha
  refine ⟨_, pi_enumA hg hm p1 hs, fun σ H W A env R Qd E ht k => ?_⟩
  refine q1 σ H W A env _ _ E ht fun vs H1 W1 env1 rvs E1 S1 R1 h1 => ?_
  split at h1
  · rename_i xs ex
    obtain ⟨W', s1, s2, d⟩ := R1.keep ex
    have E' := E1.sub s1 fun a ha => s2 a (E1.ain a ha) (E.ain a ha)
    have S' := S1.sub s1 s2
    cases d with
    | cons d1 d2 =>
      cases d2
      cases d1 with
      | lst s r => exact ⟨_, rfl, .inl ⟨_, hw_same.seq s, k _ H1 W' env1 _ E' S' (walk_enum s r) h1⟩⟩
  · rename_i xs ex
    obtain ⟨W', s1, s2, d⟩ := R1.keep ex
    have E' := E1.sub s1 fun a ha => s2 a (E1.ain a ha) (E.ain a ha)
    have S' := S1.sub s1 s2
    cases d with
    | cons d1 d2 =>
      cases d2
      cases d1 with
      | tup s r => exact ⟨_, rfl, .inr ⟨_, same_t hw_same s, k _ H1 W' env1 _ E' S' (walk_enumT s r) h1⟩⟩
  · exact h1.elim
/-- a, b = x, y with plain names -/
def tdPar (i j : Nat) (t : TDA) : TDS := fun D env => t env fun rvs env1 => match resAll rvs with
  | some [x, y] => i < env1.length ∧ j < env1.length ∧ D.nx ((env1.set i (some (.d x))).set j (some (.d y)))
  | _ => False
theorem psd_par {X : Cx} {N : List Nat × List Nat} {i j : Nat} {x y : Str} {a b : Expr} {ta : TDA} {px py pt pos : Pos} {kt k2 : Nat} {pt2 : Pos} (hc : X.calm = true) (hN : X.N.Nodup) (hi : X.N[i]? = some x) (hj : X.N[j]? = some y)
    (hx : X.env.scope.names.lookup x = some .local) (hy : X.env.scope.names.lookup y = some .local) (ha : PDA X [a, b] ta) (hij : i ≠ j := by decide) (hM : i ∉ N.1 := by decide) (hM2 : j ∉ N.1 := by decide)
    (hw : swappedStores [.Tuple [.Name x px, .Name y py] kt pt] (.Tuple [a, b] k2 pt2) X.env = pure (some [x, y]) := by rfl)
    (hs : swapsWithSole [.Tuple [.Name x px, .Name y py] kt pt] (.Tuple [a, b] k2 pt2) pos.line X.env = pure false := by rfl) :
    PSD X N (.Assign [.Tuple [.Name x px, .Name y py] kt pt] (.Tuple [a, b] k2 pt2) pos) (tdPar i j ta) := by
  obtain ⟨t1, p1, q1⟩ := ha
  refine ⟨_, ps_par hc hN hi hj hij hx hy p1 hw hs, fun B D Dd σ H W A env hB R h O => ?_⟩
  refine q1 σ H W A env _ _ R.en h fun vs H1 W1 env1 rvs E1 S1 R1 h1 => ?_
  have R' := R.step S1 E1
  split at h1
  · rename_i z z2 ex
    obtain ⟨W', s1, s2, d⟩ := R1.keep ex
    have R2 := R'.sub s1 (fun a ha => s2 a (E1.ain a ha) (R.en.ain a ha)) (fun q hq => s2 q (R'.up q hq) (R.up q hq)) fun q hq => s2 q.1 (R'.fz q hq).2.2 (R.fz q hq).2.2
    cases d with
    | cons d1 d2 =>
      cases d2 with
      | cons d2 d3 =>
        cases d3
        exact ⟨_, _, rfl, O.nx _ H1 W' _ _ ((R2.setD hB hM h1.1 d1).setD hB hM2 (by rw [List.length_set]; exact h1.2.1) d2) h1.2.2⟩
  · exact h1.elim
end DL

set_option Elab.async false
set_option linter.all false
set_option maxRecDepth 100000
set_option maxHeartbeats 4000000
set_option autoImplicit false
/-! reversed, division of big numbers, the place of a thing in a list -/
namespace DL
open PySem PySem.Spec L2 PyProof.Rows RT
section
variable {X : Cx} {e a tg : Expr} {te : TD} {p pos : Pos}
/-- reversed(a list or a tuple) -/
def tdRevA (t : TD) : TDI := fun env Q => t env fun rv env1 => match rvD rv with
  | some (.list xs) => Q xs.reverse env1
  | some (.tuple xs) => Q xs.reverse env1
  | _ => False
theorem rev_get {α : Type} {xs : List α} {i : Nat} {x : α} (h : xs.reverse[i]? = some x) : i < xs.length ∧ xs[xs.length - 1 - i]? = some x := by
  have hi := (List.getElem?_eq_some_iff.mp h).1
  rw [List.length_reverse] at hi
  rw [List.getElem?_reverse hi] at h
  exact ⟨hi, h⟩
theorem walk_rev {K : PySem.W.Frag} {G : Hp} {a : Addr} {vs : List V} {xs : List PyData} (s : SqL K G a vs) (d : DpAll K G vs xs) : Walk K (Itv K a vs.length) G xs.reverse := by
  intro H W e hw i
  have s' : SqL K H a vs := hw_same.seq (e.seq s)
  have hl := d.len
  refine ⟨fun x hx => ?_, fun hle => ?_⟩
  · obtain ⟨hi, hx⟩ := rev_get hx
    obtain ⟨v, hv, dv⟩ := d.get hx
    rw [← hl] at hv
    refine ⟨⟨by omega, vs, v, s', hv⟩, fun u H' y => ?_⟩
    obtain ⟨rfl, y⟩ := y
    have := y vs s'
    rw [hv] at this; cases this
    exact ⟨.refl, dp_mono e _ dv⟩
  · rw [List.length_reverse] at hle
    show vs.length ≤ i
    omega
theorem walk_revT {K : PySem.W.Frag} {G : Hp} {a : Addr} {vs : List V} {xs : List PyData} (s : SqT K G a vs) (d : DpAll K G vs xs) : Walk K (ItvT K a vs.length) G xs.reverse := by
  intro H W e hw i
  have s' : SqT K H a vs := same_t hw_same (same_t e s)
  have hl := d.len
  refine ⟨fun x hx => ?_, fun hle => ?_⟩
  · obtain ⟨hi, hx⟩ := rev_get hx
    obtain ⟨v, hv, dv⟩ := d.get hx
    rw [← hl] at hv
    refine ⟨⟨by omega, vs, v, s', hv⟩, fun u H' y => ?_⟩
    obtain ⟨rfl, y⟩ := y
    have := y vs s'
    rw [hv] at this; cases this
    exact ⟨.refl, dp_mono e _ dv⟩
  · rw [List.length_reverse] at hle
    show vs.length ≤ i
    omega
theorem pdi_revA (hg : Gl X "reversed") (hm : X.mg "reversed" = none) (he : PD X e te) (hs : starEach [e] X.env = (false, eval e X.env) :: starEach [] X.env := by rfl) : PDI X tg (.Call (.Name "reversed" p) [e] [] pos) (tdRevA te) := by
  obtain ⟨t1, p1, q1⟩ := he
  refine ⟨_, pi_revA hg hm p1 hs, fun σ H W A env R Qd E ht k => ?_⟩
  refine q1 σ H W A env _ _ E ht fun v H1 W1 env1 rv E1 S1 R1 h1 => ?_
  split at h1
  · rename_i xs ex
    obtain ⟨W', s1, s2, d⟩ := R1.keepD S1 ex
    have E' := E1.sub s1 fun a ha => s2 a (E1.ain a ha) (E.ain a ha)
    have S' := S1.sub s1 s2
    cases d with
    | lst s r => exact ⟨_, _, rfl, .inl ⟨hw_same.seq s, k _ H1 W' env1 _ E' S' (walk_rev s r) h1⟩⟩
  · rename_i xs ex
    obtain ⟨W', s1, s2, d⟩ := R1.keepD S1 ex
    have E' := E1.sub s1 fun a ha => s2 a (E1.ain a ha) (E.ain a ha)
    have S' := S1.sub s1 s2
    cases d with
    | tup s r => exact ⟨_, _, rfl, .inr ⟨same_t hw_same s, k _ H1 W' env1 _ E' S' (walk_revT s r) h1⟩⟩
  · exact h1.elim
/-- reversed(range(n)) -/
def tdRevR (t : TD) : TDI := fun env Q => t env fun rv env1 => match res env1 rv with
  | some (.int n) => (-(2 ^ 62) ≤ n ∧ n < 2 ^ 62) ∧ Q (rngC (n - 1) (-1) n.toNat) env1
  | _ => False
theorem pdi_revR {p2 pos2 : Pos} (hg : Gl X "reversed") (hm : X.mg "reversed" = none) (hg2 : Gl X "range") (hm2 : X.mg "range" = none) (he : PD X a te) (na : starEach [a] X.env = (false, eval a X.env) :: starEach [] X.env := by rfl)
    (hs : starEach [.Call (.Name "range" p2) [a] [] pos2] X.env = (false, eval (.Call (.Name "range" p2) [a] [] pos2) X.env) :: starEach [] X.env := by rfl) :
    PDI X tg (.Call (.Name "reversed" p) [.Call (.Name "range" p2) [a] [] pos2] [] pos) (tdRevR te) := by
  obtain ⟨t1, p1, q1⟩ := he
  refine ⟨_, pi_revR hg hm (prg_1 hg2 hm2 p1 na) hs, fun σ H W A env R Qd E ht k => ?_⟩
  refine q1 σ H W A env _ _ E ht fun v H1 W1 env1 rv E1 S1 R1 h1 => ?_
  split at h1
  · rename_i n en
    refine ⟨n, (Dq.of_rv E1 R1 en).int, by decide, by decide, h1.1.1, h1.1.2, ?_⟩
    have e0 : (0 : Int) + (((n - 0).toNat : Nat) : Int) - 1 = (((n.toNat : Nat) : Int)) - 1 := by
      rw [Int.sub_zero]; omega
    rw [e0, show n - 0 = n by omega]
    refine k _ H1 W1 env1 _ E1 S1 ?_ h1.2
    intro H W e hw i
    refine ⟨fun x hx => ?_, fun hl => ?_⟩
    · unfold rngC at hx
      rw [List.getElem?_map] at hx
      obtain ⟨j, hj, rfl⟩ := Option.map_eq_some_iff.mp hx
      obtain ⟨g1, g2⟩ := List.getElem?_eq_some_iff.mp hj
      rw [List.getElem_range] at g2
      subst g2
      rw [List.length_range] at g1
      refine ⟨g1, fun u H' y => ?_⟩
      obtain ⟨rfl, rfl⟩ := y
      have e1 : (((n.toNat : Nat) : Int)) = n := by omega
      rw [e1]
      exact ⟨.refl, .int _⟩
    · unfold rngC at hl
      rw [List.length_map, List.length_range] at hl
      exact hl
  · exact h1.elim
/-- // of numbers of any size that are no more than 4000 bits apart, or by one below 9000 bits -/
theorem op_divP : OpR X (binaryOp .FloorDiv) (rI CDivP fun i j => .int (i / j)) := opI fun i j _ _ _ _ _ hc q => by
  have h1 : (0 : Int) < j := hc.1
  exact floordiv_int (by omega) (by rw [Int.fdiv_eq_ediv_of_nonneg i (by omega)]; exact q) (.inl hc.2)
def rdDivP : PyData → PyData → (Rv → Prop) → Prop
  | .int i, .int j, Q => CDivP i j ∧ Q (.d (.int (i / j)))
  | _, _, _ => False
theorem od_divP : OpD X (binaryOp .FloorDiv) rdDivP := od_ints op_divP fun a b Q q => by
  unfold rdDivP at q
  split at q
  · exact ⟨_, _, rfl, rfl, q⟩
  · exact q.elim
/-- l.index(x) -/
def rdIndex : List PyData → List PyData → (PyData → List PyData → Prop) → Prop
  | xs, [y], Q => SeqAt.shaped (.list xs) = true ∧ SeqAt.shaped y = true ∧ ∃ (j : Nat) (z : PyData), xs[j]? = some z ∧ PyData.eqv z y = true ∧ (∀ (m : Nat) (z' : PyData), m < j → xs[m]? = some z' → PyData.eqv z' y = false) ∧ Q (.int (j : Nat)) xs
  | _, _, _ => False
theorem md_index (hu : X.A.units + 65 < cLine) : MD X "list.index" rdIndex := by
  refine ⟨_, mt_indexD hu, fun H W a vs ws xs ys Q Qd h d dw q k => ?_⟩
  unfold rdIndex at q
  split at q
  · cases dw with
    | cons d1 d2 =>
      cases d2
      obtain ⟨h1, h2, j, z, h3, h4, h5, q⟩ := q
      refine ⟨a, _, _, _, j, z, rfl, rfl, .lst (.inl (.inl h)) (dpa_mono hw_same _ d), dp_mono hw_same _ d1, h1, h2, h3, h4, h5, ?_⟩
      have := k (.int (j : Nat)) (.int (j : Nat)) vs xs (.int _) d q
      have e : upd H a (.lst vs) = H := by
        funext b
        by_cases c : b = a
        · rw [c, upd_same, h]
        · rw [upd_ne c]
      rwa [e] at this
  · exact q.elim
end
/-- the list that a name holds alone, walked by a comprehension that leaves it as it is -/
def tdLcO (i0 : Nat) (g : TDC) (tt : TDT) (te : TD) (vs : List Nat) : TD := fun env Q => match env[i0]? with
  | some (some (.l xs)) => ∃ Pv : Nat → List PyData → En → Prop, Pv 0 [] env ∧
    (∀ i acc env, Pv i acc env → env[i0]? = some (some (.l xs))) ∧
    (∀ i x acc env, xs[i]? = some x → Pv i acc env → noOwn env vs ∧ g x (wipeE env vs) fun env2 => tt env2 fun b env3 => if b = true then te env3 fun rv env4 => (match rvD rv with
      | some y => acc.length < sizeLine ∧ Pv (i + 1) (acc ++ [y]) (mergeE env env4 vs)
      | none => False) else Pv (i + 1) acc (mergeE env env3 vs)) ∧
    ∀ acc env, Pv xs.length acc env → Q (.n (.l acc)) env
  | _ => False
section
variable {X : Cx} {tg iter elt : Expr} {ifs : List Expr} {scope : Scope} {pos : Pos} {g : TDC} {tt : TDT} {te : TD} {vs : List Nat}
theorem lcO_go {i0 : Nat} {T : List Nat} {σ : L2.St} {H : Hp} {W : List Addr} {A : List (Option Addr)} {env : En} {Q : VK} {Qd : Rv → En → Prop} {vs : List Nat} (hT : ∀ i, i ∈ T → i ∈ vs)
    (E : EnR X.K H W A env σ) (ht : tdLcO i0 g tt te vs env Qd) (k : ∀ v H' W' env' rv, EnR X.K H' W' A env' σ → Stp A H W H' W' → RvR X.K H W H' W' A rv v → Qd rv env' → Q v H') :
    tLc (iList X.K (tVar i0)) (upG X.K T g) (upT X.K tt) (upE X.K te) vs σ H Q := by
  unfold tdLcO at ht
  split at ht
  · rename_i xs hx0
    obtain ⟨Pv, h0, hk, hs, hd⟩ := ht
    obtain ⟨a, vs0, ha, haW, hv, h1, h2⟩ := E.lst hx0
    refine ⟨_, hv, a, rfl, ⟨vs0, SqL.of h1⟩, ?_⟩
    obtain ⟨H1, hH1⟩ : ∃ H1, H1 = H := ⟨_, rfl⟩
    obtain ⟨W1, hW1⟩ : ∃ W1, W1 = W := ⟨_, rfl⟩
    obtain ⟨env1, henv1⟩ : ∃ env1, env1 = env := ⟨_, rfl⟩
    rw [← hH1, ← hW1, ← henv1] at E
    rw [← henv1] at h0
    have S1 : Stp A H W H1 W1 := by rw [hH1, hW1]; exact .refl
    rw [← hH1]
    have E1 := E
    have Wk : ∀ (i : Nat) (H2 : Hp) (W2 : List Addr) (env2 : En) (acc : List PyData), EnR X.K H2 W2 A env2 σ → Stp A H1 W1 H2 W2 → Pv i acc env2 →
        (∀ x, xs[i]? = some x → (Itl X.K a).go i H2 ∧ ∀ v H', (Itl X.K a).yld i H2 v H' → Grow H2 W2 H' W2 ∧ Dp X.K (HW H' W2) v x) ∧ (xs.length ≤ i → (Itl X.K a).stop i H2) := by
      intro i H2 W2 env2 acc E2 S2 hP
      obtain ⟨a', vs2, ha', _, _, g1, g2⟩ := E2.lst (hk i acc env2 hP)
      rw [ha] at ha'; cases ha'
      have sq : SqL X.K H2 a vs2 := SqL.of g1
      refine ⟨fun x hx => ?_, fun hl => ⟨vs2, sq, by rw [g2.len]; exact hl⟩⟩
      obtain ⟨v, hv, dv⟩ := g2.get hx
      refine ⟨⟨vs2, v, sq, hv⟩, fun u H' y => ?_⟩
      obtain ⟨rfl, y⟩ := y
      have := y vs2 sq
      rw [hv] at this; cases this
      exact ⟨.refl, dv⟩
    intro D hD
    have nDA : some D ∉ A := fun z => E1.trk D (E1.ain D z) hD
    have nDW : D ∉ W1 := fun z => E1.trk D z hD
    have g0 : Grow H1 W1 (upd H1 D (.lst [])) (D :: W1) := grow_own hD
    refine ⟨fun i m H2 => m = xs.length - i ∧ i ≤ xs.length ∧ ∃ W2 env2 acc accV, EnR X.K H2 W2 A env2 σ ∧ D ∈ W2 ∧ H2 D = some (.lst accV) ∧ DpAll X.K (HW H2 W2) accV acc ∧ Stp A H1 W1 H2 W2 ∧ Pv i acc env2,
      ⟨_, rfl, Nat.zero_le _, D :: W1, env1, [], [], g0.en E1, List.mem_cons_self, upd_same, .nil, g0.stp, h0⟩, ?_⟩
    rintro i m H2 ⟨rfl, hle, W2, env2, acc, accV, E2, hDW, hDl, dacc, S2, hP⟩
    obtain ⟨wg, ws⟩ := Wk i H2 W2 env2 acc E2 S2 hP
    by_cases hlt : i < xs.length
    · obtain ⟨go, yl⟩ := wg xs[i] (by simp [hlt])
      refine .inr ⟨go, fun H' => ∃ W2 env2 acc accV, EnR X.K H' W2 A env2 σ ∧ D ∈ W2 ∧ H' D = some (.lst accV) ∧ DpAll X.K (HW H' W2) accV acc ∧ Stp A H1 W1 H' W2 ∧ Pv (i + 1) acc env2, fun H' q => ⟨xs.length - (i + 1), by omega, rfl, hlt, q⟩, fun v H3 y => ?_⟩
      obtain ⟨gr, dv⟩ := yl v H3 y
      obtain ⟨hno, hg⟩ := hs i xs[i] acc env2 (by simp [hlt]) hP
      have E3 := (gr.en E2)
      refine ⟨W2, A, wipeE env2 vs, xs[i], _, E3.wipe hno, dv, hg, fun σ4 env4 E4 w4 h4 => ?_⟩
      have hw4 : L2.wipe σ4 vs = L2.wipe σ vs := by
        rw [w4 vs hT]
        exact wipe_eq (fun j hj => by rw [wipe_get]; simp [hj]) (wipe_length _ _)
      refine ⟨hw4, W2, A, env4, _, E4, h4, fun b H5 W5 env5 E5 S5 h5 => ?_⟩
      have Sg : Stp A H2 W2 H5 W5 := gr.stp.trans S5
      have keepD : ∀ {H6 : Hp} {W6 : List Addr}, Stp A H2 W2 H6 W6 → H6 D = some (.lst accV) ∧ D ∈ W6 ∧ DpAll X.K (HW H6 W6) accV acc := fun {H6 W6} S => ⟨S.ext D _ hDl nDA, S.up D hDW, S.dpa E2.ain dacc⟩
      cases b with
      | false =>
        obtain ⟨k1, k2, k3⟩ := keepD Sg
        exact ⟨W5, _, acc, accV, E2.merge E5 Sg hw4 hno, k2, k1, k3, S2.trans Sg, h5⟩
      | true =>
        refine ⟨W5, A, env5, _, E5, h5, fun u H6 W6 env6 rv E6 S6 R6 h6 => ?_⟩
        split at h6
        · rename_i y ey
          have S26 := Sg.trans S6
          obtain ⟨W7, s1, s2, d⟩ := R6.keepD S6 ey
          obtain ⟨k1, k2, k3⟩ := keepD S26
          have hD7 : D ∈ W7 := s2 D k2 (Sg.up D hDW)
          have S7 : Stp A H2 W2 H6 W7 := S26.sub s1 fun q hq hq0 => s2 q hq (Sg.up q hq0)
          have E7 := E6.sub s1 fun a ha => s2 a (E6.ain a ha) (E5.ain a ha)
          have E8 := E2.merge E7 S7 hw4 hno
          refine ⟨accV, k1, by rw [k3.len]; exact h6.1, W7, _, acc ++ [y], accV ++ [u], ?_, hD7, upd_same, ?_, ?_, h6.2⟩
          · exact E8.hid hD7 nDA
          · rw [hw_upd hD7]
            exact (dpa_mono (sub_same s1) _ k3).app (.cons d .nil)
          · have S8 := S2.trans S7
            refine ⟨fun b o h n => ?_, fun b h => ?_, S8.up, fun p hp => ?_⟩
            · have c : b ≠ D := fun z => by rw [z, hD] at h; cases h
              rw [upd_ne c]
              exact S8.ext b o h n
            · by_cases c : b = D
              · rw [c, upd_same]; simp
              · rw [upd_ne c]; exact S8.there b h
            · rcases S8.fr p hp with z | z
              · exact .inl z
              · refine .inr ⟨z.1, ?_⟩
                by_cases c : p = D
                · rw [c, upd_same]; simp
                · rw [upd_ne c]; exact z.2
        · exact h6.elim
    · have e : i = xs.length := by omega
      subst e
      refine .inl ⟨ws (Nat.le_refl _), ?_⟩
      refine k (.ref D) H2 W2 env2 (.n (.l acc)) E2 (S1.trans S2) ⟨D, rfl, S1.back hD, hDW, fun z => nDW (S1.up D z), accV, hDl, dacc⟩ (hd acc env2 hP)
  · exact ht.elim
theorem pd_lcO (own : List (Str × Nat)) (hvs : own.map (·.2) = vs) (i0 : Nat) (hc : X.calm = true) (hN : X.N.Nodup) (hv : PE X iter (tVar i0)) (ok : BlkOk X.N X.env.scope scope own)
    (hg : ∀ (s : Shared) (H : Hp) (C : Addr) (cl : List (Str × Addr)) (fp : List Addr), PDC (X.blk s H scope (compEnvC scope cl C X.env) fp) vs tg g) (ht : ∀ (s : Shared) (H : Hp) (C : Addr) (cl : List (Str × Addr)) (fp : List Addr), PDTs (X.blk s H scope (compEnvC scope cl C X.env) fp) ifs tt)
    (he : ∀ (s : Shared) (H : Hp) (C : Addr) (cl : List (Str × Addr)) (fp : List Addr), PD (X.blk s H scope (compEnvC scope cl C X.env) fp) elt te) (hs : ∀ x, foldedSetIterable iter X.env x = pure x := by intro _; rfl) :
    PD X (.ListComp elt [⟨tg, iter, ifs, 0⟩] scope pos) (tdLcO i0 g tt te vs) := by
  have h := pe_lc (pos := pos) (g := upG X.K vs g) (tt := upT X.K tt) (te := upE X.K te) hc hN (pi_list hv) ok hg ht (fun s H C cl fp => (he s H C cl fp).up) hs
  rw [hvs] at h
  exact ⟨_, h, fun σ H W A env Q Qd E h k => lcO_go (fun i h => h) E h k⟩
end
end DL

set_option Elab.async false
set_option linter.all false
set_option maxRecDepth 100000
set_option maxHeartbeats 4000000
set_option autoImplicit false
/-! enumerate over a list held alone -/
namespace DL
open PySem PySem.Spec L2 PyProof.Rows
/-- the same, counted (enumerate) -/
def tdLcOE (i0 : Nat) (g : TDC) (tt : TDT) (te : TD) (vs : List Nat) : TD := fun env Q => match env[i0]? with
  | some (some (.l xs)) => ∃ Pv : Nat → List PyData → En → Prop, Pv 0 [] env ∧
    (∀ i acc env, Pv i acc env → env[i0]? = some (some (.l xs))) ∧
    (∀ i x acc env, (enumL xs)[i]? = some x → Pv i acc env → noOwn env vs ∧ g x (wipeE env vs) fun env2 => tt env2 fun b env3 => if b = true then te env3 fun rv env4 => (match rvD rv with
      | some y => acc.length < sizeLine ∧ Pv (i + 1) (acc ++ [y]) (mergeE env env4 vs)
      | none => False) else Pv (i + 1) acc (mergeE env env3 vs)) ∧
    ∀ acc env, Pv (enumL xs).length acc env → Q (.n (.l acc)) env
  | _ => False
section
variable {X : Cx} {tg iter elt : Expr} {ifs : List Expr} {scope : Scope} {pos : Pos} {g : TDC} {tt : TDT} {te : TD} {vs : List Nat}
theorem lcOE_go {i0 : Nat} {T : List Nat} {σ : L2.St} {H : Hp} {W : List Addr} {A : List (Option Addr)} {env : En} {Q : VK} {Qd : Rv → En → Prop} {vs : List Nat} (hT : ∀ i, i ∈ T → i ∈ vs)
    (E : EnR X.K H W A env σ) (ht : tdLcOE i0 g tt te vs env Qd) (k : ∀ v H' W' env' rv, EnR X.K H' W' A env' σ → Stp A H W H' W' → RvR X.K H W H' W' A rv v → Qd rv env' → Q v H') :
    tLc (iEnum X.K (tCons (tVar i0) tNil)) (upG X.K T g) (upT X.K tt) (upE X.K te) vs σ H Q := by
  unfold tdLcOE at ht
  split at ht
  · rename_i xs hx0
    obtain ⟨Pv, h0, hk, hs, hd⟩ := ht
    obtain ⟨a, vs0, ha, haW, hv, h1, h2⟩ := E.lst hx0
    refine ⟨_, hv, a, vs0, rfl, SqL.of h1, ?_⟩
    generalize hxs : enumL xs = ys at hs hd
    obtain ⟨H1, hH1⟩ : ∃ H1, H1 = H := ⟨_, rfl⟩
    obtain ⟨W1, hW1⟩ : ∃ W1, W1 = W := ⟨_, rfl⟩
    obtain ⟨env1, henv1⟩ : ∃ env1, env1 = env := ⟨_, rfl⟩
    rw [← hH1, ← hW1, ← henv1] at E
    rw [← henv1] at h0
    have S1 : Stp A H W H1 W1 := by rw [hH1, hW1]; exact .refl
    rw [← hH1]
    have E1 := E
    have Wk : ∀ (i : Nat) (H2 : Hp) (W2 : List Addr) (env2 : En) (acc : List PyData), EnR X.K H2 W2 A env2 σ → Stp A H1 W1 H2 W2 → Pv i acc env2 →
        (∀ x, ys[i]? = some x → (Ite X.K a).go i H2 ∧ ∀ v H', (Ite X.K a).yld i H2 v H' → Grow H2 W2 H' W2 ∧ Dp X.K (HW H' W2) v x) ∧ (ys.length ≤ i → (Ite X.K a).stop i H2) := by
      intro i H2 W2 env2 acc E2 S2 hP
      obtain ⟨a', vs2, ha', _, _, g1, g2⟩ := E2.lst (hk i acc env2 hP)
      rw [ha] at ha'; cases ha'
      subst hxs
      have hl : (enumL xs).length = xs.length := by unfold enumL; rw [List.length_zipWith, List.length_range, Nat.min_self]
      have sq : SqL X.K H2 a vs2 := SqL.of g1
      refine ⟨fun x hx => ?_, fun hle => ⟨vs2, sq, by rw [g2.len]; omega⟩⟩
      have hi : i < xs.length := by rw [← hl]; exact (List.getElem?_eq_some_iff.mp hx).1
      have hx2 : x = .tuple [.int (i : Nat), xs[i]] := by
        unfold enumL at hx
        rw [List.getElem?_zipWith, List.getElem?_eq_getElem hi, List.getElem?_range hi] at hx
        exact (Option.some.inj hx).symm
      obtain ⟨v, hv, dv⟩ := g2.get (List.getElem?_eq_getElem hi)
      refine ⟨⟨vs2, v, sq, hv⟩, fun u H' y => ?_⟩
      obtain ⟨T', x1, rfl, hT', rfl, y⟩ := y
      have := y vs2 sq
      rw [hv] at this; cases this
      have gg : Grow H2 W2 (upd H2 T' (.tup [.int (i : Nat), v])) W2 := grow_new hT'
      refine ⟨gg, ?_⟩
      rw [hx2]
      refine .tup (.inl (.inl (hw_of (fun z => E2.trk T' z hT') upd_same))) ?_
      exact dpa_mono ((gg.stp (A := [])).same fun _ z => absurd z (by simp)) _ (.cons (.int _) (.cons dv .nil))
    intro D hD
    have nDA : some D ∉ A := fun z => E1.trk D (E1.ain D z) hD
    have nDW : D ∉ W1 := fun z => E1.trk D z hD
    have g0 : Grow H1 W1 (upd H1 D (.lst [])) (D :: W1) := grow_own hD
    refine ⟨fun i m H2 => m = ys.length - i ∧ i ≤ ys.length ∧ ∃ W2 env2 acc accV, EnR X.K H2 W2 A env2 σ ∧ D ∈ W2 ∧ H2 D = some (.lst accV) ∧ DpAll X.K (HW H2 W2) accV acc ∧ Stp A H1 W1 H2 W2 ∧ Pv i acc env2,
      ⟨_, rfl, Nat.zero_le _, D :: W1, env1, [], [], g0.en E1, List.mem_cons_self, upd_same, .nil, g0.stp, h0⟩, ?_⟩
    rintro i m H2 ⟨rfl, hle, W2, env2, acc, accV, E2, hDW, hDl, dacc, S2, hP⟩
    obtain ⟨wg, ws⟩ := Wk i H2 W2 env2 acc E2 S2 hP
    by_cases hlt : i < ys.length
    · obtain ⟨go, yl⟩ := wg ys[i] (by simp [hlt])
      refine .inr ⟨go, fun H' => ∃ W2 env2 acc accV, EnR X.K H' W2 A env2 σ ∧ D ∈ W2 ∧ H' D = some (.lst accV) ∧ DpAll X.K (HW H' W2) accV acc ∧ Stp A H1 W1 H' W2 ∧ Pv (i + 1) acc env2, fun H' q => ⟨ys.length - (i + 1), by omega, rfl, hlt, q⟩, fun v H3 y => ?_⟩
      obtain ⟨gr, dv⟩ := yl v H3 y
      obtain ⟨hno, hg⟩ := hs i ys[i] acc env2 (by simp [hlt]) hP
      have E3 := (gr.en E2)
      refine ⟨W2, A, wipeE env2 vs, ys[i], _, E3.wipe hno, dv, hg, fun σ4 env4 E4 w4 h4 => ?_⟩
      have hw4 : L2.wipe σ4 vs = L2.wipe σ vs := by
        rw [w4 vs hT]
        exact wipe_eq (fun j hj => by rw [wipe_get]; simp [hj]) (wipe_length _ _)
      refine ⟨hw4, W2, A, env4, _, E4, h4, fun b H5 W5 env5 E5 S5 h5 => ?_⟩
      have Sg : Stp A H2 W2 H5 W5 := gr.stp.trans S5
      have keepD : ∀ {H6 : Hp} {W6 : List Addr}, Stp A H2 W2 H6 W6 → H6 D = some (.lst accV) ∧ D ∈ W6 ∧ DpAll X.K (HW H6 W6) accV acc := fun {H6 W6} S => ⟨S.ext D _ hDl nDA, S.up D hDW, S.dpa E2.ain dacc⟩
      cases b with
      | false =>
        obtain ⟨k1, k2, k3⟩ := keepD Sg
        exact ⟨W5, _, acc, accV, E2.merge E5 Sg hw4 hno, k2, k1, k3, S2.trans Sg, h5⟩
      | true =>
        refine ⟨W5, A, env5, _, E5, h5, fun u H6 W6 env6 rv E6 S6 R6 h6 => ?_⟩
        split at h6
        · rename_i y ey
          have S26 := Sg.trans S6
          obtain ⟨W7, s1, s2, d⟩ := R6.keepD S6 ey
          obtain ⟨k1, k2, k3⟩ := keepD S26
          have hD7 : D ∈ W7 := s2 D k2 (Sg.up D hDW)
          have S7 : Stp A H2 W2 H6 W7 := S26.sub s1 fun q hq hq0 => s2 q hq (Sg.up q hq0)
          have E7 := E6.sub s1 fun a ha => s2 a (E6.ain a ha) (E5.ain a ha)
          have E8 := E2.merge E7 S7 hw4 hno
          refine ⟨accV, k1, by rw [k3.len]; exact h6.1, W7, _, acc ++ [y], accV ++ [u], ?_, hD7, upd_same, ?_, ?_, h6.2⟩
          · exact E8.hid hD7 nDA
          · rw [hw_upd hD7]
            exact (dpa_mono (sub_same s1) _ k3).app (.cons d .nil)
          · have S8 := S2.trans S7
            refine ⟨fun b o h n => ?_, fun b h => ?_, S8.up, fun p hp => ?_⟩
            · have c : b ≠ D := fun z => by rw [z, hD] at h; cases h
              rw [upd_ne c]
              exact S8.ext b o h n
            · by_cases c : b = D
              · rw [c, upd_same]; simp
              · rw [upd_ne c]; exact S8.there b h
            · rcases S8.fr p hp with z | z
              · exact .inl z
              · refine .inr ⟨z.1, ?_⟩
                by_cases c : p = D
                · rw [c, upd_same]; simp
                · rw [upd_ne c]; exact z.2
        · exact h6.elim
    · have e : i = ys.length := by omega
      subst e
      refine .inl ⟨ws (Nat.le_refl _), ?_⟩
      refine k (.ref D) H2 W2 env2 (.n (.l acc)) E2 (S1.trans S2) ⟨D, rfl, S1.back hD, hDW, fun z => nDW (S1.up D z), accV, hDl, dacc⟩ (hd acc env2 hP)
  · exact ht.elim
end
section
variable {X : Cx} {e0 elt : Expr} {elts : List Expr} {kk : Nat} {tpos p cpos : Pos} {ifs : List Expr} {scope : Scope} {pos spos : Pos} {g : TDC} {tt : TDT} {te : TD} {vs : List Nat}
theorem pd_lcOE (own : List (Str × Nat)) (hvs : own.map (·.2) = vs) (i0 : Nat) (hc : X.calm = true) (hN : X.N.Nodup) (hge : Gl X "enumerate") (hme : X.mg "enumerate" = none) (hv : PE X e0 (tVar i0)) (ok : BlkOk X.N X.env.scope scope own)
    (hg : ∀ (s : Shared) (H : Hp) (C : Addr) (cl : List (Str × Addr)) (fp : List Addr), PDC (X.blk s H scope (compEnvC scope cl C X.env) fp) vs (.Tuple elts kk tpos) g) (ht : ∀ (s : Shared) (H : Hp) (C : Addr) (cl : List (Str × Addr)) (fp : List Addr), PDTs (X.blk s H scope (compEnvC scope cl C X.env) fp) ifs tt)
    (he : ∀ (s : Shared) (H : Hp) (C : Addr) (cl : List (Str × Addr)) (fp : List Addr), PD (X.blk s H scope (compEnvC scope cl C X.env) fp) elt te) (hs : ∀ x, foldedSetIterable (.Call (.Name "enumerate" p) [e0] [] cpos) X.env x = pure x := by intro _; rfl) (hst : starEach [e0] X.env = [(false, eval e0 X.env)] := by rfl) :
    PD X (.ListComp elt [⟨.Tuple elts kk tpos, .Call (.Name "enumerate" p) [e0] [] cpos, ifs, 0⟩] scope pos) (tdLcOE i0 g tt te vs) := by
  have h := pe_lc (pos := pos) (g := upG X.K vs g) (tt := upT X.K tt) (te := upE X.K te) hc hN (pi_enum (elts := elts) (kk := kk) (tpos := tpos) (p := p) (pos := cpos) hge hme (pa_cons hv pa_nil hst) hst) ok hg ht (fun s H C cl fp => (he s H C cl fp).up) hs
  rw [hvs] at h
  exact ⟨_, h, fun σ H W A env Q Qd E h k => lcOE_go (fun i h => h) E h k⟩
theorem psd_setLcOE {N : List Nat × List Nat} {i : Nat} {y : Str} {py : Pos} (own : List (Str × Nat)) (hvs : own.map (·.2) = vs) (i0 : Nat) (hc : X.calm = true) (hN : X.N.Nodup) (hy : X.N[i]? = some y) (hyl : X.env.scope.names.lookup y = some .local)
    (hsw : swapsWith (.ListComp elt [⟨.Tuple elts kk tpos, .Call (.Name "enumerate" p) [e0] [] cpos, ifs, 0⟩] scope pos) (some (.Name y py)) spos.line X.env = pure true)
    (hge : Gl X "enumerate") (hme : X.mg "enumerate" = none) (hv : PE X e0 (tVar i0)) (ok : BlkOk X.N X.env.scope scope own)
    (hg : ∀ (s : Shared) (H : Hp) (C : Addr) (cl : List (Str × Addr)) (fp : List Addr), PDC (X.blk s H scope (compEnvC scope cl C X.env) fp) vs (.Tuple elts kk tpos) g) (ht : ∀ (s : Shared) (H : Hp) (C : Addr) (cl : List (Str × Addr)) (fp : List Addr), PDTs (X.blk s H scope (compEnvC scope cl C X.env) fp) ifs tt)
    (he : ∀ (s : Shared) (H : Hp) (C : Addr) (cl : List (Str × Addr)) (fp : List Addr), PD (X.blk s H scope (compEnvC scope cl C X.env) fp) elt te) (hM : i ∉ N.1 := by decide) (hs : ∀ x, foldedSetIterable (.Call (.Name "enumerate" p) [e0] [] cpos) X.env x = pure x := by intro _; rfl) (hst : starEach [e0] X.env = [(false, eval e0 X.env)] := by rfl) :
    PSD X N (.Assign [.Name y py] (.ListComp elt [⟨.Tuple elts kk tpos, .Call (.Name "enumerate" p) [e0] [] cpos, ifs, 0⟩] scope pos) spos) (tdSetD i (tdLcOE i0 g tt te vs)) := by
  have h := ps_setLc (g := upG X.K vs g) (tt := upT X.K tt) (te := upE X.K te) hc hN hy hyl hsw (pi_enum (elts := elts) (kk := kk) (tpos := tpos) (p := p) (pos := cpos) hge hme (pa_cons hv pa_nil hst) hst) ok hg ht (fun s H C cl fp => (he s H C cl fp).up) hs
  rw [hvs] at h
  refine ⟨_, h, fun B D Dd σ H W A env hB R h O => ?_⟩
  have q2 : ∀ (σ : L2.St) (H : Hp) (W : List Addr) (A : List (Option Addr)) (env : En) (Q : VK) (Qd : Rv → En → Prop), EnR X.K H W A env σ → tdLcOE i0 g tt te vs env Qd → (∀ v H' W' env' rv, EnR X.K H' W' A env' σ → Stp A H W H' W' → RvR X.K H W H' W' A rv v → Qd rv env' → Q v H') → tLc (iEnum X.K (tCons (tVar i0) tNil)) (upG X.K vs g) (upT X.K tt) (upE X.K te) vs σ H Q :=
    fun σ H W A env Q Qd E h k => lcOE_go (fun i h => h) E h k
  exact set_d q2 hM hB R h O
end
end DL

set_option Elab.async false
set_option linter.all false
set_option maxRecDepth 100000
set_option maxHeartbeats 4000000
set_option autoImplicit false
/-! tuple(range(n)) -/
namespace DL
open PySem PySem.Spec L2 PyProof.Rows
def tdTupRg (t : TD) : TD := fun env Q => t env fun rv env1 => match res env1 rv with
  | some (.int n) => RgOk 0 n ∧ Q (.d (.tuple (rngL 0 n))) env1
  | _ => False
section
variable {X : Cx} {a : Expr} {te : TD} {p q pos : Pos}
theorem pd_tupRg {pr : Pos} (hc : X.calm = true) (hg : Gl X "tuple") (hm : X.mg "tuple" = none) (hg2 : Gl X "range") (hm2 : X.mg "range" = none) (he : PD X a te) (na : starEach [a] X.env = (false, eval a X.env) :: starEach [] X.env := by rfl)
    (na2 : starEach [.Call (.Name "range" q) [a] [] pr] X.env = (false, eval (.Call (.Name "range" q) [a] [] pr) X.env) :: starEach [] X.env := by rfl) : PD X (.Call (.Name "tuple" p) [.Call (.Name "range" q) [a] [] pr] [] pos) (tdTupRg te) := by
  obtain ⟨t1, p1, q1⟩ := he
  refine ⟨_, pe_tupRg hc hg hm (prg_1 hg2 hm2 p1 na) na2, fun σ H W A env Q Qd E ht k => ?_⟩
  refine q1 σ H W A env _ _ E ht fun v H1 W1 env1 rv E1 S1 R1 h1 => ?_
  split at h1
  · rename_i n en
    refine ⟨n, (Dq.of_rv E1 R1 en).int, h1.1, fun l hl => ?_⟩
    refine (fin_up E1 S1 k).tup E1.trk hl ?_ h1.2
    unfold rgV rngL
    have : ∀ ns : List Nat, DpAll X.K (HW H1 W1) (ns.map fun i => V.int (0 + (i : Nat))) (ns.map fun i => PyData.int (0 + (i : Nat))) := fun ns => by
      induction ns with
      | nil => exact .nil
      | cons a r ih => exact .cons (.int _) ih
    exact this _
  · exact h1.elim
/-! ### sep.join(texts) -/
end
end DL

set_option Elab.async false
set_option linter.all false
set_option maxRecDepth 100000
set_option maxHeartbeats 4000000
set_option autoImplicit false
namespace Dm
/-! ### sums over 0 .. n - 1 -/
def sr : Nat → (Nat → Rat) → Rat
  | 0, _ => 0
  | n + 1, f => sr n f + f n
theorem sr_congr : ∀ {n : Nat} {f g : Nat → Rat}, (∀ i, i < n → f i = g i) → sr n f = sr n g
  | 0, _, _, _ => rfl
  | n + 1, f, g, h => by rw [sr, sr, sr_congr fun i hi => h i (by omega), h n (by omega)]
theorem sr_add : ∀ (n : Nat) (f g : Nat → Rat), sr n (fun i => f i + g i) = sr n f + sr n g
  | 0, _, _ => by simp only [sr]; grind
  | n + 1, f, g => by rw [sr, sr, sr, sr_add n f g]; grind
theorem sr_mul : ∀ (n : Nat) (f : Nat → Rat) (c : Rat), sr n (fun i => f i * c) = sr n f * c
  | 0, _, _ => by simp only [sr]; grind
  | n + 1, f, c => by rw [sr, sr, sr_mul n f c]; grind
theorem sr_zero : ∀ (n : Nat) {f : Nat → Rat}, (∀ i, i < n → f i = 0) → sr n f = 0
  | 0, _, _ => rfl
  | n + 1, f, h => by rw [sr, sr_zero n fun i hi => h i (by omega), h n (by omega)]; grind
theorem sr_one {n p : Nat} {f : Nat → Rat} (hp : p < n) (h : ∀ i, i < n → i ≠ p → f i = 0) : sr n f = f p := by
  induction n with
  | zero => omega
  | succ n ih =>
    rw [sr]
    by_cases c : p = n
    · rw [c, sr_zero n fun i hi => h i (by omega) (by omega)]; grind
    · rw [ih (by omega) fun i hi hne => h i (by omega) hne, h n (by omega) (fun z => c z.symm)]; grind
theorem sr_two {n p q : Nat} {f : Nat → Rat} (hp : p < q) (hq : q < n) (h : ∀ i, i < n → i ≠ p → i ≠ q → f i = 0) : sr n f = f p + f q := by
  induction n with
  | zero => omega
  | succ n ih =>
    rw [sr]
    by_cases c : q = n
    · rw [c, sr_one (p := p) (by omega) fun i hi hne => h i (by omega) hne (by omega)]
    · rw [ih (by omega) fun i hi hne hne2 => h i (by omega) hne hne2, h n (by omega) (by omega) (fun z => c z.symm)]; grind
theorem sr_le : ∀ {n : Nat} {f g : Nat → Rat}, (∀ i, i < n → f i ≤ g i) → sr n f ≤ sr n g
  | 0, _, _, _ => Rat.le_refl
  | n + 1, f, g, h => by
    have h1 := sr_le (n := n) fun i hi => h i (by omega)
    have h2 := h n (by omega)
    rw [sr, sr]; grind
theorem sr_nn : ∀ {n : Nat} {f : Nat → Rat}, (∀ i, i < n → 0 ≤ f i) → 0 ≤ sr n f
  | 0, _, _ => Rat.le_refl
  | n + 1, f, h => by
    have h1 := sr_nn (n := n) fun i hi => h i (by omega)
    have h2 := h n (by omega)
    rw [sr]; grind
/-! ### determinants of columns, by the last row -/
abbrev Cs := Nat → Nat → Rat
def sg (j : Nat) : Rat := if j % 2 = 0 then 1 else -1
def skp (j : Nat) (c : Cs) : Cs := fun q => if q < j then c q else c (q + 1)
def up (c : Cs) (p : Nat) (v : Nat → Rat) : Cs := fun q => if q = p then v else c q
def dt : Nat → Cs → Rat
  | 0, _ => 1
  | n + 1, c => sr (n + 1) fun j => sg (j + n) * c j n * dt n (skp j c)
theorem dt_congr : ∀ {n : Nat} {c d : Cs}, (∀ j, j < n → ∀ i, i < n → c j i = d j i) → dt n c = dt n d
  | 0, _, _, _ => rfl
  | n + 1, c, d, h => by
    rw [dt, dt]
    refine sr_congr fun j hj => ?_
    rw [h j hj n (by omega), dt_congr (n := n) (c := skp j c) (d := skp j d) fun q hq i hi => ?_]
    unfold skp
    by_cases c1 : q < j
    · rw [if_pos c1, if_pos c1]; exact h q (by omega) i (by omega)
    · rw [if_neg c1, if_neg c1]; exact h (q + 1) (by omega) i (by omega)
theorem skp_lt {c : Cs} {j p : Nat} {v : Nat → Rat} (h : p < j) : skp j (up c p v) = up (skp j c) p v := by
  funext q
  unfold skp up
  by_cases c1 : q < j
  · simp only [if_pos c1]
  · simp only [if_neg c1]
    rw [if_neg (by omega), if_neg (by omega)]
theorem skp_eq {c : Cs} {p : Nat} {v : Nat → Rat} : skp p (up c p v) = skp p c := by
  funext q
  unfold skp up
  by_cases c1 : q < p
  · simp only [if_pos c1]
    rw [if_neg (by omega)]
  · simp only [if_neg c1]
    rw [if_neg (by omega)]
theorem skp_gt {c : Cs} {j p : Nat} {v : Nat → Rat} (h : j < p) : skp j (up c p v) = up (skp j c) (p - 1) v := by
  funext q
  unfold skp up
  by_cases c1 : q < j
  · simp only [if_pos c1]
    rw [if_neg (by omega), if_neg (by omega)]
  · simp only [if_neg c1]
    by_cases c2 : q + 1 = p
    · rw [if_pos c2, if_pos (by omega)]
    · rw [if_neg c2, if_neg (by omega)]
theorem dt_add : ∀ {n : Nat} {c : Cs} {p : Nat} (u v : Nat → Rat) (t : Rat), p < n → dt n (up c p fun i => u i + t * v i) = dt n (up c p u) + t * dt n (up c p v)
  | 0, _, _, _, _, _, h => absurd h (by omega)
  | n + 1, c, p, u, v, t, h => by
    rw [dt, dt, dt, Rat.mul_comm t, ← sr_mul, ← sr_add]
    refine sr_congr fun j hj => ?_
    rcases Nat.lt_trichotomy p j with c1 | c1 | c1
    · rw [skp_lt c1, skp_lt c1, skp_lt c1, dt_add u v t (by omega)]
      have e : ∀ w : Nat → Rat, up c p w j = c j := fun w => by unfold up; rw [if_neg (by omega)]
      rw [e, e, e]; grind
    · subst c1
      rw [skp_eq, skp_eq, skp_eq]
      have e : ∀ w : Nat → Rat, up c p w p = w := fun w => by unfold up; rw [if_pos rfl]
      rw [e, e, e]; grind
    · rw [skp_gt c1, skp_gt c1, skp_gt c1, dt_add u v t (by omega)]
      have e : ∀ w : Nat → Rat, up c p w j = c j := fun w => by unfold up; rw [if_neg (by omega)]
      rw [e, e, e]; grind
theorem dt_nil {n p : Nat} {c : Cs} (h : p < n) : dt n (up c p fun _ => 0) = 0 := by
  have := dt_add (c := c) (fun _ => 0) (fun _ => 0) 1 h
  have e : (fun _ : Nat => (0 : Rat) + 1 * 0) = fun _ => 0 := by funext i; grind
  rw [e] at this
  grind
theorem sg_succ (j : Nat) : sg (j + 1) = - sg j := by
  unfold sg
  by_cases c : j % 2 = 0
  · rw [if_pos c, if_neg (by omega)]
  · rw [if_neg c, if_pos (by omega)]; grind
theorem dt_adj : ∀ {n : Nat} {c : Cs} {p : Nat}, p + 1 < n → c p = c (p + 1) → dt n c = 0
  | 0, _, _, h, _ => absurd h (by omega)
  | n + 1, c, p, h, e => by
    rw [dt, sr_two (p := p) (q := p + 1) (by omega) h fun j hj h1 h2 => ?_]
    · have e1 : skp (p + 1) c = skp p c := by
        funext q
        unfold skp
        by_cases c1 : q < p
        · rw [if_pos (by omega), if_pos c1]
        · by_cases c2 : q = p
          · rw [if_pos (by omega), if_neg c1, c2, e]
          · rw [if_neg (by omega), if_neg c1]
      rw [e1, ← e, show p + 1 + n = p + n + 1 by omega, sg_succ]
      grind
    · rcases Nat.lt_or_gt_of_ne h1 with c1 | c1
      · rw [dt_adj (n := n) (p := p - 1) (by omega) ?_]
        · grind
        · unfold skp
          rw [if_neg (by omega), if_neg (by omega), show p - 1 + 1 = p by omega, e]
      · rw [dt_adj (n := n) (p := p) (by omega) ?_]
        · grind
        · unfold skp
          rw [if_pos (by omega), if_pos (by omega), e]
theorem up_comm {c : Cs} {p q : Nat} {u v : Nat → Rat} (h : p ≠ q) : up (up c p u) q v = up (up c q v) p u := by
  funext j
  unfold up
  by_cases c1 : j = q
  · rw [if_pos c1, if_neg (by omega), if_pos c1]
  · rw [if_neg c1]
    by_cases c2 : j = p
    · rw [if_pos c2, if_pos c2]
    · rw [if_neg c2, if_neg c2, if_neg c1]
theorem up_self (c : Cs) (p : Nat) : up c p (c p) = c := by
  funext j
  unfold up
  by_cases c1 : j = p
  · rw [if_pos c1, c1]
  · rw [if_neg c1]
theorem up_at (c : Cs) (p : Nat) (v : Nat → Rat) : up c p v p = v := by unfold up; rw [if_pos rfl]
theorem up_ne {c : Cs} {p j : Nat} {v : Nat → Rat} (h : j ≠ p) : up c p v j = c j := by unfold up; rw [if_neg h]
theorem up_same (c : Cs) (p : Nat) (u v : Nat → Rat) : up (up c p u) p v = up c p v := by
  funext j
  unfold up
  by_cases c1 : j = p
  · rw [if_pos c1, if_pos c1]
  · rw [if_neg c1, if_neg c1, if_neg c1]
theorem dt_swap {n : Nat} {c : Cs} {p : Nat} (u v : Nat → Rat) (h : p + 1 < n) : dt n (up (up c p u) (p + 1) v) = - dt n (up (up c p v) (p + 1) u) := by
  have hz : ∀ w : Nat → Rat, dt n (up (up c p w) (p + 1) w) = 0 := fun w => dt_adj h (by rw [up_ne (by omega), up_at, up_at])
  have h0 := hz fun i => u i + 1 * v i
  rw [dt_add u v 1 h, up_comm (by omega), up_comm (p := p) (q := p + 1) (v := v) (by omega), dt_add u v 1 (by omega), dt_add u v 1 (by omega), up_comm (p := p + 1) (by omega), up_comm (p := p + 1) (by omega), up_comm (p := p + 1) (by omega), up_comm (p := p + 1) (by omega), hz, hz] at h0
  grind
theorem dt_eq : ∀ (d : Nat) {n : Nat} {c : Cs} {p : Nat}, p + 1 + d < n → c p = c (p + 1 + d) → dt n c = 0
  | 0, _, _, _, h, e => dt_adj h e
  | d + 1, n, c, p, h, e => by
    have e1 : c = up (up c (p + 1 + d) (c (p + 1 + d))) (p + 1 + d + 1) (c (p + 1 + d + 1)) := by rw [up_self, up_self]
    rw [e1, dt_swap _ _ (by omega), dt_eq d (p := p) (by omega) ?_]
    · grind
    · rw [up_ne (by omega), up_ne (by omega), up_ne (by omega), up_at]
      exact e
theorem dt_two {n : Nat} {c : Cs} {p q : Nat} (hp : p < n) (hq : q < n) (h : p ≠ q) (e : c p = c q) : dt n c = 0 := by
  rcases Nat.lt_or_gt_of_ne h with c1 | c1
  · obtain ⟨d, rfl⟩ : ∃ d, q = p + 1 + d := ⟨q - p - 1, by omega⟩
    exact dt_eq d hq e
  · obtain ⟨d, rfl⟩ : ∃ d, p = q + 1 + d := ⟨p - q - 1, by omega⟩
    exact dt_eq d hp e.symm
/-- a column put together from others -/
theorem dt_sum {n : Nat} {c : Cs} {p : Nat} (x : Nat → Rat) (hp : p < n) : ∀ m : Nat, dt n (up c p fun i => sr m fun l => c l i * x l) = sr m fun l => x l * dt n (up c p (c l))
  | 0 => dt_nil hp
  | m + 1 => by
    have e : (fun i => sr (m + 1) fun l => c l i * x l) = fun i => (sr m fun l => c l i * x l) + x m * c m i := by funext i; rw [sr]; grind
    rw [e, dt_add _ _ _ hp, dt_sum x hp m, sr]
theorem dt_cramer {n m : Nat} {c : Cs} {p : Nat} (x : Nat → Rat) (hp : p < m) (hm : m ≤ n) : dt n (up c p fun i => sr m fun l => c l i * x l) = x p * dt n c := by
  rw [dt_sum x (by omega), sr_one hp fun l hl hne => ?_, up_self]
  rw [dt_two (p := p) (q := l) (by omega) (by omega) (fun z => hne z.symm) (by rw [up_at, up_ne hne])]
  grind
theorem dt_off {n m : Nat} {c : Cs} {p : Nat} (x : Nat → Rat) (hp : p < n) (hm : m ≤ p) : dt n (up c p fun i => sr m fun l => c l i * x l) = 0 := by
  rw [dt_sum x hp, sr_zero m fun l hl => ?_]
  rw [dt_two (p := p) (q := l) hp (by omega) (by omega) (by rw [up_at, up_ne (by omega)])]
  grind
theorem dt_last {n : Nat} {c : Cs} (s : Rat) : dt (n + 1) (up c n fun i => if i = n then s else 0) = s * dt n c := by
  rw [dt, sr_one (p := n) (by omega) fun j hj hne => ?_]
  · rw [skp_eq, up_at, if_pos rfl, dt_congr (n := n) (c := skp n c) (d := c) fun q hq i hi => by unfold skp; rw [if_pos hq]]
    have : sg (n + n) = 1 := by unfold sg; rw [if_pos (by omega)]
    rw [this]; grind
  · rw [skp_gt (by omega), dt_congr (n := n) (d := up (skp j c) (n - 1) fun _ => 0) fun q hq i hi => ?_, dt_nil (by omega)]
    · grind
    · unfold up
      by_cases c1 : q = n - 1
      · rw [if_pos c1, if_pos c1, if_neg (by omega)]
      · rw [if_neg c1, if_neg c1]
/-! ### whole numbers -/
def fB (b : Nat) : Nat → Nat
  | 0 => 1
  | n + 1 => (n + 1) * (b * fB b n)
def Wh (b : Nat) (q : Rat) : Prop := ∃ z : Int, q = (z : Rat) ∧ z.natAbs ≤ b
theorem Wh.mul {a b : Nat} {p q : Rat} (h : Wh a p) (h2 : Wh b q) : Wh (a * b) (p * q) := by
  obtain ⟨z, rfl, hz⟩ := h
  obtain ⟨w, rfl, hw⟩ := h2
  exact ⟨z * w, by rw [Rat.intCast_mul], by rw [Int.natAbs_mul]; exact Nat.mul_le_mul hz hw⟩
theorem Wh.sum {b : Nat} {f : Nat → Rat} : ∀ {n : Nat}, (∀ i, i < n → Wh b (f i)) → Wh (n * b) (sr n f)
  | 0, _ => ⟨0, rfl, by simp⟩
  | n + 1, h => by
    obtain ⟨z, h1, hz⟩ := Wh.sum (n := n) fun i hi => h i (by omega)
    obtain ⟨w, h2, hw⟩ := h n (by omega)
    refine ⟨z + w, by rw [sr, h1, h2, Rat.intCast_add], ?_⟩
    have := Int.natAbs_add_le z w
    rw [Nat.succ_mul]; omega
theorem Wh.sgn {b j : Nat} {q : Rat} (h : Wh b q) : Wh b (sg j * q) := by
  obtain ⟨z, rfl, hz⟩ := h
  unfold sg
  split
  · exact ⟨z, by grind, hz⟩
  · refine ⟨-z, ?_, by rw [Int.natAbs_neg]; exact hz⟩
    rw [Rat.intCast_neg]; grind
theorem dt_whole {b : Nat} : ∀ {n : Nat} {c : Cs}, (∀ j, j < n → ∀ i, i < n → Wh b (c j i)) → Wh (fB b n) (dt n c)
  | 0, _, _ => ⟨1, rfl, Nat.le_refl 1⟩
  | n + 1, c, h => by
    rw [dt, fB]
    refine Wh.sum fun j hj => ?_
    refine Wh.mul (Wh.sgn (h j hj n (by omega))) (dt_whole fun q hq i hi => ?_)
    unfold skp
    by_cases c1 : q < j
    · rw [if_pos c1]; exact h q (by omega) i (by omega)
    · rw [if_neg c1]; exact h (q + 1) (by omega) i (by omega)
end Dm

set_option Elab.async false
set_option linter.all false
set_option maxRecDepth 100000
set_option maxHeartbeats 4000000
set_option autoImplicit false
namespace Dm
/-! ### clearing columns (rows i, columns j), over rational numbers -/
abbrev Mt := Nat → Nat → Rat
def gj (k : Nat) (R : Mt) : Mt := fun i j => if i = k then R k j / R k k else R i j - R i k * (R k j / R k k)
def gs (A : Mt) : Nat → Mt
  | 0 => A
  | k + 1 => gj k (gs A k)
/-- the product of the pivots -/
def dd (A : Mt) : Nat → Rat
  | 0 => 1
  | k + 1 => dd A k * gs A k k k
/-- the columns are put together from the first ones and what is left -/
theorem gs_dec {A : Mt} : ∀ {k : Nat}, (∀ o, o < k → gs A o o o ≠ 0) → ∀ r j, A r j = (sr k fun l => A r l * gs A k l j) + if k ≤ r then gs A k r j else 0
  | 0, _, r, j => by rw [sr, if_pos (Nat.zero_le r), gs]; grind
  | k + 1, h, r, j => by
    have hk := h k (by omega)
    have ih := gs_dec (k := k) (fun o ho => h o (by omega)) r
    have e1 : sr k (fun l => A r l * gs A (k + 1) l j) = (sr k fun l => A r l * gs A k l j) + (sr k fun l => A r l * gs A k l k) * (-(gs A k k j / gs A k k k)) := by
      rw [← sr_mul, ← sr_add]
      refine sr_congr fun l hl => ?_
      rw [gs, gj, if_neg (by omega)]; grind
    have hj := ih j
    have hkk := ih k
    rw [sr, e1]
    have e2 : gs A (k + 1) k j = gs A k k j / gs A k k k := by rw [gs, gj, if_pos rfl]
    rw [e2]
    by_cases c1 : k + 1 ≤ r
    · rw [if_pos c1]
      rw [if_pos (by omega)] at hj hkk
      have e3 : gs A (k + 1) r j = gs A k r j - gs A k r k * (gs A k k j / gs A k k k) := by rw [gs, gj, if_neg (by omega)]
      rw [e3]
      grind
    · rw [if_neg c1]
      by_cases c2 : r = k
      · subst c2
        rw [if_pos (Nat.le_refl _)] at hj hkk
        grind
      · rw [if_neg (by omega)] at hj hkk
        grind
/-- the leading minors -/
def mn (A : Mt) (k : Nat) : Rat := dt k fun j i => A i j
theorem mn_row {A : Mt} {k r j : Nat} (h : ∀ o, o < k → gs A o o o ≠ 0) (hr : k ≤ r) : dt (k + 1) (fun q i => A (if i = k then r else i) (if q = k then j else q)) = gs A k r j * mn A k := by
  have hd := gs_dec h
  have e : (fun q i => A (if i = k then r else i) (if q = k then j else q)) = up (fun q i => A (if i = k then r else i) q) k (fun i => A (if i = k then r else i) j) := by
    funext q i
    unfold up
    by_cases c1 : q = k
    · rw [if_pos c1, if_pos c1]
    · rw [if_neg c1, if_neg c1]
  have e2 : dt (k + 1) (up (fun q i => A (if i = k then r else i) q) k (fun i => A (if i = k then r else i) j)) = dt (k + 1) (up (fun q i => A (if i = k then r else i) q) k (fun i => (if i = k then gs A k r j else 0) + 1 * sr k fun l => (fun q i => A (if i = k then r else i) q) l i * gs A k l j)) := by
    refine dt_congr fun q hq i hi => ?_
    unfold up
    by_cases c1 : q = k
    · rw [if_pos c1, if_pos c1]
      have := hd (if i = k then r else i) j
      by_cases c2 : i = k
      · simp only [if_pos c2] at this ⊢
        rw [if_pos hr] at this
        grind
      · simp only [if_neg c2] at this ⊢
        rw [if_neg (by omega)] at this
        grind
    · rw [if_neg c1, if_neg c1]
  rw [e, e2, dt_add _ _ 1 (by omega), dt_last, dt_off (fun l => gs A k l j) (by omega) (Nat.le_refl k)]
  have e3 : dt k (fun q i => A (if i = k then r else i) q) = mn A k := dt_congr fun q hq i hi => by rw [if_neg (by omega)]
  rw [e3]; grind
theorem mn_col {A : Mt} {k p j : Nat} (h : ∀ o, o < k → gs A o o o ≠ 0) (hp : p < k) : dt k (fun q i => A i (if q = p then j else q)) = gs A k p j * mn A k := by
  have hd := gs_dec h
  have e2 : dt k (fun q i => A i (if q = p then j else q)) = dt k (up (fun q i => A i q) p (fun i => sr k fun l => (fun q i => A i q) l i * gs A k l j)) := by
    refine dt_congr fun q hq i hi => ?_
    unfold up
    by_cases c1 : q = p
    · rw [if_pos c1, if_pos c1]
      have := hd i j
      rw [if_neg (by omega)] at this
      grind
    · rw [if_neg c1, if_neg c1]
  rw [e2, dt_cramer (fun l => gs A k l j) hp (Nat.le_refl k)]
  rfl
theorem mn_dd {A : Mt} : ∀ {k : Nat}, (∀ o, o < k → gs A o o o ≠ 0) → mn A k = dd A k
  | 0, _ => rfl
  | k + 1, h => by
    rw [dd, ← mn_dd fun o ho => h o (by omega)]
    have := mn_row (A := A) (r := k) (j := k) (fun o ho => h o (by omega)) (Nat.le_refl k)
    have e : mn A (k + 1) = dt (k + 1) (fun q i => A (if i = k then k else i) (if q = k then k else q)) := by
      refine dt_congr fun q hq i hi => ?_
      have e1 : (if i = k then k else i) = i := by split <;> omega
      have e2 : (if q = k then k else q) = q := by split <;> omega
      rw [e1, e2]
    rw [e, this]; grind
/-- what stands in the rows is whole -/
theorem gs_whole {b n : Nat} {A : Mt} (hA : ∀ i, i < n → ∀ j, j < n + 1 → Wh b (A i j)) {k : Nat} (hk : k ≤ n) (h : ∀ o, o < k → gs A o o o ≠ 0) : Wh (fB b k) (dd A k) ∧ ∀ i, i < n → ∀ j, j < n + 1 → Wh (fB b k) (dd A k * gs A k i j) ∨ Wh (fB b (k + 1)) (dd A k * gs A k i j) := by
  rw [← mn_dd h]
  refine ⟨dt_whole fun j hj i hi => hA i (by omega) j (by omega), fun i hi j hj => ?_⟩
  by_cases c : i < k
  · refine .inl ?_
    rw [Rat.mul_comm, ← mn_col h c]
    refine dt_whole fun q hq i' hi' => hA i' (by omega) _ ?_
    split <;> omega
  · refine .inr ?_
    rw [Rat.mul_comm, ← mn_row h (by omega)]
    refine dt_whole fun q hq i' hi' => hA _ ?_ _ ?_
    · split <;> omega
    · split <;> omega
/-! ### rows that lose less than they hold -/
def bel (n k : Nat) (f : Nat → Rat) : Rat := sr n fun i => if k ≤ i then f i else 0
theorem bel_succ {n k : Nat} (f : Nat → Rat) (h : k < n) : bel n k f = f k + bel n (k + 1) f := by
  unfold bel
  have e : (fun i => if k ≤ i then f i else 0) = fun i => (if i = k then f i else 0) + if k + 1 ≤ i then f i else 0 := by
    funext i
    rcases Nat.lt_trichotomy i k with c | c | c
    · rw [if_neg (by omega), if_neg (by omega), if_neg (by omega)]; grind
    · rw [if_pos (by omega), if_pos c, if_neg (by omega)]; grind
    · rw [if_pos (by omega), if_neg (by omega), if_pos (by omega)]; grind
  rw [e, sr_add, sr_one h fun i hi hne => if_neg hne, if_pos rfl]
structure Go (n k : Nat) (R : Mt) : Prop where
  off : ∀ i, i < n → ∀ j, k ≤ j → j < n → i ≠ j → R i j ≤ 0
  rhs : ∀ i, i < n → 0 < R i n
  col : ∀ j, k ≤ j → j < n → 0 < bel n k fun i => R i j
theorem Go.piv {n k : Nat} {R : Mt} (h : Go n k R) (hk : k < n) : 0 < R k k := by
  have h1 := h.col k (Nat.le_refl k) hk
  rw [bel_succ _ hk] at h1
  have h2 : bel n (k + 1) (fun i => R i k) ≤ sr n fun _ => 0 := by
    refine sr_le fun i hi => ?_
    by_cases c : k + 1 ≤ i
    · rw [if_pos c]; exact h.off i hi k (Nat.le_refl k) hk (by omega)
    · rw [if_neg c]; exact Rat.le_refl
  rw [sr_zero n fun i _ => rfl] at h2
  grind
theorem div_nn {a b : Rat} (h : 0 ≤ a) (h2 : 0 < b) : 0 ≤ a / b := by
  rw [Rat.div_def]
  exact Rat.mul_nonneg h (Rat.le_of_lt (Rat.inv_pos.mpr h2))
theorem div_ps {a b : Rat} (h : 0 < a) (h2 : 0 < b) : 0 < a / b := by
  rw [Rat.div_def]
  exact Rat.mul_pos h (Rat.inv_pos.mpr h2)
theorem Go.next {n k : Nat} {R : Mt} (h : Go n k R) (hk : k < n) : Go n (k + 1) (gj k R) := by
  have hp := h.piv hk
  have hne : R k k ≠ 0 := fun z => by grind
  have hv : ∀ j, k + 1 ≤ j → j < n → 0 ≤ -(R k j / R k k) := fun j h1 h2 => by
    have := h.off k hk j (by omega) h2 (by omega)
    have h3 := div_nn (a := -(R k j)) (by grind) hp
    have e : -(R k j) / R k k = -(R k j / R k k) := by rw [Rat.div_def, Rat.div_def]; grind
    rw [← e]; exact h3
  refine ⟨fun i hi j h1 h2 hne2 => ?_, fun i hi => ?_, fun j h1 h2 => ?_⟩
  · have h3 := hv j h1 h2
    unfold gj
    by_cases c : i = k
    · rw [if_pos c]; grind
    · rw [if_neg c]
      have h4 := h.off i hi j (by omega) h2 hne2
      have h5 := h.off i hi k (Nat.le_refl k) hk c
      have h6 := Rat.mul_nonneg (show 0 ≤ -(R i k) by grind) h3
      have e : -(R i k) * -(R k j / R k k) = R i k * (R k j / R k k) := by grind
      rw [e] at h6
      grind
  · unfold gj
    have h1 := h.rhs k hk
    have h2 := div_ps h1 hp
    by_cases c : i = k
    · rw [if_pos c]; exact h2
    · rw [if_neg c]
      have h4 := h.rhs i hi
      have h5 := h.off i hi k (Nat.le_refl k) hk c
      have h6 := Rat.mul_nonneg (show 0 ≤ -(R i k) by grind) (Rat.le_of_lt h2)
      have e : -(R i k) * (R k n / R k k) = -(R i k * (R k n / R k k)) := by grind
      rw [e] at h6
      grind
  · have h3 := hv j h1 h2
    have e : bel n (k + 1) (fun i => gj k R i j) = bel n (k + 1) (fun i => R i j) + bel n (k + 1) (fun i => R i k) * (-(R k j / R k k)) := by
      unfold bel
      rw [← sr_mul, ← sr_add]
      refine sr_congr fun i hi => ?_
      by_cases c : k + 1 ≤ i
      · rw [if_pos c, if_pos c, if_pos c]
        unfold gj
        dsimp only
        rw [if_neg (by omega)]; grind
      · rw [if_neg c, if_neg c, if_neg c]; grind
    have hj := h.col j (by omega) h2
    have hkc := h.col k (Nat.le_refl k) hk
    rw [bel_succ _ hk] at hj hkc
    rw [e]
    have e2 : R k k * (R k j / R k k) = R k j := by rw [Rat.mul_comm]; exact Rat.div_mul_cancel hne
    have h7 := Rat.mul_nonneg (Rat.le_of_lt hkc) h3
    generalize bel n (k + 1) (fun i => R i j) = X at *
    generalize bel n (k + 1) (fun i => R i k) = Y at *
    generalize R k j / R k k = v at *
    have e3 : (R k k + Y) * -v = Y * -v - R k k * v := by grind
    rw [e3, e2] at h7
    grind
theorem gs_go {n : Nat} {A : Mt} (h : Go n 0 A) : ∀ k, k ≤ n → Go n k (gs A k)
  | 0, _ => h
  | k + 1, hk => (gs_go h k (by omega)).next (by omega)
theorem gs_piv {n : Nat} {A : Mt} (h : Go n 0 A) {k : Nat} (hk : k ≤ n) : (∀ o, o < k → gs A o o o ≠ 0) ∧ 0 < dd A k := by
  refine ⟨fun o ho z => ?_, ?_⟩
  · have := (gs_go h o (by omega)).piv (by omega)
    rw [z] at this
    exact Rat.lt_irrefl this
  · induction k with
    | zero => rw [dd]; decide
    | succ k ih =>
      rw [dd]
      exact Rat.mul_pos (ih (by omega)) ((gs_go h k (by omega)).piv (by omega))
/-- the last column solves the rows -/
theorem gs_end {n : Nat} {A : Mt} (h : Go n 0 A) : (∀ i, i < n → 0 < gs A n i n) ∧ ∀ r, r < n → sr n (fun l => A r l * gs A n l n) = A r n := by
  refine ⟨(gs_go h n (Nat.le_refl n)).rhs, fun r hr => ?_⟩
  have := gs_dec (gs_piv h (Nat.le_refl n)).1 r n
  rw [if_neg (by omega)] at this
  grind
end Dm

set_option Elab.async false
set_option linter.all false
set_option maxRecDepth 100000
set_option maxHeartbeats 4000000
set_option autoImplicit false
namespace DL
open PySem PySem.Spec PySem.W L2 PyProof.Rows PyProof.V
/-! ### sum of a list or of a tuple of ints -/
def rSumA (K : PySem.W.Frag) : List V → Hp → VK → Prop := fun vs H Q => ∃ (a : Addr) (ns : List Int), vs = [V.ref a] ∧ (SqL K H a (ns.map V.int) ∨ SqT K H a (ns.map V.int)) ∧ Q (.int ns.sum) H
theorem cr_sumA {X : Cx} (hc : X.calm = true) : CallR X (.builtin "sum") (rSumA X.K) := by
  intro pins s σ H vs us Q I r h
  obtain ⟨a, ns, rfl, hs, q⟩ := h
  rcases hs with hs | hs
  · exact cr_sum hc pins s σ H _ us Q I r ⟨a, ns, rfl, hs, q⟩
  · obtain ⟨its, rv, hl, _⟩ := I.tuple hs
    rw [Vals.ref1 r]
    have hi : IntsAre its ns := rv.ints
    obtain ⟨xs, hx⟩ := hi.allInts.items
    have hn : numsOf its.toArray.toList = ns := by rw [show its.toArray.toList = its from rfl, hi.numsOf]
    have hl2 : s.heap.IsTuple a its.toArray := hl
    rw [hx] at hl2 hn
    rw [nums_intItems] at hn
    refine ktm_sumG (I.ok.hd hc) hl2 fun h' tk t' hk => ⟨.int _, H, I.kept hk, ⟨_, rfl⟩, ?_⟩
    rw [preSum_eq, List.take_of_length_le (by simp), hn]
    exact q
def rdSumA : List PyData → (Rv → Prop) → Prop
  | [.list xs], Q => ∃ ns : List Int, xs = ns.map PyData.int ∧ Q (.d (.int ns.sum))
  | [.tuple xs], Q => ∃ ns : List Int, xs = ns.map PyData.int ∧ Q (.d (.int ns.sum))
  | _, _ => False
theorem bd_sumA {X : Cx} (hc : X.calm = true) : BD X (.builtin "sum") rdSumA := by
  refine ⟨_, cr_sumA hc, fun H W vs xs Q Qd hw r q k => ?_⟩
  unfold rdSumA at q
  split at q
  · obtain ⟨v, rfl, p, ws, rfl, s, d⟩ := dqall1 r
    obtain ⟨ns, rfl, q⟩ := q
    rw [d.ints] at s
    exact ⟨p, ns, rfl, .inl s, k.int q⟩
  · obtain ⟨v, rfl, d⟩ := dqall1 r
    obtain ⟨ns, rfl, q⟩ := q
    cases d with
    | tup s d =>
      rw [d.ints] at s
      exact ⟨_, ns, rfl, .inr (same_t hw_same s), k.int q⟩
  · exact q.elim
end DL

set_option Elab.async false
set_option linter.all false
set_option maxRecDepth 100000
set_option maxHeartbeats 4000000
set_option autoImplicit false
namespace Dlk23
open PySem PySem.Spec L2 DL
/-! sums over labels -/
def sm : List Nat → (Nat → Rat) → Rat
  | [], _ => 0
  | i :: r, f => f i + sm r f
/-! ### shares: rational numbers -/
def pr (a b : Int) : PyData := .tuple [.int a, .int b]
def fr (q : Rat) : PyData := pr q.num q.den
/-- numbers of at most b bits -/
def Sm (b : Nat) (i : Int) : Prop := i.natAbs < 2 ^ b
def Rs (b : Nat) (q : Rat) : Prop := Sm b q.num ∧ Sm b q.den
def absQ (q : Rat) : Rat := if q < 0 then -q else q
/-- two shares, each with a divisor of at least 1 -/
def Two (a b c d : Int) : Prop := (Sm 5600 a ∧ Sm 5600 b ∧ Sm 5600 c ∧ Sm 5600 d) ∧ 0 < b ∧ 0 < d
abbrev sp2 (f : Rat → Rat → Rat) : FD := fun args Q => ∃ a b c d : Int, args = [.d (pr a b), .d (pr c d)] ∧ Two a b c d ∧ ∀ os, Q (.d (fr (f (Rat.divInt a b) (Rat.divInt c d)))) os
abbrev spOver : FD := fun args Q => ∃ a b c d : Int, args = [.d (pr a b), .d (pr c d)] ∧ Two a b c d ∧ 0 < c ∧ ∀ os, Q (.d (fr (Rat.divInt a b / Rat.divInt c d))) os
abbrev spLess : FD := fun args Q => ∃ a b c d : Int, args = [.d (pr a b), .d (pr c d)] ∧ Two a b c d ∧ ∀ os, Q (.d (.bool (decide (Rat.divInt a b < Rat.divInt c d)))) os
abbrev spLow : FD := fun args Q => ∃ a b : Int, args = [.d (.int a), .d (.int b)] ∧ (Sm 12900 a ∧ Sm 12900 b) ∧ 0 < b ∧ ∀ os, Q (.d (fr (Rat.divInt a b))) os
abbrev sp_lowest : FD := spLow
abbrev sp_law_s_lowest : FD := spLow
abbrev sp_plus : FD := sp2 (· + ·)
abbrev sp_minus : FD := sp2 (· - ·)
abbrev sp_times : FD := sp2 (· * ·)
abbrev sp_over : FD := spOver
abbrev sp_law_s_plus : FD := sp2 (· + ·)
abbrev sp_law_s_times : FD := sp2 (· * ·)
abbrev sp_law_s_gcd : FD := fun args Q => ∃ a b : Int, args = [.d (.int a), .d (.int b)] ∧ 0 ≤ b ∧ ∀ os, Q (.d (.int (Int.gcd a b))) os
abbrev sp_law_s_less : FD := spLess
def sumQ (ps : List Rat) : Rat := ps.foldl (· + ·) 0
/-- a list of at most 13 shares of at most 400 bits -/
abbrev spAdded : FD := fun args Q => ∃ (ps : List Rat), args = [.d (.list (ps.map fr))] ∧ ps.length ≤ 13 ∧ (∀ q ∈ ps, Rs 400 q) ∧ ∀ os, Q (.d (fr (sumQ ps))) os
abbrev sp_added : FD := spAdded
abbrev sp_law_s_sum : FD := spAdded
/-! ### tables -/
abbrev Tab := List (Int × List Int)
def tupI (ns : List Int) : PyData := .tuple (ns.map .int)
def lnD (l : Int × List Int) : PyData := .tuple [.int l.1, tupI l.2]
def tbD (tab : Tab) : PyData := .tuple (tab.map lnD)
def LeadOk (m : Nat) (i : Int) (ns : List Int) : Prop := ns.Pairwise (· < ·) ∧ ∀ j ∈ ns, 0 ≤ j ∧ j < m ∧ j ≠ i
def TabOk (m : Nat) (tab : Tab) : Prop := tab.length = m ∧ (1 ≤ m ∧ m ≤ 12) ∧ ∀ (i : Nat) l, tab[i]? = some l → (1 ≤ l.1 ∧ l.1 ≤ 9) ∧ LeadOk m i l.2
def sumS (tab : Tab) : Int := (tab.map (·.1)).sum
def anewQ (tab : Tab) (j : Nat) : Rat := Rat.divInt ((tab[j]?).getD (0, [])).1 (sumS tab)
def onQ (tab : Tab) (i j : Nat) : Rat := let ns := ((tab[i]?).getD (0, [])).2
  if ns = [] then anewQ tab j else if (j : Int) ∈ ns then Rat.divInt 1 ns.length else 0
def stepQ (f : Rat) (tab : Tab) (i j : Nat) : Rat := (1 - f) * anewQ tab j + f * onQ tab i j
/-- the share that goes on: between 0 and 1 -/
def Fol (f : Rat) : Prop := 0 < f ∧ f < 1 ∧ f.den ≤ 20
abbrev sp_start_sum : FD := fun args Q => ∃ m tab, args = [.d (tbD tab)] ∧ TabOk m tab ∧ ∀ os, Q (.d (.int (sumS tab))) os
abbrev sp_anew : FD := fun args Q => ∃ m tab, ∃ j : Nat, args = [.d (tbD tab), .d (.int j)] ∧ TabOk m tab ∧ j < m ∧ ∀ os, Q (.d (fr (anewQ tab j))) os
abbrev sp_law_s_anew : FD := sp_anew
abbrev sp_on : FD := fun args Q => ∃ m tab, ∃ i j : Nat, args = [.d (tbD tab), .d (.int i), .d (.int j)] ∧ TabOk m tab ∧ i < m ∧ j < m ∧ ∀ os, Q (.d (fr (onQ tab i j))) os
abbrev sp_law_s_on : FD := sp_on
abbrev sp_law_b_follow : FD := fun args Q => ∃ tp, args = [.l tp] ∧ TapeOk tp ∧ ∀ q tp' os, Fol q → TapeOk tp' → os 0 = some (.l tp') → Q (.d (fr q)) os
abbrev sp_law_b_web : FD := fun args Q => ∃ tp, ∃ m : Nat, args = [.l tp, .d (.int m)] ∧ (1 ≤ m ∧ m ≤ 12) ∧ TapeOk tp ∧ ∀ tab tp' os, TabOk m tab → TapeOk tp' → os 0 = some (.l tp') → Q (.d (tbD tab)) os
/-! ### numbers of pages -/
def tupN (S : List Nat) : PyData := .tuple (S.map fun i : Nat => .int i)
def NumOk (n : Nat) (xs : List Int) : Prop := xs.length = n ∧ ∀ x ∈ xs, 0 < x ∧ Sm 200 x
def nx (xs : List Int) (i : Nat) : Int := (xs[i]?).getD 0
def wt (xs : List Int) (i : Nat) : Rat := Rat.divInt (nx xs i) xs.sum
def ld (tab : Tab) (i : Nat) : List Int := ((tab[i]?).getD (0, [])).2
def leadTo (tab : Tab) (j : Nat) : List Nat := (List.range tab.length).filter fun i => decide ((j : Int) ∈ ld tab i)
def dead (tab : Tab) : List Nat := (List.range tab.length).filter fun i => decide (ld tab i = [])
def Spots (n : Nat) (S : List Nat) : Prop := S.Pairwise (· < ·) ∧ ∀ i ∈ S, i < n
def rest (n : Nat) (S : List Nat) : List Nat := (List.range n).filter fun i => decide (i ∉ S)
def freshQ (f : Rat) (tab : Tab) (xs : List Int) : Rat := (1 - f) + f * sm (dead tab) (wt xs)
def bringsD (f : Rat) (tab : Tab) (xs : List Int) (j : Nat) : PyData := .tuple [fr (wt xs j), fr (anewQ tab j * freshQ f tab xs), .tuple ((leadTo tab j).map fun i : Nat => .tuple [.int i, fr (wt xs i * (f * onQ tab i j))])]
def flowQ (tab : Tab) (xs : List Int) (S T : List Nat) : Rat := sm S fun i => wt xs i * sm T (onQ tab i)
def balD (tab : Tab) (xs : List Int) (S : List Nat) : PyData := .tuple [fr (sm S (wt xs)), fr (sm S (anewQ tab)), fr (flowQ tab xs (rest tab.length S) S), fr (flowQ tab xs S (rest tab.length S))]
def lowQ (f : Rat) (tab : Tab) (j : Nat) : Rat := (1 - f) * anewQ tab j
def highQ (f : Rat) (tab : Tab) (j : Nat) : Rat := (lowQ f tab j + f) / (1 + f * (1 - onQ tab j j))
def extD (f : Rat) (tab : Tab) (j : Nat) : PyData := .tuple [fr (lowQ f tab j), fr (highQ f tab j)]
/-- the numbers stand as the steps carry them -/
def Std (f : Rat) (tab : Tab) (xs : List Int) : Prop := ∀ j, j < tab.length → sm (List.range tab.length) (fun i => wt xs i * stepQ f tab i j) = wt xs j
abbrev sp_leading_to : FD := fun args Q => ∃ m tab, ∃ j : Nat, args = [.d (tbD tab), .d (.int j)] ∧ TabOk m tab ∧ ∀ os, Q (.d (tupN (leadTo tab j))) os
abbrev sp_dead_ends : FD := fun args Q => ∃ m tab, args = [.d (tbD tab)] ∧ TabOk m tab ∧ ∀ os, Q (.d (tupN (dead tab))) os
abbrev sp_weight_of : FD := fun args Q => ∃ (n : Nat) (xs : List Int) (S : List Nat), args = [.d (tupI xs), .d (tupN S)] ∧ NumOk n xs ∧ (1 ≤ n ∧ n ≤ 12) ∧ (S.length ≤ 12 ∧ ∀ i ∈ S, i < n) ∧ ∀ os, Q (.d (fr (sm S (wt xs)))) os
abbrev sp_restarting : FD := fun args Q => ∃ f m tab xs, args = [.d (fr f), .d (tbD tab), .d (tupI xs)] ∧ Fol f ∧ TabOk m tab ∧ NumOk m xs ∧ ∀ os, Q (.d (fr (freshQ f tab xs))) os
abbrev spBrings : FD := fun args Q => ∃ f m tab xs, ∃ j : Nat, args = [.d (fr f), .d (tbD tab), .d (tupI xs), .d (.int j)] ∧ Fol f ∧ TabOk m tab ∧ NumOk m xs ∧ j < m ∧ ∀ os, Q (.d (bringsD f tab xs j)) os
abbrev sp_brings : FD := spBrings
abbrev sp_law_brings_due : FD := spBrings
abbrev sp_flow : FD := fun args Q => ∃ (m : Nat) (tab : Tab) (xs : List Int) (S T : List Nat) (d e : PyData), args = [.d (tbD tab), .d (tupI xs), .d d, .d e] ∧ TabOk m tab ∧ NumOk m xs ∧ Spots m S ∧ Spots m T ∧ (d = tupN S ∨ d = .list (S.map fun i : Nat => .int i)) ∧ (e = tupN T ∨ e = .list (T.map fun i : Nat => .int i)) ∧ ∀ os, Q (.d (fr (flowQ tab xs S T))) os
abbrev sp_balance : FD := fun args Q => ∃ f m tab xs, ∃ S : List Nat, args = [.d f, .d (tbD tab), .d (tupI xs), .d (tupN S)] ∧ TabOk m tab ∧ NumOk m xs ∧ Spots m S ∧ ∀ os, Q (.d (balD tab xs S)) os
abbrev sp_law_balance_due : FD := fun args Q => ∃ m tab xs, ∃ S : List Nat, args = [.d (tbD tab), .d (tupI xs), .d (tupN S)] ∧ TabOk m tab ∧ NumOk m xs ∧ Spots m S ∧ ∀ os, Q (.d (balD tab xs S)) os
abbrev sp_law_into : FD := fun args Q => ∃ m tab, ∃ (i : Nat) (S : List Nat), args = [.d (tbD tab), .d (.int i), .d (tupN S)] ∧ TabOk m tab ∧ i < m ∧ Spots m S ∧ ∀ os, Q (.d (fr (sm S (onQ tab i)))) os
abbrev spExt : FD := fun args Q => ∃ f m tab, ∃ j : Nat, args = [.d (fr f), .d (tbD tab), .d (.int j)] ∧ Fol f ∧ TabOk m tab ∧ j < m ∧ ∀ os, Q (.d (extD f tab j)) os
abbrev sp_extremes : FD := spExt
abbrev sp_law_extremes_due : FD := spExt
/-- the greatest number that divides all -/
def G (xs : List Int) : Nat := xs.foldl (fun g x => Int.gcd g x) 0
abbrev sp_law_s_parts : FD := fun args Q => ∃ f m tab, args = [.d (fr f), .d (tbD tab)] ∧ Fol f ∧ TabOk m tab ∧ ∀ xs os, NumOk m xs → Std f tab xs → G xs = 1 → Q (.d (tupI xs)) os
abbrev sp_law_b_changed : FD := fun args Q => ∃ tp m tab, args = [.l tp, .d (tbD tab)] ∧ TabOk m tab ∧ TapeOk tp ∧ ∀ tab' tp' os, TabOk m tab' → TapeOk tp' → os 0 = some (.l tp') → Q (.d (tbD tab')) os
inductive Due : Str → PyData → PyData → PyData → PyData → PyData → Prop
  | brings (f : Rat) (m : Nat) (tab : Tab) (xs : List Int) (j : Nat) : Fol f → TabOk m tab → NumOk m xs → j < m → Due "brings" (fr f) (tbD tab) (tupI xs) (.int j) (bringsD f tab xs j)
  | balance (f : Rat) (m : Nat) (tab : Tab) (xs : List Int) (S : List Nat) : Fol f → TabOk m tab → NumOk m xs → Spots m S → Due "balance" (fr f) (tbD tab) (tupI xs) (tupN S) (balD tab xs S)
  | ext (f : Rat) (m : Nat) (tab : Tab) (xs : List Int) (j : Nat) : Fol f → TabOk m tab → NumOk m xs → j < m → Due "extremes" (fr f) (tbD tab) (tupI xs) (.int j) (extD f tab j)
abbrev sp_law_told : FD := fun args Q => ∃ w a b c d e, args = [.d (.str w), .d a, .d b, .d c, .d d] ∧ Due w a b c d e ∧ ∀ os, Q (.d e) os
def CaseOk (c : PyData) : Prop := ∃ w x y z s e, c = .tuple [.str w, x, y, z, s, e] ∧ Due w x y z s e
abbrev sp_law_right : FD := fun args Q => ∃ c, args = [.d c] ∧ CaseOk c ∧ ∀ os, Q (.d (.bool true)) os
abbrev sp_law_cases : FD := fun args Q => ∃ f m tab, ∃ S : List Nat, args = [.d (fr f), .d (tbD tab), .d (tupN S)] ∧ Fol f ∧ TabOk m tab ∧ Spots m S ∧ ∀ cs os, (∀ c ∈ cs, CaseOk c) → (1 ≤ cs.length ∧ cs.length ≤ 25) → Q (.l cs) os
abbrev sp_law_between : FD := fun args Q => ∃ f m tab xs, ∃ j : Nat, args = [.d (fr f), .d (tbD tab), .d (tupI xs), .d (.int j)] ∧ Fol f ∧ TabOk m tab ∧ NumOk m xs ∧ j < m ∧ Std f tab xs ∧ ∀ os, Q (.d (.bool true)) os
abbrev sp_law_balanced : FD := fun args Q => ∃ f m tab xs, ∃ S : List Nat, args = [.d (fr f), .d (tbD tab), .d (tupI xs), .d (tupN S)] ∧ Fol f ∧ TabOk m tab ∧ NumOk m xs ∧ Spots m S ∧ Std f tab xs ∧ ∀ os, Q (.d (.bool true)) os
abbrev sp_law_tape : FD := spTape
abbrev sp_law_draw : FD := spDraw
abbrev sp_law_pick : FD := spPick
abbrev sp_law_turns : FD := spTurns
abbrev sp_law_same : FD := spSameD 6
abbrev sp_law : FD := fun args Q => ∃ ns : List Int, args = [.d (.list (ns.map .int))] ∧ ∀ os, Q (.d (.bool true)) os
end Dlk23

set_option Elab.async false
set_option linter.all false
set_option maxRecDepth 100000
set_option maxHeartbeats 0
set_option autoImplicit false
namespace Dlk23
open PySem PySem.Spec L2 DL
def t_lowest : TDS := (tdSeq (tdSetD 2 (tdB rdGcd (tdCons (tdV 0) (tdCons (tdV 1) tdNil))))
  (tdRet ([], []) (tdTup (tdCons (tdBin rdDivP (tdV 0) (tdV 2)) (tdCons (tdBin rdDivP (tdV 1) (tdV 2)) tdNil)))))
def t_start_sum : TDS := (tdRet ([], []) (tdB rdSumA (tdCons (tdLc (tdIt (tdV 0)) (gcTup 2 (gcCons (gcName 1) (gcCons (gcName 2) gcNil))) tdYes (tdV 1) [1, 2]) tdNil)))
def t_leading_to : TDS := (tdRet ([], []) (tdB rdTuple (tdCons (tdLc (tdEnum2 (tdCons (tdV 0) tdNil)) (gcTup 2 (gcCons (gcName 2) (gcCons (gcTup 2 (gcCons (gcName 3) (gcCons (gcName 4) gcNil))) gcNil))) (tdTest (tdBin rdIn (tdV 1) (tdV 4))) (tdV 2) [2, 3, 4]) tdNil)))
def t_dead_ends : TDS := (tdRet ([], []) (tdB rdTuple (tdCons (tdLc (tdEnum2 (tdCons (tdV 0) tdNil)) (gcTup 2 (gcCons (gcName 1) (gcCons (gcTup 2 (gcCons (gcName 2) (gcCons (gcName 3) gcNil))) gcNil))) (tdTest (tdBin rdEq (tdV 3) (tdTup tdNil))) (tdV 1) [1, 2, 3]) tdNil)))
def t_law_tape : TDS := (tdSeq (tdSetD 1 (tdC (.int 7)))
  (tdSeq (tdFor (tdIt (tdV 0)) (gdName 2) (tdSetD 1 (tdBin rdMod (tdB rdInt (tdCons (tdBin rdAdd (tdBin rdMul (tdV 1) (tdC (.int 31))) (tdB rdAbs (tdCons (tdB rdInt (tdCons (tdV 2) tdNil)) tdNil))) tdNil)) (tdC (.int 2147483647)))))
  (tdRet ([], []) (tdLst (tdCons (tdB rdList (tdCons (tdV 0) tdNil)) (tdCons (tdC (.int 0)) (tdCons (tdC (.int 0)) (tdCons (tdV 1) tdNil))))))))
def t_law_draw : TDS := (tdSeq (tdIfS (tdTest (tdBin rdEq (tdBin rdIx (tdV 0) (tdC (.int 2))) (tdC (.int 0)))) (tdSeq (tdSetD 2 (tdBin rdIx (tdV 0) (tdC (.int 1))))
  (tdSeq (tdSetD 3 (tdC (.int 0)))
  (tdSeq (tdIfS (tdTest (tdBin (rdCmp fun i j => decide (i < j)) (tdV 2) (tdB rdLen (tdCons (tdBin rdIx (tdV 0) (tdC (.int 0))) tdNil)))) (tdSetD 3 (tdB rdAbs (tdCons (tdB rdInt (tdCons (tdBin rdIx (tdBin rdIx (tdV 0) (tdC (.int 0))) (tdV 2)) tdNil)) tdNil))) (tdSeq (tdSetIx 0 (tdC (.int 3)) (tdBin rdMod (tdB rdInt (tdCons (tdBin rdAdd (tdBin rdAdd (tdBin rdMul (tdBin rdIx (tdV 0) (tdC (.int 3))) (tdC (.int 48271))) (tdV 2)) (tdC (.int 1))) tdNil)) (tdC (.int 2147483647))))
  (tdSetD 3 (tdBin rdIx (tdV 0) (tdC (.int 3))))))
  (tdSeq (tdSetIx 0 (tdC (.int 1)) (tdBin rdAdd (tdV 2) (tdC (.int 1))))
  (tdSeq (tdIfS (tdTest (tdBin (rdCmp fun i j => decide (i < j)) (tdV 3) (tdBin rdPow (tdC (.int 10)) (tdC (.int 18))))) (tdSeq (tdSetD 3 (tdBin rdMod (tdB rdInt (tdCons (tdBin rdAdd (tdBin rdAdd (tdBin rdMul (tdV 3) (tdC (.int 48271))) (tdBin rdMul (tdV 2) (tdC (.int 69621)))) (tdC (.int 5))) tdNil)) (tdC (.int 2147483647))))
  (tdSeq (tdSetD 3 (tdBin rdMod (tdB rdInt (tdCons (tdBin rdMul (tdV 3) (tdC (.int 69621))) tdNil)) (tdC (.int 2147483629))))
  (tdRet ([0], []) (tdBin rdMod (tdB rdInt (tdCons (tdV 3) tdNil)) (tdB rdMax2 (tdCons (tdV 1) (tdCons (tdC (.int 1)) tdNil))))))) tdNext)
  (tdSetIx 0 (tdC (.int 2)) (tdV 3))))))) tdNext)
  (tdSeq (tdSetD 3 (tdBin rdIx (tdV 0) (tdC (.int 2))))
  (tdSeq (tdSetIx 0 (tdC (.int 2)) (tdBin rdDiv (tdV 3) (tdB rdMax2 (tdCons (tdV 1) (tdCons (tdC (.int 2)) tdNil)))))
  (tdRet ([0], []) (tdBin rdMod (tdB rdInt (tdCons (tdV 3) tdNil)) (tdB rdMax2 (tdCons (tdV 1) (tdCons (tdC (.int 1)) tdNil))))))))
def t_law_s_gcd : TDS := (tdSeq (tdWhile (tdTest (tdBin rdNe (tdV 1) (tdC (.int 0)))) (tdSeq (tdSetD 2 (tdBin rdMod (tdB rdInt (tdCons (tdV 0) tdNil)) (tdB rdInt (tdCons (tdV 1) tdNil))))
  (tdSeq (tdSetD 0 (tdV 1))
  (tdSetD 1 (tdV 2)))))
  (tdRet ([], []) (tdB rdAbs (tdCons (tdV 0) tdNil))))
def t_law_s_less : TDS := (tdRet ([], []) (tdBin (rdCmp fun i j => decide (i < j)) (tdBin rdMulW (tdBin rdIx (tdV 0) (tdC (.int 0))) (tdBin rdIx (tdV 1) (tdC (.int 1)))) (tdBin rdMulW (tdBin rdIx (tdV 1) (tdC (.int 0))) (tdBin rdIx (tdV 0) (tdC (.int 1))))))
def t_plus : TDS := (tdRet ([], []) (tdCall ([], []) 2 sp_lowest (tdCons (tdBin rdAdd (tdBin rdMulW (tdBin rdIx (tdV 0) (tdC (.int 0))) (tdBin rdIx (tdV 1) (tdC (.int 1)))) (tdBin rdMulW (tdBin rdIx (tdV 1) (tdC (.int 0))) (tdBin rdIx (tdV 0) (tdC (.int 1))))) (tdCons (tdBin rdMulW (tdBin rdIx (tdV 0) (tdC (.int 1))) (tdBin rdIx (tdV 1) (tdC (.int 1)))) tdNil))))
def t_minus : TDS := (tdRet ([], []) (tdCall ([], []) 2 sp_lowest (tdCons (tdBin rdSub (tdBin rdMulW (tdBin rdIx (tdV 0) (tdC (.int 0))) (tdBin rdIx (tdV 1) (tdC (.int 1)))) (tdBin rdMulW (tdBin rdIx (tdV 1) (tdC (.int 0))) (tdBin rdIx (tdV 0) (tdC (.int 1))))) (tdCons (tdBin rdMulW (tdBin rdIx (tdV 0) (tdC (.int 1))) (tdBin rdIx (tdV 1) (tdC (.int 1)))) tdNil))))
def t_times : TDS := (tdRet ([], []) (tdCall ([], []) 2 sp_lowest (tdCons (tdBin rdMulW (tdBin rdIx (tdV 0) (tdC (.int 0))) (tdBin rdIx (tdV 1) (tdC (.int 0)))) (tdCons (tdBin rdMulW (tdBin rdIx (tdV 0) (tdC (.int 1))) (tdBin rdIx (tdV 1) (tdC (.int 1)))) tdNil))))
def t_over : TDS := (tdRet ([], []) (tdCall ([], []) 2 sp_lowest (tdCons (tdBin rdMulW (tdBin rdIx (tdV 0) (tdC (.int 0))) (tdBin rdIx (tdV 1) (tdC (.int 1)))) (tdCons (tdBin rdMulW (tdBin rdIx (tdV 0) (tdC (.int 1))) (tdBin rdIx (tdV 1) (tdC (.int 0)))) tdNil))))
def t_anew : TDS := (tdRet ([], []) (tdCall ([], []) 2 sp_lowest (tdCons (tdBin rdIx (tdBin rdIx (tdV 0) (tdV 1)) (tdC (.int 0))) (tdCons (tdCall ([], []) 1 sp_start_sum (tdCons (tdV 0) tdNil)) tdNil))))
def t_weight_of : TDS := (tdRet ([], []) (tdCall ([], []) 2 sp_lowest (tdCons (tdB rdSumA (tdCons (tdLc (tdIt (tdV 1)) (gcName 2) tdYes (tdBin rdIx (tdV 0) (tdV 2)) [2]) tdNil)) (tdCons (tdB rdSumA (tdCons (tdV 0) tdNil)) tdNil))))
def t_law_pick : TDS := (tdRet ([0], []) (tdBin rdIx (tdV 1) (tdCall ([0], []) 2 sp_law_draw (tdCons (tdV 0) (tdCons (tdB rdLen (tdCons (tdV 1) tdNil)) tdNil)))))
def t_law_turns : TDS := (tdSeq (tdSet 2 (tdListRg (tdV 1)))
  (tdSeq (tdSet 3 (tdLst tdNil))
  (tdSeq (tdFor (tdRng1 (tdCons (tdV 1) tdNil)) (gdName 4) (tdDrop (tdM 3 rdAppend (tdCons (tdM 2 rdPopAt (tdCons (tdCall ([0], []) 2 sp_law_draw (tdCons (tdV 0) (tdCons (tdB rdLen (tdCons (tdV 2) tdNil)) tdNil))) tdNil)) tdNil))))
  (tdRet ([0], []) (tdSl (tdV 3) tdNoPart (tdPart (tdBin rdIx (tdLst (tdCons (tdV 1) (tdCons (tdV 1) (tdCons (tdC (.int 1)) tdNil)))) (tdCall ([0], []) 2 sp_law_draw (tdCons (tdV 0) (tdCons (tdC (.int 3)) tdNil))))))))))
def t_law_s_lowest : TDS := (tdSeq (tdSetD 2 (tdCall ([], []) 2 sp_law_s_gcd (tdCons (tdV 0) (tdCons (tdV 1) tdNil))))
  (tdRet ([], []) (tdTup (tdCons (tdBin rdDivP (tdV 0) (tdV 2)) (tdCons (tdBin rdDivP (tdV 1) (tdV 2)) tdNil)))))
def t_law_s_parts : TDS := (tdSeq (tdSetD 2 (tdB rdLen (tdCons (tdV 1) tdNil)))
  (tdSeq (tdSetD 3 (tdLc (tdIt (tdV 1)) (gcName 4) tdYes (tdB rdMax2 (tdCons (tdC (.int 1)) (tdCons (tdB rdLen (tdCons (tdBin rdIx (tdV 4) (tdC (.int 1))) tdNil)) tdNil))) [4]))
  (tdSeq (tdSet 5 (tdLst tdNil))
  (tdSeq (tdFor (tdRng1 (tdCons (tdV 2) tdNil)) (gdName 6) (tdSeq (tdSet 7 (tdLc (tdIt (tdV 1)) (gcName 4) tdYes (tdBin rdMulW (tdNeg (tdBin rdIx (tdV 0) (tdC (.int 0)))) (tdB rdInt (tdCons (tdBin rdIn (tdV 6) (tdBin rdIx (tdV 4) (tdC (.int 1)))) tdNil))) [4]))
  (tdSeq (tdSetIx 7 (tdV 6) (tdBin rdMulW (tdBin rdIx (tdV 0) (tdC (.int 1))) (tdBin rdIx (tdV 3) (tdV 6))))
  (tdDrop (tdM 5 rdAppend (tdCons (tdBin rdAdd (tdV 7) (tdLst (tdCons (tdBin rdIx (tdBin rdIx (tdV 1) (tdV 6)) (tdC (.int 0))) tdNil))) tdNil))))))
  (tdSeq (tdSetD 8 (tdC (.int 1)))
  (tdSeq (tdFor (tdRng1 (tdCons (tdV 2) tdNil)) (gdName 9) (tdSeq (tdSetD 10 (tdBin rdIx (tdV 5) (tdV 9)))
  (tdSeq (tdFor (tdRng1 (tdCons (tdV 2) tdNil)) (gdName 11) (tdSeq (tdSet 7 (tdBin rdIx (tdV 5) (tdV 11)))
  (tdIfS (tdTest (tdBin rdNe (tdV 11) (tdV 9))) (tdSetIx 5 (tdV 11) (tdLc (tdRng1 (tdCons (tdBin rdAdd (tdV 2) (tdC (.int 1))) tdNil)) (gcName 6) tdYes (tdBin rdDivP (tdBin rdSub (tdBin rdMulW (tdBin rdIx (tdV 7) (tdV 6)) (tdBin rdIx (tdV 10) (tdV 9))) (tdBin rdMulW (tdBin rdIx (tdV 7) (tdV 9)) (tdBin rdIx (tdV 10) (tdV 6)))) (tdV 8)) [6])) tdNext)))
  (tdSetD 8 (tdBin rdIx (tdV 10) (tdV 9))))))
  (tdSeq (tdSetD 12 (tdLc (tdRng1 (tdCons (tdV 2) tdNil)) (gcName 6) tdYes (tdBin rdMulW (tdBin rdIx (tdV 3) (tdV 6)) (tdBin rdIx (tdBin rdIx (tdV 5) (tdV 6)) (tdV 2))) [6]))
  (tdSeq (tdSetD 13 (tdC (.int 0)))
  (tdSeq (tdFor (tdIt (tdV 12)) (gdName 14) (tdSetD 13 (tdCall ([], []) 2 sp_law_s_gcd (tdCons (tdV 13) (tdCons (tdV 14) tdNil)))))
  (tdRet ([], []) (tdB rdTuple (tdCons (tdLc (tdIt (tdV 12)) (gcName 14) tdYes (tdBin rdDivP (tdV 14) (tdV 13)) [14]) tdNil))))))))))))
def t_law_b_changed : TDS := (tdSeq (tdSetD 2 (tdCall ([0], []) 2 sp_law_draw (tdCons (tdV 0) (tdCons (tdB rdLen (tdCons (tdV 1) tdNil)) tdNil))))
  (tdSeq (tdSetD 3 (tdCall ([0], []) 2 sp_law_draw (tdCons (tdV 0) (tdCons (tdB rdLen (tdCons (tdV 1) tdNil)) tdNil))))
  (tdSeq (tdAsg (tdBin rdIx (tdV 1) (tdV 2)) (gdTup 2 (gdCons (gdName 4) (gdCons (gdName 5) gdNil))))
  (tdSeq (tdIfS (tdOr (tdTest (tdBin rdEq (tdV 3) (tdV 2))) (tdTest (tdBin rdEq (tdCall ([0], []) 2 sp_law_draw (tdCons (tdV 0) (tdCons (tdC (.int 4)) tdNil))) (tdC (.int 0))))) (tdSetD 4 (tdBin rdAdd (tdC (.int 1)) (tdBin rdMod (tdB rdInt (tdCons (tdBin rdAdd (tdV 4) (tdCall ([0], []) 2 sp_law_draw (tdCons (tdV 0) (tdCons (tdC (.int 8)) tdNil)))) tdNil)) (tdC (.int 9))))) (tdIfS (tdTest (tdBin rdIn (tdV 3) (tdV 5))) (tdSetD 5 (tdB rdTuple (tdCons (tdLc (tdIt (tdV 5)) (gcName 6) (tdTest (tdBin rdNe (tdV 6) (tdV 3))) (tdV 6) [6]) tdNil))) (tdSetD 5 (tdB rdTuple (tdCons (tdB rdSorted (tdCons (tdBin rdAdd (tdB rdList (tdCons (tdV 5) tdNil)) (tdLst (tdCons (tdV 3) tdNil))) tdNil)) tdNil)))))
  (tdRet ([0], []) (tdBin rdAdd (tdBin rdAdd (tdSl (tdV 1) tdNoPart (tdPart (tdV 2))) (tdTup (tdCons (tdTup (tdCons (tdV 4) (tdCons (tdV 5) tdNil))) tdNil))) (tdSl (tdV 1) (tdPart (tdBin rdAdd (tdV 2) (tdC (.int 1)))) tdNoPart)))))))
def t_added : TDS := (tdSeq (tdSetD 1 (tdC (.tuple [.int 0, .int 1])))
  (tdSeq (tdFor (tdIt (tdV 0)) (gdName 2) (tdSetD 1 (tdCall ([], []) 2 sp_plus (tdCons (tdV 1) (tdCons (tdV 2) tdNil)))))
  (tdRet ([], []) (tdV 1))))
def t_on : TDS := (tdSeq (tdSetD 3 (tdBin rdIx (tdBin rdIx (tdV 0) (tdV 1)) (tdC (.int 1))))
  (tdSeq (tdIfS (tdTest (tdBin rdEq (tdV 3) (tdTup tdNil))) (tdRet ([], []) (tdCall ([], []) 2 sp_anew (tdCons (tdV 0) (tdCons (tdV 2) tdNil)))) tdNext)
  (tdSeq (tdIfS (tdTest (tdBin rdIn (tdV 2) (tdV 3))) (tdRet ([], []) (tdTup (tdCons (tdC (.int 1)) (tdCons (tdB rdLen (tdCons (tdV 3) tdNil)) tdNil)))) tdNext)
  (tdRet ([], []) (tdC (.tuple [.int 0, .int 1]))))))
def t_restarting : TDS := (tdRet ([], []) (tdCall ([], []) 2 sp_plus (tdCons (tdCall ([], []) 2 sp_minus (tdCons (tdC (.tuple [.int 1, .int 1])) (tdCons (tdV 0) tdNil))) (tdCons (tdCall ([], []) 2 sp_times (tdCons (tdV 0) (tdCons (tdCall ([], []) 2 sp_weight_of (tdCons (tdV 2) (tdCons (tdCall ([], []) 1 sp_dead_ends (tdCons (tdV 1) tdNil)) tdNil))) tdNil))) tdNil))))
def t_law_s_plus : TDS := (tdRet ([], []) (tdCall ([], []) 2 sp_law_s_lowest (tdCons (tdBin rdAdd (tdBin rdMulW (tdBin rdIx (tdV 0) (tdC (.int 0))) (tdBin rdIx (tdV 1) (tdC (.int 1)))) (tdBin rdMulW (tdBin rdIx (tdV 1) (tdC (.int 0))) (tdBin rdIx (tdV 0) (tdC (.int 1))))) (tdCons (tdBin rdMulW (tdBin rdIx (tdV 0) (tdC (.int 1))) (tdBin rdIx (tdV 1) (tdC (.int 1)))) tdNil))))
def t_law_s_times : TDS := (tdRet ([], []) (tdCall ([], []) 2 sp_law_s_lowest (tdCons (tdBin rdMulW (tdBin rdIx (tdV 0) (tdC (.int 0))) (tdBin rdIx (tdV 1) (tdC (.int 0)))) (tdCons (tdBin rdMulW (tdBin rdIx (tdV 0) (tdC (.int 1))) (tdBin rdIx (tdV 1) (tdC (.int 1)))) tdNil))))
def t_law_s_anew : TDS := (tdRet ([], []) (tdCall ([], []) 2 sp_law_s_lowest (tdCons (tdBin rdIx (tdBin rdIx (tdV 0) (tdV 1)) (tdC (.int 0))) (tdCons (tdB rdSumA (tdCons (tdLc (tdIt (tdV 0)) (gcName 2) tdYes (tdBin rdIx (tdV 2) (tdC (.int 0))) [2]) tdNil)) tdNil))))
def t_law_b_follow : TDS := (tdSeq (tdSetD 1 (tdCall ([0], []) 2 sp_law_pick (tdCons (tdV 0) (tdCons (tdLst (tdCons (tdC (.int 2)) (tdCons (tdC (.int 2)) (tdCons (tdC (.int 3)) (tdCons (tdC (.int 4)) (tdCons (tdC (.int 20)) (tdCons (tdBin rdAdd (tdC (.int 2)) (tdCall ([0], []) 2 sp_law_draw (tdCons (tdV 0) (tdCons (tdC (.int 19)) tdNil)))) tdNil))))))) tdNil))))
  (tdRet ([0], []) (tdCall ([], []) 2 sp_law_s_lowest (tdCons (tdBin rdAdd (tdC (.int 1)) (tdCall ([0], []) 2 sp_law_draw (tdCons (tdV 0) (tdCons (tdBin rdSub (tdV 1) (tdC (.int 1))) tdNil)))) (tdCons (tdV 1) tdNil)))))
def t_law_b_web : TDS := (tdSeq (tdSetD 2 (tdCall ([0], []) 2 sp_law_draw (tdCons (tdV 0) (tdCons (tdC (.int 9)) tdNil))))
  (tdSeq (tdSetD 3 (tdCall ([0], []) 2 sp_law_pick (tdCons (tdV 0) (tdCons (tdLst (tdCons (tdC (.int 1)) (tdCons (tdC (.int 1)) (tdCons (tdC (.int 3)) (tdCons (tdC (.int 9)) tdNil))))) tdNil))))
  (tdSeq (tdSetD 4 (tdCall ([0], []) 2 sp_law_draw (tdCons (tdV 0) (tdCons (tdV 1) tdNil))))
  (tdSeq (tdSet 5 (tdLst tdNil))
  (tdSeq (tdFor (tdRng1 (tdCons (tdV 1) tdNil)) (gdName 6) (tdSeq (tdSetD 7 (tdLc (tdRng1 (tdCons (tdV 1) tdNil)) (gcName 8) (tdTest (tdBin rdNe (tdV 8) (tdV 6))) (tdV 8) [8]))
  (tdSeq (tdSetD 9 (tdLc (tdIt (tdV 7)) (gcName 8) (tdTest (tdBin rdEq (tdCall ([0], []) 2 sp_law_draw (tdCons (tdV 0) (tdCons (tdC (.int 3)) tdNil))) (tdC (.int 0)))) (tdV 8) [8]))
  (tdSeq (tdIfS (tdTest (tdBin rdEq (tdV 2) (tdC (.int 0)))) (tdSetD 9 (tdLc (tdIt (tdV 7)) (gcName 8) (tdTest (tdBin rdEq (tdV 8) (tdBin rdMod (tdB rdInt (tdCons (tdBin rdAdd (tdV 6) (tdC (.int 1))) tdNil)) (tdV 1)))) (tdV 8) [8])) (tdIfS (tdAnd (tdTest (tdBin rdEq (tdV 2) (tdC (.int 1)))) (tdTest (tdBin rdNe (tdV 6) (tdV 4)))) (tdSetD 9 (tdLst (tdCons (tdV 4) tdNil))) (tdIfS (tdTest (tdBin rdEq (tdV 2) (tdC (.int 2)))) (tdSetD 9 (tdV 7)) (tdIfS (tdTest (tdBin rdEq (tdV 2) (tdC (.int 3)))) (tdSetD 9 (tdLc (tdIt (tdV 7)) (gcName 8) (tdTest (tdBin rdEq (tdBin rdDivP (tdV 8) (tdC (.int 2))) (tdBin rdDivP (tdV 6) (tdC (.int 2))))) (tdV 8) [8])) (tdIfS (tdTest (tdBin rdEq (tdV 2) (tdC (.int 4)))) (tdSetD 9 (tdLc (tdIt (tdV 9)) (gcName 8) (tdTest (tdBin rdNe (tdV 8) (tdV 4))) (tdV 8) [8])) tdNext)))))
  (tdSeq (tdIfS (tdAnd (tdTest (tdBin rdIn (tdV 2) (tdLst (tdCons (tdC (.int 4)) (tdCons (tdC (.int 5)) (tdCons (tdC (.int 6)) tdNil)))))) (tdTest (tdBin rdEq (tdB rdLen (tdCons (tdV 9) tdNil)) (tdC (.int 0))))) (tdSetD 9 (tdSl (tdLc (tdIt (tdV 7)) (gcName 8) (tdOr (tdTest (tdBin rdNe (tdV 8) (tdV 4))) (tdTest (tdBin (rdCmp fun i j => decide (j < i)) (tdV 2) (tdC (.int 4))))) (tdV 8) [8]) tdNoPart (tdPart (tdC (.int 1))))) tdNext)
  (tdDrop (tdM 5 rdAppend (tdCons (tdTup (tdCons (tdBin rdAdd (tdC (.int 1)) (tdCall ([0], []) 2 sp_law_draw (tdCons (tdV 0) (tdCons (tdV 3) tdNil)))) (tdCons (tdB rdTuple (tdCons (tdV 9) tdNil)) tdNil))) tdNil))))))))
  (tdRet ([0], []) (tdB rdTuple (tdCons (tdV 5) tdNil))))))))
def t_law_brings_due : TDS := (tdSeq (tdSetD 4 (tdB rdSumA (tdCons (tdV 2) tdNil)))
  (tdSeq (tdSetD 5 (tdB rdSumA (tdCons (tdLc (tdIt (tdV 1)) (gcName 6) tdYes (tdBin rdIx (tdV 6) (tdC (.int 0))) [6]) tdNil)))
  (tdSeq (tdSetD 7 (tdB rdSumA (tdCons (tdLc (tdRng1 (tdCons (tdB rdLen (tdCons (tdV 1) tdNil)) tdNil)) (gcName 8) (tdTest (tdBin rdEq (tdB rdLen (tdCons (tdBin rdIx (tdBin rdIx (tdV 1) (tdV 8)) (tdC (.int 1))) tdNil)) (tdC (.int 0)))) (tdBin rdIx (tdV 2) (tdV 8)) [8]) tdNil)))
  (tdSeq (tdSetD 9 (tdBin rdMulW (tdBin rdIx (tdBin rdIx (tdV 1) (tdV 3)) (tdC (.int 0))) (tdBin rdAdd (tdBin rdMulW (tdBin rdSub (tdBin rdIx (tdV 0) (tdC (.int 1))) (tdBin rdIx (tdV 0) (tdC (.int 0)))) (tdV 4)) (tdBin rdMulW (tdBin rdIx (tdV 0) (tdC (.int 0))) (tdV 7)))))
  (tdSeq (tdSet 10 (tdLst tdNil))
  (tdSeq (tdFor (tdRng1 (tdCons (tdB rdLen (tdCons (tdV 1) tdNil)) tdNil)) (gdName 8) (tdIfS (tdTest (tdBin rdIn (tdV 3) (tdBin rdIx (tdBin rdIx (tdV 1) (tdV 8)) (tdC (.int 1))))) (tdDrop (tdM 10 rdAppend (tdCons (tdTup (tdCons (tdV 8) (tdCons (tdCall ([], []) 2 sp_law_s_lowest (tdCons (tdBin rdMulW (tdBin rdIx (tdV 2) (tdV 8)) (tdBin rdIx (tdV 0) (tdC (.int 0)))) (tdCons (tdBin rdMulW (tdBin rdMulW (tdV 4) (tdBin rdIx (tdV 0) (tdC (.int 1)))) (tdB rdLen (tdCons (tdBin rdIx (tdBin rdIx (tdV 1) (tdV 8)) (tdC (.int 1))) tdNil))) tdNil))) tdNil))) tdNil))) tdNext))
  (tdRet ([], []) (tdTup (tdCons (tdCall ([], []) 2 sp_law_s_lowest (tdCons (tdBin rdIx (tdV 2) (tdV 3)) (tdCons (tdV 4) tdNil))) (tdCons (tdCall ([], []) 2 sp_law_s_lowest (tdCons (tdV 9) (tdCons (tdBin rdMulW (tdBin rdMulW (tdV 5) (tdV 4)) (tdBin rdIx (tdV 0) (tdC (.int 1)))) tdNil))) (tdCons (tdB rdTuple (tdCons (tdV 10) tdNil)) tdNil)))))))))))
def t_law_into : TDS := (tdSeq (tdIfS (tdTest (tdBin rdEq (tdB rdLen (tdCons (tdBin rdIx (tdBin rdIx (tdV 0) (tdV 1)) (tdC (.int 1))) tdNil)) (tdC (.int 0)))) (tdRet ([], []) (tdCall ([], []) 2 sp_law_s_lowest (tdCons (tdB rdSumA (tdCons (tdLc (tdIt (tdV 2)) (gcName 3) tdYes (tdBin rdIx (tdBin rdIx (tdV 0) (tdV 3)) (tdC (.int 0))) [3]) tdNil)) (tdCons (tdB rdSumA (tdCons (tdLc (tdIt (tdV 0)) (gcName 4) tdYes (tdBin rdIx (tdV 4) (tdC (.int 0))) [4]) tdNil)) tdNil)))) tdNext)
  (tdRet ([], []) (tdCall ([], []) 2 sp_law_s_lowest (tdCons (tdB rdLen (tdCons (tdLc (tdIt (tdBin rdIx (tdBin rdIx (tdV 0) (tdV 1)) (tdC (.int 1)))) (gcName 3) (tdTest (tdBin rdIn (tdV 3) (tdV 2))) (tdV 3) [3]) tdNil)) (tdCons (tdB rdLen (tdCons (tdBin rdIx (tdBin rdIx (tdV 0) (tdV 1)) (tdC (.int 1))) tdNil)) tdNil)))))
def t_brings : TDS := (tdSeq (tdSetD 4 (tdCall ([], []) 2 sp_times (tdCons (tdCall ([], []) 2 sp_anew (tdCons (tdV 1) (tdCons (tdV 3) tdNil))) (tdCons (tdCall ([], []) 3 sp_restarting (tdCons (tdV 0) (tdCons (tdV 1) (tdCons (tdV 2) tdNil)))) tdNil))))
  (tdSeq (tdSet 5 (tdLst tdNil))
  (tdSeq (tdFor (tdIt (tdCall ([], []) 2 sp_leading_to (tdCons (tdV 1) (tdCons (tdV 3) tdNil)))) (gdName 6) (tdSeq (tdSetD 7 (tdCall ([], []) 2 sp_times (tdCons (tdV 0) (tdCons (tdCall ([], []) 3 sp_on (tdCons (tdV 1) (tdCons (tdV 6) (tdCons (tdV 3) tdNil)))) tdNil))))
  (tdDrop (tdM 5 rdAppend (tdCons (tdTup (tdCons (tdV 6) (tdCons (tdCall ([], []) 2 sp_times (tdCons (tdCall ([], []) 2 sp_weight_of (tdCons (tdV 2) (tdCons (tdTup (tdCons (tdV 6) tdNil)) tdNil))) (tdCons (tdV 7) tdNil))) tdNil))) tdNil)))))
  (tdRet ([], []) (tdTup (tdCons (tdCall ([], []) 2 sp_weight_of (tdCons (tdV 2) (tdCons (tdTup (tdCons (tdV 3) tdNil)) tdNil))) (tdCons (tdV 4) (tdCons (tdB rdTuple (tdCons (tdV 5) tdNil)) tdNil))))))))
def t_flow : TDS := (tdSeq (tdSet 4 (tdLst tdNil))
  (tdSeq (tdFor (tdIt (tdV 2)) (gdName 5) (tdSeq (tdSetD 6 (tdCall ([], []) 1 sp_added (tdCons (tdLc (tdIt (tdV 3)) (gcName 7) tdYes (tdCall ([], []) 3 sp_on (tdCons (tdV 0) (tdCons (tdV 5) (tdCons (tdV 7) tdNil)))) [7]) tdNil)))
  (tdDrop (tdM 4 rdAppend (tdCons (tdCall ([], []) 2 sp_times (tdCons (tdCall ([], []) 2 sp_weight_of (tdCons (tdV 1) (tdCons (tdTup (tdCons (tdV 5) tdNil)) tdNil))) (tdCons (tdV 6) tdNil))) tdNil)))))
  (tdFr 4 (tdRet ([], []) (tdCall ([], []) 1 sp_added (tdCons (tdV 4) tdNil))))))
def t_extremes : TDS := (tdSeq (tdSetD 3 (tdCall ([], []) 2 sp_times (tdCons (tdCall ([], []) 2 sp_minus (tdCons (tdC (.tuple [.int 1, .int 1])) (tdCons (tdV 0) tdNil))) (tdCons (tdCall ([], []) 2 sp_anew (tdCons (tdV 1) (tdCons (tdV 2) tdNil))) tdNil))))
  (tdSeq (tdSetD 4 (tdCall ([], []) 2 sp_minus (tdCons (tdC (.tuple [.int 1, .int 1])) (tdCons (tdCall ([], []) 3 sp_on (tdCons (tdV 1) (tdCons (tdV 2) (tdCons (tdV 2) tdNil)))) tdNil))))
  (tdRet ([], []) (tdTup (tdCons (tdV 3) (tdCons (tdCall ([], []) 2 sp_over (tdCons (tdCall ([], []) 2 sp_plus (tdCons (tdV 3) (tdCons (tdV 0) tdNil))) (tdCons (tdCall ([], []) 2 sp_plus (tdCons (tdC (.tuple [.int 1, .int 1])) (tdCons (tdCall ([], []) 2 sp_times (tdCons (tdV 0) (tdCons (tdV 4) tdNil))) tdNil))) tdNil))) tdNil))))))
def t_law_s_sum : TDS := (tdSeq (tdSetD 1 (tdTup (tdCons (tdC (.int 0)) (tdCons (tdC (.int 1)) tdNil))))
  (tdSeq (tdFor (tdIt (tdV 0)) (gdName 2) (tdSetD 1 (tdCall ([], []) 2 sp_law_s_plus (tdCons (tdV 1) (tdCons (tdV 2) tdNil)))))
  (tdRet ([], []) (tdV 1))))
def t_law_s_on : TDS := (tdSeq (tdIfS (tdTest (tdBin rdEq (tdB rdLen (tdCons (tdBin rdIx (tdBin rdIx (tdV 0) (tdV 1)) (tdC (.int 1))) tdNil)) (tdC (.int 0)))) (tdRet ([], []) (tdCall ([], []) 2 sp_law_s_anew (tdCons (tdV 0) (tdCons (tdV 2) tdNil)))) tdNext)
  (tdSeq (tdIfS (tdTest (tdBin rdIn (tdV 2) (tdBin rdIx (tdBin rdIx (tdV 0) (tdV 1)) (tdC (.int 1))))) (tdRet ([], []) (tdTup (tdCons (tdC (.int 1)) (tdCons (tdB rdLen (tdCons (tdBin rdIx (tdBin rdIx (tdV 0) (tdV 1)) (tdC (.int 1))) tdNil)) tdNil)))) tdNext)
  (tdRet ([], []) (tdTup (tdCons (tdC (.int 0)) (tdCons (tdC (.int 1)) tdNil))))))
def t_law_balance_due : TDS := (tdSeq (tdSetD 3 (tdB rdSumA (tdCons (tdV 1) tdNil)))
  (tdSeq (tdSetD 4 (tdTup (tdCons (tdC (.int 0)) (tdCons (tdC (.int 1)) tdNil))))
  (tdSeq (tdSetD 5 (tdTup (tdCons (tdC (.int 0)) (tdCons (tdC (.int 1)) tdNil))))
  (tdSeq (tdFor (tdRng1 (tdCons (tdB rdLen (tdCons (tdV 0) tdNil)) tdNil)) (gdName 6) (tdSeq (tdSetD 7 (tdTup (tdCons (tdBin rdIx (tdV 1) (tdV 6)) (tdCons (tdV 3) tdNil))))
  (tdSeq (tdSetD 8 (tdCall ([], []) 3 sp_law_into (tdCons (tdV 0) (tdCons (tdV 6) (tdCons (tdV 2) tdNil)))))
  (tdIfS (tdTest (tdBin rdIn (tdV 6) (tdV 2))) (tdSetD 5 (tdCall ([], []) 2 sp_law_s_plus (tdCons (tdV 5) (tdCons (tdCall ([], []) 2 sp_law_s_times (tdCons (tdV 7) (tdCons (tdTup (tdCons (tdBin rdSub (tdBin rdIx (tdV 8) (tdC (.int 1))) (tdBin rdIx (tdV 8) (tdC (.int 0)))) (tdCons (tdBin rdIx (tdV 8) (tdC (.int 1))) tdNil))) tdNil))) tdNil)))) (tdSetD 4 (tdCall ([], []) 2 sp_law_s_plus (tdCons (tdV 4) (tdCons (tdCall ([], []) 2 sp_law_s_times (tdCons (tdV 7) (tdCons (tdV 8) tdNil))) tdNil))))))))
  (tdSeq (tdSetD 9 (tdCall ([], []) 2 sp_law_s_lowest (tdCons (tdB rdSumA (tdCons (tdLc (tdIt (tdV 2)) (gcName 10) tdYes (tdBin rdIx (tdV 1) (tdV 10)) [10]) tdNil)) (tdCons (tdV 3) tdNil))))
  (tdRet ([], []) (tdTup (tdCons (tdV 9) (tdCons (tdCall ([], []) 2 sp_law_s_lowest (tdCons (tdB rdSumA (tdCons (tdLc (tdIt (tdV 2)) (gcName 10) tdYes (tdBin rdIx (tdBin rdIx (tdV 0) (tdV 10)) (tdC (.int 0))) [10]) tdNil)) (tdCons (tdB rdSumA (tdCons (tdLc (tdIt (tdV 0)) (gcName 11) tdYes (tdBin rdIx (tdV 11) (tdC (.int 0))) [11]) tdNil)) tdNil))) (tdCons (tdV 4) (tdCons (tdV 5) tdNil)))))))))))
def t_balance : TDS := (tdSeq (tdSetD 4 (tdLc (tdRng1 (tdCons (tdB rdLen (tdCons (tdV 1) tdNil)) tdNil)) (gcName 5) (tdTest (tdBin rdNotIn (tdV 5) (tdV 3))) (tdV 5) [5]))
  (tdSeq (tdSetD 6 (tdCall ([], []) 1 sp_added (tdCons (tdLc (tdIt (tdV 3)) (gcName 5) tdYes (tdCall ([], []) 2 sp_anew (tdCons (tdV 1) (tdCons (tdV 5) tdNil))) [5]) tdNil)))
  (tdSeq (tdSetD 7 (tdCall ([], []) 4 sp_flow (tdCons (tdV 1) (tdCons (tdV 2) (tdCons (tdV 4) (tdCons (tdV 3) tdNil))))))
  (tdSeq (tdSetD 8 (tdCall ([], []) 4 sp_flow (tdCons (tdV 1) (tdCons (tdV 2) (tdCons (tdV 3) (tdCons (tdV 4) tdNil))))))
  (tdRet ([], []) (tdTup (tdCons (tdCall ([], []) 2 sp_weight_of (tdCons (tdV 2) (tdCons (tdV 3) tdNil))) (tdCons (tdV 6) (tdCons (tdV 7) (tdCons (tdV 8) tdNil))))))))))
def t_law_extremes_due : TDS := (tdSeq (tdSetD 3 (tdCall ([], []) 2 sp_law_s_times (tdCons (tdTup (tdCons (tdBin rdSub (tdBin rdIx (tdV 0) (tdC (.int 1))) (tdBin rdIx (tdV 0) (tdC (.int 0)))) (tdCons (tdBin rdIx (tdV 0) (tdC (.int 1))) tdNil))) (tdCons (tdCall ([], []) 2 sp_law_s_anew (tdCons (tdV 1) (tdCons (tdV 2) tdNil))) tdNil))))
  (tdSeq (tdSetD 4 (tdCall ([], []) 3 sp_law_s_on (tdCons (tdV 1) (tdCons (tdV 2) (tdCons (tdV 2) tdNil)))))
  (tdSeq (tdSetD 5 (tdCall ([], []) 2 sp_law_s_plus (tdCons (tdV 3) (tdCons (tdV 0) tdNil))))
  (tdSeq (tdSetD 6 (tdCall ([], []) 2 sp_law_s_plus (tdCons (tdTup (tdCons (tdC (.int 1)) (tdCons (tdC (.int 1)) tdNil))) (tdCons (tdCall ([], []) 2 sp_law_s_times (tdCons (tdV 0) (tdCons (tdTup (tdCons (tdBin rdSub (tdBin rdIx (tdV 4) (tdC (.int 1))) (tdBin rdIx (tdV 4) (tdC (.int 0)))) (tdCons (tdBin rdIx (tdV 4) (tdC (.int 1))) tdNil))) tdNil))) tdNil))))
  (tdRet ([], []) (tdTup (tdCons (tdV 3) (tdCons (tdCall ([], []) 2 sp_law_s_lowest (tdCons (tdBin rdMulW (tdBin rdIx (tdV 5) (tdC (.int 0))) (tdBin rdIx (tdV 6) (tdC (.int 1)))) (tdCons (tdBin rdMulW (tdBin rdIx (tdV 5) (tdC (.int 1))) (tdBin rdIx (tdV 6) (tdC (.int 0)))) tdNil))) tdNil))))))))
def t_law_same (sp_law_same : FD) : TDS := (tdSeq (tdIfS (tdTest (tdIsi "tuple" (tdV 1))) (tdSeq (tdIfS (tdOr (tdNot (tdTest (tdIsi "tuple" (tdV 0)))) (tdTest (tdBin rdNe (tdB rdLen (tdCons (tdV 0) tdNil)) (tdB rdLen (tdCons (tdV 1) tdNil))))) (tdRet ([], []) (tdC (.bool false))) tdNext)
  (tdSeq (tdFor (tdRng1 (tdCons (tdB rdLen (tdCons (tdV 1) tdNil)) tdNil)) (gdName 2) (tdIfS (tdNot (tdTest (tdCall ([], []) 2 sp_law_same (tdCons (tdBin rdIx (tdV 0) (tdV 2)) (tdCons (tdBin rdIx (tdV 1) (tdV 2)) tdNil))))) (tdRet ([], []) (tdC (.bool false))) tdNext))
  (tdRet ([], []) (tdC (.bool true))))) tdNext)
  (tdSeq (tdIfS (tdOr (tdTest (tdIsN (tdV 1))) (tdTest (tdIsN (tdV 0)))) (tdRet ([], []) (tdAndV (tdIsN (tdV 1)) (tdIsN (tdV 0)))) tdNext)
  (tdSeq (tdIfS (tdTest (tdIsi "str" (tdV 1))) (tdRet ([], []) (tdAndV (tdIsi "str" (tdV 0)) (tdBin rdEq (tdV 0) (tdV 1)))) tdNext)
  (tdSeq (tdIfS (tdOr (tdTest (tdBin rdNe (tdIsi "bool" (tdV 0)) (tdIsi "bool" (tdV 1)))) (tdNot (tdTest (tdIsi "int" (tdV 0))))) (tdRet ([], []) (tdC (.bool false))) tdNext)
  (tdRet ([], []) (tdBin rdEq (tdV 0) (tdV 1)))))))
def t_law_told : TDS := (tdSeq (tdIfS (tdTest (tdBin rdEq (tdV 0) (tdC (.str ("brings" : Str))))) (tdRet ([], []) (tdCall ([], []) 4 sp_brings (tdCons (tdV 1) (tdCons (tdV 2) (tdCons (tdV 3) (tdCons (tdV 4) tdNil)))))) tdNext)
  (tdSeq (tdIfS (tdTest (tdBin rdEq (tdV 0) (tdC (.str ("balance" : Str))))) (tdRet ([], []) (tdCall ([], []) 4 sp_balance (tdCons (tdV 1) (tdCons (tdV 2) (tdCons (tdV 3) (tdCons (tdV 4) tdNil)))))) tdNext)
  (tdRet ([], []) (tdCall ([], []) 3 sp_extremes (tdCons (tdV 1) (tdCons (tdV 2) (tdCons (tdV 4) tdNil)))))))
def t_law_cases : TDS := (tdSeq (tdSetD 3 (tdCall ([], []) 2 sp_law_s_parts (tdCons (tdV 0) (tdCons (tdV 1) tdNil))))
  (tdSeq (tdSet 4 (tdLst (tdCons (tdTup (tdCons (tdC (.str ("balance" : Str))) (tdCons (tdV 0) (tdCons (tdV 1) (tdCons (tdV 3) (tdCons (tdV 2) (tdCons (tdCall ([], []) 3 sp_law_balance_due (tdCons (tdV 1) (tdCons (tdV 3) (tdCons (tdV 2) tdNil)))) tdNil))))))) tdNil)))
  (tdSeq (tdFor (tdRng1 (tdCons (tdB rdLen (tdCons (tdV 1) tdNil)) tdNil)) (gdName 5) (tdSeq (tdDrop (tdM 4 rdAppend (tdCons (tdTup (tdCons (tdC (.str ("brings" : Str))) (tdCons (tdV 0) (tdCons (tdV 1) (tdCons (tdV 3) (tdCons (tdV 5) (tdCons (tdCall ([], []) 4 sp_law_brings_due (tdCons (tdV 0) (tdCons (tdV 1) (tdCons (tdV 3) (tdCons (tdV 5) tdNil))))) tdNil))))))) tdNil)))
  (tdDrop (tdM 4 rdAppend (tdCons (tdTup (tdCons (tdC (.str ("extremes" : Str))) (tdCons (tdV 0) (tdCons (tdV 1) (tdCons (tdV 3) (tdCons (tdV 5) (tdCons (tdCall ([], []) 3 sp_law_extremes_due (tdCons (tdV 0) (tdCons (tdV 1) (tdCons (tdV 5) tdNil)))) tdNil))))))) tdNil)))))
  (tdRet ([], []) (tdV 4)))))
def t_law_right : TDS := (tdRet ([], []) (tdCall ([], []) 2 sp_law_same (tdCons (tdCall ([], []) 5 sp_law_told (tdCons (tdBin rdIx (tdV 0) (tdC (.int 0))) (tdCons (tdBin rdIx (tdV 0) (tdC (.int 1))) (tdCons (tdBin rdIx (tdV 0) (tdC (.int 2))) (tdCons (tdBin rdIx (tdV 0) (tdC (.int 3))) (tdCons (tdBin rdIx (tdV 0) (tdC (.int 4))) tdNil)))))) (tdCons (tdBin rdIx (tdV 0) (tdC (.int 5))) tdNil))))
def t_law_between : TDS := (tdSeq (tdSetD 4 (tdCall ([], []) 4 sp_brings (tdCons (tdV 0) (tdCons (tdV 1) (tdCons (tdV 2) (tdCons (tdV 3) tdNil))))))
  (tdSeq (tdSetD 5 (tdCall ([], []) 3 sp_extremes (tdCons (tdV 0) (tdCons (tdV 1) (tdCons (tdV 3) tdNil)))))
  (tdSeq (tdIfS (tdOr (tdNot (tdTest (tdCall ([], []) 2 sp_law_same (tdCons (tdV 4) (tdCons (tdCall ([], []) 4 sp_law_brings_due (tdCons (tdV 0) (tdCons (tdV 1) (tdCons (tdV 2) (tdCons (tdV 3) tdNil))))) tdNil))))) (tdNot (tdTest (tdCall ([], []) 2 sp_law_same (tdCons (tdV 5) (tdCons (tdCall ([], []) 3 sp_law_extremes_due (tdCons (tdV 0) (tdCons (tdV 1) (tdCons (tdV 3) tdNil)))) tdNil)))))) (tdRet ([], []) (tdC (.bool false))) tdNext)
  (tdSeq (tdAsg (tdV 5) (gdTup 2 (gdCons (gdName 6) (gdCons (gdName 7) gdNil))))
  (tdSeq (tdSetD 8 (tdBin rdNotIn (tdC (.bool true)) (tdLc (tdIt (tdV 1)) (gcName 9) tdYes (tdOrV (tdBin rdIn (tdV 3) (tdBin rdIx (tdV 9) (tdC (.int 1)))) (tdBin rdEq (tdB rdLen (tdCons (tdBin rdIx (tdV 9) (tdC (.int 1))) tdNil)) (tdC (.int 0)))) [9])))
  (tdSeq (tdSetD 10 (tdBin rdNotIn (tdC (.bool false)) (tdLc (tdRng1 (tdCons (tdB rdLen (tdCons (tdV 1) tdNil)) tdNil)) (gcName 11) (tdTest (tdBin rdNe (tdV 11) (tdV 3))) (tdBin rdEq (tdBin rdIx (tdBin rdIx (tdV 1) (tdV 11)) (tdC (.int 1))) (tdTup (tdCons (tdV 3) tdNil))) [11])))
  (tdSeq (tdIfS (tdOr (tdTest (tdCall ([], []) 2 sp_law_s_less (tdCons (tdBin rdIx (tdV 4) (tdC (.int 0))) (tdCons (tdV 6) tdNil)))) (tdOr (tdTest (tdCall ([], []) 2 sp_law_s_less (tdCons (tdV 7) (tdCons (tdBin rdIx (tdV 4) (tdC (.int 0))) tdNil)))) (tdOr (tdTest (tdBin rdNe (tdBin rdEq (tdBin rdIx (tdV 4) (tdC (.int 0))) (tdV 6)) (tdV 8))) (tdTest (tdBin rdNe (tdBin rdEq (tdBin rdIx (tdV 4) (tdC (.int 0))) (tdV 7)) (tdV 10)))))) (tdRet ([], []) (tdC (.bool false))) tdNext)
  (tdRet ([], []) (tdBin rdEq (tdCall ([], []) 1 sp_law_s_sum (tdCons (tdBin rdAdd (tdLst (tdCons (tdBin rdIx (tdV 4) (tdC (.int 1))) tdNil)) (tdLc (tdIt (tdBin rdIx (tdV 4) (tdC (.int 2)))) (gcName 12) tdYes (tdBin rdIx (tdV 12) (tdC (.int 1))) [12])) tdNil)) (tdBin rdIx (tdV 4) (tdC (.int 0))))))))))))
def t_law_balanced : TDS := (tdSeq (tdSetD 4 (tdCall ([], []) 4 sp_balance (tdCons (tdV 0) (tdCons (tdV 1) (tdCons (tdV 2) (tdCons (tdV 3) tdNil))))))
  (tdSeq (tdIfS (tdNot (tdTest (tdCall ([], []) 2 sp_law_same (tdCons (tdV 4) (tdCons (tdCall ([], []) 3 sp_law_balance_due (tdCons (tdV 1) (tdCons (tdV 2) (tdCons (tdV 3) tdNil)))) tdNil))))) (tdRet ([], []) (tdC (.bool false))) tdNext)
  (tdSeq (tdSetD 5 (tdTup (tdCons (tdBin rdSub (tdBin rdIx (tdV 0) (tdC (.int 1))) (tdBin rdIx (tdV 0) (tdC (.int 0)))) (tdCons (tdBin rdIx (tdV 0) (tdC (.int 1))) tdNil))))
  (tdSeq (tdSetD 6 (tdCall ([], []) 2 sp_law_s_plus (tdCons (tdCall ([], []) 2 sp_law_s_times (tdCons (tdV 5) (tdCons (tdBin rdIx (tdV 4) (tdC (.int 0))) tdNil))) (tdCons (tdCall ([], []) 2 sp_law_s_times (tdCons (tdV 0) (tdCons (tdBin rdIx (tdV 4) (tdC (.int 3))) tdNil))) tdNil))))
  (tdRet ([], []) (tdBin rdEq (tdV 6) (tdCall ([], []) 2 sp_law_s_plus (tdCons (tdCall ([], []) 2 sp_law_s_times (tdCons (tdV 5) (tdCons (tdBin rdIx (tdV 4) (tdC (.int 1))) tdNil))) (tdCons (tdCall ([], []) 2 sp_law_s_times (tdCons (tdV 0) (tdCons (tdBin rdIx (tdV 4) (tdC (.int 2))) tdNil))) tdNil)))))))))
def t_law : TDS := (tdSeq (tdSet 1 (tdCall ([], []) 1 sp_law_tape (tdCons (tdV 0) tdNil)))
  (tdSeq (tdSetD 2 (tdCall ([0], []) 1 sp_law_b_follow (tdCons (tdV 1) tdNil)))
  (tdSeq (tdSetD 3 (tdCall ([0], []) 2 sp_law_b_web (tdCons (tdV 1) (tdCons (tdCall ([0], []) 2 sp_law_pick (tdCons (tdV 1) (tdCons (tdLst (tdCons (tdC (.int 1)) (tdCons (tdC (.int 2)) (tdCons (tdC (.int 3)) (tdCons (tdC (.int 3)) (tdCons (tdC (.int 4)) (tdCons (tdC (.int 4)) (tdCons (tdC (.int 6)) (tdCons (tdC (.int 8)) tdNil))))))))) tdNil))) tdNil))))
  (tdSeq (tdIfS (tdTest (tdBin rdEq (tdCall ([0], []) 2 sp_law_draw (tdCons (tdV 1) (tdCons (tdC (.int 16)) tdNil))) (tdC (.int 0)))) (tdSeq (tdSetD 2 (tdCall ([0], []) 2 sp_law_pick (tdCons (tdV 1) (tdCons (tdLst (tdCons (tdTup (tdCons (tdC (.int 1)) (tdCons (tdC (.int 2)) tdNil))) (tdCons (tdTup (tdCons (tdC (.int 2)) (tdCons (tdC (.int 3)) tdNil))) (tdCons (tdTup (tdCons (tdC (.int 3)) (tdCons (tdC (.int 4)) tdNil))) tdNil)))) tdNil))))
  (tdSetD 3 (tdCall ([0], []) 2 sp_law_b_web (tdCons (tdV 1) (tdCons (tdBin rdAdd (tdC (.int 9)) (tdCall ([0], []) 2 sp_law_draw (tdCons (tdV 1) (tdCons (tdC (.int 4)) tdNil)))) tdNil))))) tdNext)
  (tdSeq (tdSetD 4 (tdB rdLen (tdCons (tdV 3) tdNil)))
  (tdSeq (tdSetD 5 (tdCall ([0], []) 2 sp_law_draw (tdCons (tdV 1) (tdCons (tdC (.int 6)) tdNil))))
  (tdSeq (tdSetD 6 (tdB rdTuple (tdCons (tdLc (tdRng1 (tdCons (tdV 4) tdNil)) (gcName 7) (tdOr (tdTest (tdBin rdEq (tdV 5) (tdC (.int 0)))) (tdAnd (tdTest (tdBin (rdCmp fun i j => decide (j < i)) (tdV 5) (tdC (.int 1)))) (tdTest (tdBin rdEq (tdCall ([0], []) 2 sp_law_draw (tdCons (tdV 1) (tdCons (tdC (.int 2)) tdNil))) (tdC (.int 0)))))) (tdV 7) [7]) tdNil)))
  (tdSeq (tdSetD 8 (tdB rdTuple (tdCons (tdLc (tdRng1 (tdCons (tdV 4) tdNil)) (gcName 7) (tdTest (tdBin rdEq (tdCall ([0], []) 2 sp_law_draw (tdCons (tdV 1) (tdCons (tdC (.int 2)) tdNil))) (tdC (.int 0)))) (tdV 7) [7]) tdNil)))
  (tdSeq (tdSetD 9 (tdCall ([], []) 3 sp_law_cases (tdCons (tdV 2) (tdCons (tdV 3) (tdCons (tdV 6) tdNil)))))
  (tdSeq (tdSetD 10 (tdBin rdAdd (tdCall ([], []) 3 sp_law_cases (tdCons (tdV 2) (tdCons (tdCall ([0], []) 2 sp_law_b_changed (tdCons (tdV 1) (tdCons (tdV 3) tdNil))) (tdCons (tdV 6) tdNil)))) (tdSl (tdCall ([], []) 3 sp_law_cases (tdCons (tdTup (tdCons (tdC (.int 1)) (tdCons (tdC (.int 3)) tdNil))) (tdCons (tdV 3) (tdCons (tdV 8) tdNil)))) tdNoPart (tdPart (tdC (.int 4))))))
  (tdSeq (tdFor (tdIt (tdCall ([0], []) 2 sp_law_turns (tdCons (tdV 1) (tdCons (tdB rdLen (tdCons (tdV 9) tdNil)) tdNil)))) (gdName 11) (tdIfS (tdNot (tdTest (tdCall ([], []) 1 sp_law_right (tdCons (tdBin rdIx (tdV 9) (tdV 11)) tdNil)))) (tdRet ([], []) (tdC (.bool false))) tdNext))
  (tdSeq (tdFor (tdIt (tdV 10)) (gdName 12) (tdIfS (tdNot (tdTest (tdCall ([], []) 1 sp_law_right (tdCons (tdV 12) tdNil)))) (tdRet ([], []) (tdC (.bool false))) tdNext))
  (tdSeq (tdSetD 13 (tdCall ([], []) 2 sp_law_s_parts (tdCons (tdV 2) (tdCons (tdV 3) tdNil))))
  (tdSeq (tdFor (tdRng1 (tdCons (tdV 4) tdNil)) (gdName 7) (tdIfS (tdNot (tdTest (tdCall ([], []) 4 sp_law_between (tdCons (tdV 2) (tdCons (tdV 3) (tdCons (tdV 13) (tdCons (tdV 7) tdNil))))))) (tdRet ([], []) (tdC (.bool false))) tdNext))
  (tdRet ([], []) (tdCall ([], []) 4 sp_law_balanced (tdCons (tdV 2) (tdCons (tdV 3) (tdCons (tdV 13) (tdCons (tdV 6) tdNil))))))))))))))))))))
end Dlk23

set_option Elab.async false
set_option linter.all false
set_option maxRecDepth 100000
set_option maxHeartbeats 4000000
set_option autoImplicit false
namespace Dlk23
open PySem PySem.Spec L2 DL
local macro_rules | `(tactic| walk_at "go") => `(tactic| simp only [outE_i, outE_n, sz0, sz1, sz2, sz3, sz4, sz5, sz6, sz7, sz8, sz9, sz10, sz11, sz12, sz13, sz14, sz15, sz16, ↓tdFr, ↓frE, ↓rdDivmod, ↓rdNotIn, ↓tdTru, ↓rdMulW, ↓rdGcd, ↓rdRgV, ↓tdRgI, ↓tdEnum2, ↓tdZip2, ↓tdPar, ↓tdRevA, ↓tdRevR, ↓rdDivP, ↓tdTupRg, ↓startE, ↓tdSeq, ↓tdSet, ↓tdSetD, ↓tdDrop, ↓tdRet, ↓tdIfS, ↓tdNext, ↓tdAsg, ↓tdV, ↓tdC, ↓tdBin, ↓tdB, ↓tdCons, ↓tdNil, ↓tdTup, ↓tdLst, ↓tdTest, ↓tdAnd, ↓tdOr, ↓tdNot, ↓tdIf, ↓tdAndV, ↓tdOrV, ↓tdNotV, ↓tdNeg, ↓tdIsN, ↓tdNotN, ↓tdSl, ↓tdPart, ↓tdNoPart, ↓tdM, ↓tdSetIx, ↓tdAug, ↓tdPut, ↓tdGet2, ↓tdIsi, ↓tdListRg, ↓gdName, ↓gdNil, ↓gdCons, ↓gdTup, ↓tdIt, ↓tdRng1, ↓tdRng2, ↓tdCall, ↓tdNew, ↓tdJoin, ↓gcName, ↓gcNil, ↓gcCons, ↓gcTup, ↓tdYes, ↓res, ↓resR, ↓resAll, ↓rvD, ↓rdLen, ↓rdInt, ↓rdAbs, ↓rdMax2, ↓rdMin2, ↓rdOrd, ↓rdTuple, ↓rdList, ↓rdIx, ↓rdAdd, ↓rdSub, ↓rdMul, ↓rdMod, ↓rdDiv, ↓rdPow, ↓rdCmp, ↓rdEq, ↓rdNe, ↓rdIadd, ↓rdIn, ↓rdSorted, ↓rdSl, ↓isT, ↓rdAppend, ↓itemsOf, ↓rvOf, ↓argsOf, ↓argOf, Nat.reduceAdd, Nat.reduceLT, Nat.reduceSub, Int.reduceLT, Int.reduceLE, Int.reduceAdd, Int.reduceEq, Int.reduceNeg, Nat.reduceLeDiff, Nat.zero_add, Nat.reduceEqDiff, Nat.reduceBEq, ix41, ix42, ix43, ix40, List.length_cons, List.length_nil, List.map_cons, List.map_nil, List.replicate, List.cons_append, List.nil_append, List.getElem?_cons_zero, List.getElem?_cons_succ, List.set_cons_zero, List.set_cons_succ, Option.map_some, at0, at1, at2, at3, ix0, ix1, ix2, ix3, sh_int, sh_bl, sh_non, eqv_int, eqv_bl, eqv_str, decide_eq_true_eq, Bool.not_eq_true, Bool.not_true, Bool.not_false, Bool.false_eq_true, true_and, and_true, if_true, if_false, ite_true, ite_false, List.length_map, List.length_set, Sl.isD, List.mem_singleton, List.mem_cons, List.not_mem_nil, not_true_eq_false, not_false_eq_true, or_false])
local macro_rules | `(tactic| nomatch $xs,*) => `(tactic| simp only [$[$xs:term],*, outE_i, outE_n, sz0, sz1, sz2, sz3, sz4, sz5, sz6, sz7, sz8, sz9, sz10, sz11, sz12, sz13, sz14, sz15, sz16, ↓tdFr, ↓frE, ↓rdDivmod, ↓rdNotIn, ↓tdTru, ↓rdMulW, ↓rdGcd, ↓rdRgV, ↓tdRgI, ↓tdEnum2, ↓tdZip2, ↓tdPar, ↓tdRevA, ↓tdRevR, ↓rdDivP, ↓tdTupRg, ↓startE, ↓tdSeq, ↓tdSet, ↓tdSetD, ↓tdDrop, ↓tdRet, ↓tdIfS, ↓tdNext, ↓tdAsg, ↓tdV, ↓tdC, ↓tdBin, ↓tdB, ↓tdCons, ↓tdNil, ↓tdTup, ↓tdLst, ↓tdTest, ↓tdAnd, ↓tdOr, ↓tdNot, ↓tdIf, ↓tdAndV, ↓tdOrV, ↓tdNotV, ↓tdNeg, ↓tdIsN, ↓tdNotN, ↓tdSl, ↓tdPart, ↓tdNoPart, ↓tdM, ↓tdSetIx, ↓tdAug, ↓tdPut, ↓tdGet2, ↓tdIsi, ↓tdListRg, ↓gdName, ↓gdNil, ↓gdCons, ↓gdTup, ↓tdIt, ↓tdRng1, ↓tdRng2, ↓tdCall, ↓tdNew, ↓tdJoin, ↓gcName, ↓gcNil, ↓gcCons, ↓gcTup, ↓tdYes, ↓res, ↓resR, ↓resAll, ↓rvD, ↓rdLen, ↓rdInt, ↓rdAbs, ↓rdMax2, ↓rdMin2, ↓rdOrd, ↓rdTuple, ↓rdList, ↓rdIx, ↓rdAdd, ↓rdSub, ↓rdMul, ↓rdMod, ↓rdDiv, ↓rdPow, ↓rdCmp, ↓rdEq, ↓rdNe, ↓rdIadd, ↓rdIn, ↓rdSorted, ↓rdSl, ↓isT, ↓rdAppend, ↓itemsOf, ↓rvOf, ↓argsOf, ↓argOf, Nat.reduceAdd, Nat.reduceLT, Nat.reduceSub, Int.reduceLT, Int.reduceLE, Int.reduceAdd, Int.reduceEq, Int.reduceNeg, Nat.reduceLeDiff, Nat.zero_add, Nat.reduceEqDiff, Nat.reduceBEq, ix41, ix42, ix43, ix40, List.length_cons, List.length_nil, List.map_cons, List.map_nil, List.replicate, List.cons_append, List.nil_append, List.getElem?_cons_zero, List.getElem?_cons_succ, List.set_cons_zero, List.set_cons_succ, Option.map_some, at0, at1, at2, at3, ix0, ix1, ix2, ix3, sh_int, sh_bl, sh_non, eqv_int, eqv_bl, eqv_str, decide_eq_true_eq, Bool.not_eq_true, Bool.not_true, Bool.not_false, Bool.false_eq_true, true_and, and_true, if_true, if_false, ite_true, ite_false, List.length_map, List.length_set, Sl.isD, List.mem_singleton, List.mem_cons, List.not_mem_nil, not_true_eq_false, not_false_eq_true, or_false])
/-! ### the mathematics of shares -/
theorem pow_le {a b : Nat} (h : a ≤ b) : 2 ^ a ≤ 2 ^ b := Nat.pow_le_pow_right (by decide) h
theorem Sm.mono {a b : Nat} {i : Int} (h : Sm a i) (l : a ≤ b) : Sm b i := Nat.lt_of_lt_of_le h (pow_le l)
theorem Sm.mul {a b : Nat} {i j : Int} (h : Sm a i) (h2 : Sm b j) : Sm (a + b) (i * j) := by
  unfold Sm at *
  rw [Int.natAbs_mul, Nat.pow_add]
  exact Nat.mul_lt_mul'' h h2
theorem Sm.add {a : Nat} {i j : Int} (h : Sm a i) (h2 : Sm a j) : Sm (a + 1) (i + j) := by
  unfold Sm at *
  rw [Nat.pow_succ]
  have := Int.natAbs_add_le i j
  omega
theorem Sm.neg {a : Nat} {i : Int} (h : Sm a i) : Sm a (-i) := by unfold Sm at *; rw [Int.natAbs_neg]; exact h
theorem Sm.log {a : Nat} {i : Int} (h : Sm a i) (ha : 0 < a) : i.natAbs.log2 < a := by
  by_cases c : i.natAbs = 0
  · rw [c, show Nat.log2 0 = 0 by decide]; exact ha
  · exact (Nat.log2_lt c).mpr h
theorem sm_of {b : Nat} {i : Int} (n : Nat) (h0 : -(n : Int) ≤ i) (h1 : i ≤ n) (hn : n < 2 ^ b) : Sm b i := by
  unfold Sm
  omega
theorem cm {a b : Int} (h : Sm 5600 a) (h2 : Sm 5600 b) : CMulW a b := by
  have := h.log (by decide)
  have := h2.log (by decide)
  show _ + _ < 1000000
  omega
theorem gcd_div {n d x : Int} (hd : 0 < d) (hx : Sm 12900 x) : CDivP x ((Nat.gcd n.natAbs d.natAbs : Nat) : Int) := by
  have h1 : 0 < Nat.gcd n.natAbs d.natAbs := Nat.gcd_pos_of_pos_right _ (by omega)
  generalize Nat.gcd n.natAbs d.natAbs = g at h1
  by_cases c : ((g : Nat) : Int).natAbs.log2 < 9000
  · exact ⟨by omega, PyProof.noPylong_of_log2 c⟩
  · refine divp_ok (by omega) ?_
    have b1 := PyProof.Rows.intBits_le hx
    have b2 : 9000 ≤ Builtin.Int.intBits ((g : Nat) : Int) := by
      refine Nat.not_lt.mp fun z => c ?_
      unfold Builtin.Int.intBits at z
      split at z
      · rename_i e
        rw [show ((g : Nat) : Int).natAbs = 0 by simpa using e]; decide
      · omega
    omega
theorem low_eq {n d : Int} (hd : 0 < d) : PyData.tuple [.int (n / ((Nat.gcd n.natAbs d.natAbs : Nat) : Int)), .int (d / ((Nat.gcd n.natAbs d.natAbs : Nat) : Int))] = fr (Rat.divInt n d) := by
  unfold fr pr
  have e1 : Int.gcd d n = Nat.gcd n.natAbs d.natAbs := by rw [Int.gcd_comm]; rfl
  rw [Rat.num_divInt, Rat.den_divInt, if_neg (by omega), e1, Int.sign_eq_one_of_pos hd, Int.one_mul]
  have e2 : ((d.natAbs / Nat.gcd n.natAbs d.natAbs : Nat) : Int) = d / ((Nat.gcd n.natAbs d.natAbs : Nat) : Int) := by
    rw [Int.natCast_ediv, Int.natAbs_of_nonneg (by omega)]
  rw [e2]
theorem fr_self (q : Rat) : Rat.divInt q.num q.den = q := Rat.num_divInt_den q
theorem den_pos (q : Rat) : (0 : Int) < q.den := by have := q.den_pos; omega
theorem absQ_div {n d : Int} (hd : 0 < d) : absQ (Rat.divInt n d) = Rat.divInt (if n < 0 then -n else n) d := by
  unfold absQ
  have h : Rat.divInt n d < 0 ↔ n < 0 := by
    rw [← Rat.not_le, Rat.divInt_nonneg_iff_of_pos_right hd]
    omega
  by_cases c : n < 0
  · rw [if_pos c, if_pos (h.mpr c), Rat.neg_divInt]
  · rw [if_neg c, if_neg (fun z => c (h.mp z))]
theorem lt_div {a b c d : Int} (hb : 0 < b) (hd : 0 < d) : (Rat.divInt a b < Rat.divInt c d) ↔ a * d < c * b := by
  rw [Rat.lt_iff_sub_pos, Rat.divInt_sub_divInt _ _ (by omega) (by omega)]
  have hp : 0 < d * b := Int.mul_pos hd hb
  rw [← Rat.not_le]
  have h2 : Rat.divInt (c * b - a * d) (d * b) ≤ 0 ↔ (c * b - a * d) ≤ 0 := by
    have := Rat.divInt_nonneg_iff_of_pos_right (a := -(c * b - a * d)) hp
    rw [← Rat.neg_divInt] at this
    have e : 0 ≤ -(Rat.divInt (c * b - a * d) (d * b)) ↔ Rat.divInt (c * b - a * d) (d * b) ≤ 0 := by
      rw [Rat.le_neg_iff, Rat.neg_zero]
    rw [← e, this]
    omega
  rw [h2]; omega
theorem div_div {a b c d : Int} (hc : 0 < c) : Rat.divInt a b / Rat.divInt c d = Rat.divInt (a * d) (b * c) := by
  rw [Rat.div_def, Rat.inv_divInt, Rat.divInt_mul_divInt]
/-! ### how big they are -/
theorem Rs.mono {a b : Nat} {q : Rat} (h : Rs a q) (l : a ≤ b) : Rs b q := ⟨h.1.mono l, h.2.mono l⟩
theorem rs_div {a : Nat} {n d : Int} (h : Sm a n) (h2 : Sm a d) (ha : 0 < a) (hd : 0 < d) : Rs a (Rat.divInt n d) := by
  unfold Rs Sm at *
  rw [Rat.num_divInt, Rat.den_divInt, if_neg (by omega), Int.sign_eq_one_of_pos hd, Int.one_mul]
  refine ⟨Nat.lt_of_le_of_lt ?_ h, Nat.lt_of_le_of_lt ?_ h2⟩
  · exact Int.natAbs_ediv_le_natAbs _ _
  · rw [Int.natAbs_natCast]; exact Nat.div_le_self _ _
theorem rs_add {a b : Nat} {p q : Rat} (h : Rs a p) (h2 : Rs b q) : Rs (a + b + 1) (p + q) := by
  rw [← fr_self p, ← fr_self q, Rat.divInt_add_divInt _ _ (by have := den_pos p; omega) (by have := den_pos q; omega)]
  refine rs_div ?_ ?_ (by omega) (Int.mul_pos (den_pos p) (den_pos q))
  · exact (h.1.mul h2.2).add ((h2.1.mul h.2).mono (by omega))
  · exact (h.2.mul h2.2).mono (by omega)
theorem rs_mul {a b : Nat} {p q : Rat} (h : Rs a p) (h2 : Rs b q) : Rs (a + b + 1) (p * q) := by
  rw [← fr_self p, ← fr_self q, Rat.divInt_mul_divInt]
  exact rs_div ((h.1.mul h2.1).mono (by omega)) ((h.2.mul h2.2).mono (by omega)) (by omega) (Int.mul_pos (den_pos p) (den_pos q))
section
variable {args : List Sl} {Q : Sl → (Nat → Option Sl) → Prop}
theorem h_lowest (hl : args.length = 2) (h : sp_lowest args Q) : t_lowest (KD Q) (startE 3 args) := by
  obtain ⟨a, b, rfl, hs, hb, k⟩ := h
  unfold t_lowest
  refine seq_i fun Kc hK => ?_
  walk_at "go"
  subst hK
  walk_at "go"
  refine ⟨gcd_div hb hs.1, gcd_div hb hs.2, ?_⟩
  rw [low_eq hb]
  exact k _
theorem h_law_s_gcd (hl : args.length = 2) (h : sp_law_s_gcd args Q) : t_law_s_gcd (KD Q) (startE 3 args) := by
  obtain ⟨a, b, rfl, hb, k⟩ := h
  unfold t_law_s_gcd
  refine seq_i fun Kc hK => ?_
  refine ⟨fun m env => ∃ a' b' x, env = [some (.d (.int (a'))), some (.d (.int (b'))), x] ∧ 0 ≤ b' ∧ m = b'.toNat ∧ Int.gcd a' b' = Int.gcd a b, ⟨_, a, b, none, rfl, hb, rfl, rfl⟩, fun m env hP => ?_⟩
  obtain ⟨a', b', x, rfl, h0, rfl, hg⟩ := hP
  by_cases c : b' = 0
  · subst c
    walk_at "go"
    subst hK
    walk_at "go"
    have e : (if a' < 0 then -a' else a') = ((Int.gcd a b : Nat) : Int) := by
      rw [← hg, Int.gcd_zero_right]; split <;> omega
    rw [e]; exact k _
  · nomatch c
    refine ⟨by omega, (a' % b').toNat, ?_, b', a' % b', _, rfl, Int.emod_nonneg _ c, rfl, ?_⟩
    · have := Int.emod_lt_of_pos a' (show 0 < b' by omega)
      have := Int.emod_nonneg a' c
      omega
    · have e := Int.gcd_add_mul_left_right b' (a' % b') (a' / b')
      rw [Int.emod_add_mul_ediv] at e
      rw [← hg, ← e, Int.gcd_comm]
theorem h_law_s_lowest (hl : args.length = 2) (h : sp_law_s_lowest args Q) : t_law_s_lowest (KD Q) (startE 3 args) := by
  obtain ⟨a, b, rfl, hs, hb, k⟩ := h
  unfold t_law_s_lowest
  refine seq_i fun Kc hK => ?_
  walk_at "go"
  refine ⟨a, b, rfl, by omega, fun os => ?_⟩
  walk_at "go"
  subst hK
  walk_at "go"
  refine ⟨gcd_div hb hs.1, gcd_div hb hs.2, ?_⟩
  have e := low_eq (n := a) hb
  unfold Int.gcd
  rw [e]
  exact k _
end
end Dlk23

set_option Elab.async false
set_option linter.all false
set_option maxRecDepth 100000
set_option maxHeartbeats 4000000
set_option autoImplicit false
namespace Dlk23
open PySem PySem.Spec L2 DL
local macro_rules | `(tactic| walk_at "go") => `(tactic| simp only [outE_i, outE_n, sz0, sz1, sz2, sz3, sz4, sz5, sz6, sz7, sz8, sz9, sz10, sz11, sz12, sz13, sz14, sz15, sz16, ↓tdFr, ↓frE, ↓rdDivmod, ↓rdNotIn, ↓tdTru, ↓rdMulW, ↓rdGcd, ↓rdRgV, ↓tdRgI, ↓tdEnum2, ↓tdZip2, ↓tdPar, ↓tdRevA, ↓tdRevR, ↓rdDivP, ↓tdTupRg, ↓startE, ↓tdSeq, ↓tdSet, ↓tdSetD, ↓tdDrop, ↓tdRet, ↓tdIfS, ↓tdNext, ↓tdAsg, ↓tdV, ↓tdC, ↓tdBin, ↓tdB, ↓tdCons, ↓tdNil, ↓tdTup, ↓tdLst, ↓tdTest, ↓tdAnd, ↓tdOr, ↓tdNot, ↓tdIf, ↓tdAndV, ↓tdOrV, ↓tdNotV, ↓tdNeg, ↓tdIsN, ↓tdNotN, ↓tdSl, ↓tdPart, ↓tdNoPart, ↓tdM, ↓tdSetIx, ↓tdAug, ↓tdPut, ↓tdGet2, ↓tdIsi, ↓tdListRg, ↓gdName, ↓gdNil, ↓gdCons, ↓gdTup, ↓tdIt, ↓tdRng1, ↓tdRng2, ↓tdCall, ↓tdNew, ↓tdJoin, ↓gcName, ↓gcNil, ↓gcCons, ↓gcTup, ↓tdYes, ↓res, ↓resR, ↓resAll, ↓rvD, ↓rdLen, ↓rdInt, ↓rdAbs, ↓rdMax2, ↓rdMin2, ↓rdOrd, ↓rdTuple, ↓rdList, ↓rdIx, ↓rdAdd, ↓rdSub, ↓rdMul, ↓rdMod, ↓rdDiv, ↓rdPow, ↓rdCmp, ↓rdEq, ↓rdNe, ↓rdIadd, ↓rdIn, ↓rdSorted, ↓rdSl, ↓isT, ↓rdAppend, ↓itemsOf, ↓rvOf, ↓argsOf, ↓argOf, Nat.reduceAdd, Nat.reduceLT, Nat.reduceSub, Int.reduceLT, Int.reduceLE, Int.reduceAdd, Int.reduceEq, Int.reduceNeg, Nat.reduceLeDiff, Nat.zero_add, Nat.reduceEqDiff, Nat.reduceBEq, ix41, ix42, ix43, ix40, List.length_cons, List.length_nil, List.map_cons, List.map_nil, List.replicate, List.cons_append, List.nil_append, List.getElem?_cons_zero, List.getElem?_cons_succ, List.set_cons_zero, List.set_cons_succ, Option.map_some, at0, at1, at2, at3, ix0, ix1, ix2, ix3, sh_int, sh_bl, sh_non, eqv_int, eqv_bl, eqv_str, decide_eq_true_eq, Bool.not_eq_true, Bool.not_true, Bool.not_false, Bool.false_eq_true, true_and, and_true, if_true, if_false, ite_true, ite_false, List.length_map, List.length_set, Sl.isD, List.mem_singleton, List.mem_cons, List.not_mem_nil, not_true_eq_false, not_false_eq_true, or_false])
local macro_rules | `(tactic| nomatch $xs,*) => `(tactic| simp only [$[$xs:term],*, outE_i, outE_n, sz0, sz1, sz2, sz3, sz4, sz5, sz6, sz7, sz8, sz9, sz10, sz11, sz12, sz13, sz14, sz15, sz16, ↓tdFr, ↓frE, ↓rdDivmod, ↓rdNotIn, ↓tdTru, ↓rdMulW, ↓rdGcd, ↓rdRgV, ↓tdRgI, ↓tdEnum2, ↓tdZip2, ↓tdPar, ↓tdRevA, ↓tdRevR, ↓rdDivP, ↓tdTupRg, ↓startE, ↓tdSeq, ↓tdSet, ↓tdSetD, ↓tdDrop, ↓tdRet, ↓tdIfS, ↓tdNext, ↓tdAsg, ↓tdV, ↓tdC, ↓tdBin, ↓tdB, ↓tdCons, ↓tdNil, ↓tdTup, ↓tdLst, ↓tdTest, ↓tdAnd, ↓tdOr, ↓tdNot, ↓tdIf, ↓tdAndV, ↓tdOrV, ↓tdNotV, ↓tdNeg, ↓tdIsN, ↓tdNotN, ↓tdSl, ↓tdPart, ↓tdNoPart, ↓tdM, ↓tdSetIx, ↓tdAug, ↓tdPut, ↓tdGet2, ↓tdIsi, ↓tdListRg, ↓gdName, ↓gdNil, ↓gdCons, ↓gdTup, ↓tdIt, ↓tdRng1, ↓tdRng2, ↓tdCall, ↓tdNew, ↓tdJoin, ↓gcName, ↓gcNil, ↓gcCons, ↓gcTup, ↓tdYes, ↓res, ↓resR, ↓resAll, ↓rvD, ↓rdLen, ↓rdInt, ↓rdAbs, ↓rdMax2, ↓rdMin2, ↓rdOrd, ↓rdTuple, ↓rdList, ↓rdIx, ↓rdAdd, ↓rdSub, ↓rdMul, ↓rdMod, ↓rdDiv, ↓rdPow, ↓rdCmp, ↓rdEq, ↓rdNe, ↓rdIadd, ↓rdIn, ↓rdSorted, ↓rdSl, ↓isT, ↓rdAppend, ↓itemsOf, ↓rvOf, ↓argsOf, ↓argOf, Nat.reduceAdd, Nat.reduceLT, Nat.reduceSub, Int.reduceLT, Int.reduceLE, Int.reduceAdd, Int.reduceEq, Int.reduceNeg, Nat.reduceLeDiff, Nat.zero_add, Nat.reduceEqDiff, Nat.reduceBEq, ix41, ix42, ix43, ix40, List.length_cons, List.length_nil, List.map_cons, List.map_nil, List.replicate, List.cons_append, List.nil_append, List.getElem?_cons_zero, List.getElem?_cons_succ, List.set_cons_zero, List.set_cons_succ, Option.map_some, at0, at1, at2, at3, ix0, ix1, ix2, ix3, sh_int, sh_bl, sh_non, eqv_int, eqv_bl, eqv_str, decide_eq_true_eq, Bool.not_eq_true, Bool.not_true, Bool.not_false, Bool.false_eq_true, true_and, and_true, if_true, if_false, ite_true, ite_false, List.length_map, List.length_set, Sl.isD, List.mem_singleton, List.mem_cons, List.not_mem_nil, not_true_eq_false, not_false_eq_true, or_false])
section
variable {args : List Sl} {Q : Sl → (Nat → Option Sl) → Prop}
theorem Two.cm {a b c d : Int} (h : Two a b c d) : CMulW a b ∧ CMulW a c ∧ CMulW a d ∧ CMulW b c ∧ CMulW b d ∧ CMulW c b ∧ CMulW c d := by
  obtain ⟨⟨h1, h2, h3, h4⟩, _⟩ := h
  exact ⟨Dlk23.cm h1 h2, Dlk23.cm h1 h3, Dlk23.cm h1 h4, Dlk23.cm h2 h3, Dlk23.cm h2 h4, Dlk23.cm h3 h2, Dlk23.cm h3 h4⟩
theorem Two.den {a b c d : Int} (h : Two a b c d) : Sm 12900 (b * d) ∧ 0 < b * d := ⟨(h.1.2.1.mul h.1.2.2.2).mono (by decide), Int.mul_pos h.2.1 h.2.2⟩
theorem Two.num {a b c d : Int} (h : Two a b c d) : Sm 12900 (a * d + c * b) ∧ Sm 12900 (a * d - c * b) ∧ Sm 12900 (a * c) ∧ Sm 12900 (a * d) := by
  obtain ⟨⟨h1, h2, h3, h4⟩, _⟩ := h
  exact ⟨((h1.mul h4).add (h3.mul h2)).mono (by decide), ((h1.mul h4).add (h3.mul h2).neg).mono (by decide), (h1.mul h3).mono (by decide), (h1.mul h4).mono (by decide)⟩
theorem Two.den2 {a b c d : Int} (h : Two a b c d) (hc : 0 < c) : Sm 12900 (b * c) ∧ 0 < b * c := ⟨(h.1.2.1.mul h.1.2.2.1).mono (by decide), Int.mul_pos h.2.1 hc⟩
theorem Two.ne {a b c d : Int} (h : Two a b c d) : b ≠ 0 ∧ d ≠ 0 := ⟨by have := h.2.1; omega, by have := h.2.2; omega⟩
theorem h_plus (hl : args.length = 2) (h : sp_plus args Q) : t_plus (KD Q) (startE 2 args) := by
  obtain ⟨a, b, c, d, rfl, h2, k⟩ := h
  obtain ⟨m0, m1, m2, m3, m4, m5, m6⟩ := h2.cm
  have e : Rat.divInt a b + Rat.divInt c d = Rat.divInt (a * d + c * b) (b * d) := Rat.divInt_add_divInt _ _ h2.ne.1 h2.ne.2
  unfold t_plus pr
  walk_at "go"
  refine ⟨m2, m5, m4, _, _, rfl, ⟨h2.num.1, (h2.den).1⟩, (h2.den).2, fun os => ?_⟩
  walk_at "go"
  rw [← e]
  exact k _
theorem h_law_s_plus (hl : args.length = 2) (h : sp_law_s_plus args Q) : t_law_s_plus (KD Q) (startE 2 args) := by
  obtain ⟨a, b, c, d, rfl, h2, k⟩ := h
  obtain ⟨m0, m1, m2, m3, m4, m5, m6⟩ := h2.cm
  have e : Rat.divInt a b + Rat.divInt c d = Rat.divInt (a * d + c * b) (b * d) := Rat.divInt_add_divInt _ _ h2.ne.1 h2.ne.2
  unfold t_law_s_plus pr
  walk_at "go"
  refine ⟨m2, m5, m4, _, _, rfl, ⟨h2.num.1, (h2.den).1⟩, (h2.den).2, fun os => ?_⟩
  walk_at "go"
  rw [← e]
  exact k _
theorem h_minus (hl : args.length = 2) (h : sp_minus args Q) : t_minus (KD Q) (startE 2 args) := by
  obtain ⟨a, b, c, d, rfl, h2, k⟩ := h
  obtain ⟨m0, m1, m2, m3, m4, m5, m6⟩ := h2.cm
  have e : Rat.divInt a b - Rat.divInt c d = Rat.divInt (a * d - c * b) (b * d) := Rat.divInt_sub_divInt _ _ h2.ne.1 h2.ne.2
  unfold t_minus pr
  walk_at "go"
  refine ⟨m2, m5, m4, _, _, rfl, ⟨h2.num.2.1, (h2.den).1⟩, (h2.den).2, fun os => ?_⟩
  walk_at "go"
  rw [← e]
  exact k _
theorem h_times (hl : args.length = 2) (h : sp_times args Q) : t_times (KD Q) (startE 2 args) := by
  obtain ⟨a, b, c, d, rfl, h2, k⟩ := h
  obtain ⟨m0, m1, m2, m3, m4, m5, m6⟩ := h2.cm
  have e : Rat.divInt a b * Rat.divInt c d = Rat.divInt (a * c) (b * d) := Rat.divInt_mul_divInt _ _
  unfold t_times pr
  walk_at "go"
  refine ⟨m1, m4, _, _, rfl, ⟨h2.num.2.2.1, (h2.den).1⟩, (h2.den).2, fun os => ?_⟩
  walk_at "go"
  rw [← e]
  exact k _
theorem h_law_s_times (hl : args.length = 2) (h : sp_law_s_times args Q) : t_law_s_times (KD Q) (startE 2 args) := by
  obtain ⟨a, b, c, d, rfl, h2, k⟩ := h
  obtain ⟨m0, m1, m2, m3, m4, m5, m6⟩ := h2.cm
  have e : Rat.divInt a b * Rat.divInt c d = Rat.divInt (a * c) (b * d) := Rat.divInt_mul_divInt _ _
  unfold t_law_s_times pr
  walk_at "go"
  refine ⟨m1, m4, _, _, rfl, ⟨h2.num.2.2.1, (h2.den).1⟩, (h2.den).2, fun os => ?_⟩
  walk_at "go"
  rw [← e]
  exact k _
theorem h_over (hl : args.length = 2) (h : sp_over args Q) : t_over (KD Q) (startE 2 args) := by
  obtain ⟨a, b, c, d, rfl, h2, hc, k⟩ := h
  obtain ⟨m0, m1, m2, m3, m4, m5, m6⟩ := h2.cm
  have e : Rat.divInt a b / Rat.divInt c d = Rat.divInt (a * d) (b * c) := div_div hc
  unfold t_over pr
  walk_at "go"
  refine ⟨m2, m3, _, _, rfl, ⟨h2.num.2.2.2, (h2.den2 hc).1⟩, (h2.den2 hc).2, fun os => ?_⟩
  walk_at "go"
  rw [← e]
  exact k _
/-- shares that stand in lowest terms -/
theorem two_fr {p q : Rat} (h : Rs 5600 p) (h2 : Rs 5600 q) : Two p.num p.den q.num q.den := ⟨⟨h.1, h.2, h2.1, h2.2⟩, den_pos p, den_pos q⟩
theorem fr_i {f : Rat → Rat → Rat} {p q : Rat} {R : Sl → (Nat → Option Sl) → Prop} (h : Rs 5600 p) (h2 : Rs 5600 q) (k : ∀ os, R (.d (fr (f p q))) os) : sp2 f [.d (fr p), .d (fr q)] R :=
  ⟨_, _, _, _, rfl, two_fr h h2, by rw [fr_self, fr_self]; exact k⟩
theorem over_i {p q : Rat} {R : Sl → (Nat → Option Sl) → Prop} (h : Rs 5600 p) (h2 : Rs 5600 q) (h3 : 0 < q) (k : ∀ os, R (.d (fr (p / q))) os) : spOver [.d (fr p), .d (fr q)] R :=
  ⟨_, _, _, _, rfl, two_fr h h2, by
    have : ¬ q.num ≤ 0 := fun z => by
      have e : 0 ≤ -q := by
        rw [← Rat.num_nonneg, Rat.neg_num]; omega
      rw [Rat.le_neg_iff, Rat.neg_zero] at e
      exact Rat.not_le.mpr h3 e
    omega, by rw [fr_self, fr_self]; exact k⟩
theorem less_i {p q : Rat} {R : Sl → (Nat → Option Sl) → Prop} (h : Rs 5600 p) (h2 : Rs 5600 q) (k : ∀ os, R (.d (.bool (decide (p < q)))) os) : spLess [.d (fr p), .d (fr q)] R :=
  ⟨_, _, _, _, rfl, two_fr h h2, by simp only [fr_self]; exact k⟩
theorem sum_take {ps : List Rat} {i : Nat} {q : Rat} (h : ps[i]? = some q) : sumQ (ps.take (i + 1)) = sumQ (ps.take i) + q := fold_at _ _ _ _ _ h
theorem rs_zero : Rs 1 0 := ⟨by unfold Sm; decide, by unfold Sm; decide⟩
theorem rs_sum (ps : List Rat) (h : ∀ q ∈ ps, Rs 100 q) : ∀ i, i ≤ ps.length → Rs (1 + 101 * i) (sumQ (ps.take i))
  | 0, _ => by
    rw [List.take_zero]
    exact rs_zero
  | i + 1, hi => by
    have hq : ps[i]? = some ps[i] := List.getElem?_eq_getElem hi
    rw [sum_take hq]
    exact (rs_add (rs_sum ps h i (by omega)) (h _ (List.mem_of_getElem? hq))).mono (by omega)
end
end Dlk23

set_option Elab.async false
set_option linter.all false
set_option maxRecDepth 100000
set_option maxHeartbeats 4000000
set_option autoImplicit false
namespace Dlk23
open PySem PySem.Spec L2 DL
local macro_rules | `(tactic| walk_at "go") => `(tactic| simp only [outE_i, outE_n, sz0, sz1, sz2, sz3, sz4, sz5, sz6, sz7, sz8, sz9, sz10, sz11, sz12, sz13, sz14, sz15, sz16, ↓tdFr, ↓frE, ↓rdDivmod, ↓rdNotIn, ↓tdTru, ↓rdMulW, ↓rdGcd, ↓rdRgV, ↓tdRgI, ↓tdEnum2, ↓tdZip2, ↓tdPar, ↓tdRevA, ↓tdRevR, ↓rdDivP, ↓tdTupRg, ↓startE, ↓tdSeq, ↓tdSet, ↓tdSetD, ↓tdDrop, ↓tdRet, ↓tdIfS, ↓tdNext, ↓tdAsg, ↓tdV, ↓tdC, ↓tdBin, ↓tdB, ↓tdCons, ↓tdNil, ↓tdTup, ↓tdLst, ↓tdTest, ↓tdAnd, ↓tdOr, ↓tdNot, ↓tdIf, ↓tdAndV, ↓tdOrV, ↓tdNotV, ↓tdNeg, ↓tdIsN, ↓tdNotN, ↓tdSl, ↓tdPart, ↓tdNoPart, ↓tdM, ↓tdSetIx, ↓tdAug, ↓tdPut, ↓tdGet2, ↓tdIsi, ↓tdListRg, ↓gdName, ↓gdNil, ↓gdCons, ↓gdTup, ↓tdIt, ↓tdRng1, ↓tdRng2, ↓tdCall, ↓tdNew, ↓tdJoin, ↓gcName, ↓gcNil, ↓gcCons, ↓gcTup, ↓tdYes, ↓res, ↓resR, ↓resAll, ↓rvD, ↓rdLen, ↓rdInt, ↓rdAbs, ↓rdMax2, ↓rdMin2, ↓rdOrd, ↓rdTuple, ↓rdList, ↓rdIx, ↓rdAdd, ↓rdSub, ↓rdMul, ↓rdMod, ↓rdDiv, ↓rdPow, ↓rdCmp, ↓rdEq, ↓rdNe, ↓rdIadd, ↓rdIn, ↓rdSorted, ↓rdSl, ↓isT, ↓rdAppend, ↓itemsOf, ↓rvOf, ↓argsOf, ↓argOf, Nat.reduceAdd, Nat.reduceLT, Nat.reduceSub, Int.reduceLT, Int.reduceLE, Int.reduceAdd, Int.reduceEq, Int.reduceNeg, Nat.reduceLeDiff, Nat.zero_add, Nat.reduceEqDiff, Nat.reduceBEq, ix41, ix42, ix43, ix40, List.length_cons, List.length_nil, List.map_cons, List.map_nil, List.replicate, List.cons_append, List.nil_append, List.getElem?_cons_zero, List.getElem?_cons_succ, List.set_cons_zero, List.set_cons_succ, Option.map_some, at0, at1, at2, at3, ix0, ix1, ix2, ix3, sh_int, sh_bl, sh_non, eqv_int, eqv_bl, eqv_str, decide_eq_true_eq, Bool.not_eq_true, Bool.not_true, Bool.not_false, Bool.false_eq_true, true_and, and_true, if_true, if_false, ite_true, ite_false, List.length_map, List.length_set, Sl.isD, List.mem_singleton, List.mem_cons, List.not_mem_nil, not_true_eq_false, not_false_eq_true, or_false])
local macro_rules | `(tactic| nomatch $xs,*) => `(tactic| simp only [$[$xs:term],*, outE_i, outE_n, sz0, sz1, sz2, sz3, sz4, sz5, sz6, sz7, sz8, sz9, sz10, sz11, sz12, sz13, sz14, sz15, sz16, ↓tdFr, ↓frE, ↓rdDivmod, ↓rdNotIn, ↓tdTru, ↓rdMulW, ↓rdGcd, ↓rdRgV, ↓tdRgI, ↓tdEnum2, ↓tdZip2, ↓tdPar, ↓tdRevA, ↓tdRevR, ↓rdDivP, ↓tdTupRg, ↓startE, ↓tdSeq, ↓tdSet, ↓tdSetD, ↓tdDrop, ↓tdRet, ↓tdIfS, ↓tdNext, ↓tdAsg, ↓tdV, ↓tdC, ↓tdBin, ↓tdB, ↓tdCons, ↓tdNil, ↓tdTup, ↓tdLst, ↓tdTest, ↓tdAnd, ↓tdOr, ↓tdNot, ↓tdIf, ↓tdAndV, ↓tdOrV, ↓tdNotV, ↓tdNeg, ↓tdIsN, ↓tdNotN, ↓tdSl, ↓tdPart, ↓tdNoPart, ↓tdM, ↓tdSetIx, ↓tdAug, ↓tdPut, ↓tdGet2, ↓tdIsi, ↓tdListRg, ↓gdName, ↓gdNil, ↓gdCons, ↓gdTup, ↓tdIt, ↓tdRng1, ↓tdRng2, ↓tdCall, ↓tdNew, ↓tdJoin, ↓gcName, ↓gcNil, ↓gcCons, ↓gcTup, ↓tdYes, ↓res, ↓resR, ↓resAll, ↓rvD, ↓rdLen, ↓rdInt, ↓rdAbs, ↓rdMax2, ↓rdMin2, ↓rdOrd, ↓rdTuple, ↓rdList, ↓rdIx, ↓rdAdd, ↓rdSub, ↓rdMul, ↓rdMod, ↓rdDiv, ↓rdPow, ↓rdCmp, ↓rdEq, ↓rdNe, ↓rdIadd, ↓rdIn, ↓rdSorted, ↓rdSl, ↓isT, ↓rdAppend, ↓itemsOf, ↓rvOf, ↓argsOf, ↓argOf, Nat.reduceAdd, Nat.reduceLT, Nat.reduceSub, Int.reduceLT, Int.reduceLE, Int.reduceAdd, Int.reduceEq, Int.reduceNeg, Nat.reduceLeDiff, Nat.zero_add, Nat.reduceEqDiff, Nat.reduceBEq, ix41, ix42, ix43, ix40, List.length_cons, List.length_nil, List.map_cons, List.map_nil, List.replicate, List.cons_append, List.nil_append, List.getElem?_cons_zero, List.getElem?_cons_succ, List.set_cons_zero, List.set_cons_succ, Option.map_some, at0, at1, at2, at3, ix0, ix1, ix2, ix3, sh_int, sh_bl, sh_non, eqv_int, eqv_bl, eqv_str, decide_eq_true_eq, Bool.not_eq_true, Bool.not_true, Bool.not_false, Bool.false_eq_true, true_and, and_true, if_true, if_false, ite_true, ite_false, List.length_map, List.length_set, Sl.isD, List.mem_singleton, List.mem_cons, List.not_mem_nil, not_true_eq_false, not_false_eq_true, or_false])
/-! ### tables -/
theorem tab_get {m : Nat} {tab : Tab} (h : TabOk m tab) {i : Nat} (hi : i < m) : ∃ l, tab[i]? = some l ∧ (1 ≤ l.1 ∧ l.1 ≤ 9) ∧ LeadOk m i l.2 := by
  have h1 : tab[i]? = some (tab[i]'(by rw [h.1]; exact hi)) := List.getElem?_eq_getElem _
  exact ⟨_, h1, h.2.2 i _ h1⟩
theorem at_tab {tab : Tab} {i : Nat} {l : Int × List Int} (h : tab[i]? = some l) : atI (tab.map lnD) (i : Int) = some (.tuple [.int l.1, tupI l.2]) := atI_nat (by rw [List.getElem?_map, h]; rfl)
theorem sum_bd : ∀ (ns : List Int), (∀ n ∈ ns, 1 ≤ n ∧ n ≤ 9) → (ns.length : Int) ≤ ns.sum ∧ ns.sum ≤ 9 * ns.length
  | [], _ => by simp
  | n :: r, h => by
    have := sum_bd r fun x hx => h x (List.mem_cons_of_mem _ hx)
    have := h n List.mem_cons_self
    rw [List.sum_cons, List.length_cons]
    omega
theorem tab_sum {m : Nat} {tab : Tab} (h : TabOk m tab) : 1 ≤ sumS tab ∧ sumS tab ≤ 108 := by
  have := sum_bd (tab.map (·.1)) fun n hn => by
    obtain ⟨l, hl, rfl⟩ := List.mem_map.mp hn
    obtain ⟨i, hi⟩ := List.mem_iff_getElem?.mp hl
    exact (h.2.2 i l hi).1
  rw [List.length_map, h.1] at this
  have := h.2.1
  unfold sumS
  omega
theorem sm10 {i : Int} (h : -1000 ≤ i) (h2 : i ≤ 1000) : Sm 10 i := sm_of 1000 h h2 (by decide)
theorem rs_anew {m : Nat} {tab : Tab} (h : TabOk m tab) {j : Nat} (hj : j < m) : Rs 10 (anewQ tab j) := by
  obtain ⟨l, hl, hb, _⟩ := tab_get h hj
  have := tab_sum h
  unfold anewQ
  rw [hl]
  exact rs_div (sm10 (by show _ ≤ l.1; omega) (by show l.1 ≤ _; omega)) (sm10 (by omega) (by omega)) (by decide) (by omega)
theorem one_div {n : Int} (h : 0 < n) : fr (Rat.divInt 1 n) = pr 1 n := by
  unfold fr
  rw [Rat.num_divInt, Rat.den_divInt, if_neg (by omega), Int.sign_eq_one_of_pos h]
  have e : Int.gcd n 1 = 1 := by simp
  rw [e, Nat.div_one]
  have : ((n.natAbs : Nat) : Int) = n := by omega
  rw [this]
  rfl
theorem lead_len : ∀ {m : Nat} {ns : List Int} (a : Int), 0 ≤ a → ns.Pairwise (· < ·) → (∀ j ∈ ns, a ≤ j ∧ j < m) → (ns.length : Int) + a ≤ max (m : Int) a
  | m, [], a, h, _, _ => by simp; omega
  | m, n :: r, a, h, hp, hb => by
    have h1 := hb n List.mem_cons_self
    have := lead_len (m := m) (n + 1) (by omega) (List.Pairwise.of_cons hp) fun j hj => ⟨by have := List.rel_of_pairwise_cons hp hj; omega, (hb j (List.mem_cons_of_mem _ hj)).2⟩
    rw [List.length_cons]
    omega
theorem LeadOk.len {m : Nat} {i : Int} {ns : List Int} (h : LeadOk m i ns) : ns.length ≤ m := by
  have := lead_len (m := m) 0 (by omega) h.1 fun j hj => ⟨(h.2 j hj).1, (h.2 j hj).2.1⟩
  omega
theorem rs_on {m : Nat} {tab : Tab} (h : TabOk m tab) {i j : Nat} (hi : i < m) (hj : j < m) : Rs 10 (onQ tab i j) := by
  obtain ⟨l, hl, hb, hd⟩ := tab_get h hi
  have h1 := hd.len
  have h2 := h.2.1
  unfold onQ
  rw [hl]
  dsimp only [Option.getD_some]
  split
  · exact rs_anew h hj
  · split
    · have : 0 < l.2.length := List.length_pos_iff.mpr (by assumption)
      exact rs_div (sm10 (by decide) (by decide)) (sm10 (by omega) (by omega)) (by decide) (by omega)
    · exact rs_zero.mono (by decide)
theorem fol_num {f : Rat} (h : Fol f) : 0 < f.num ∧ f.num < f.den := by
  have h1 := (Rat.lt_iff 0 f).mp h.1
  have h2 := (Rat.lt_iff f 1).mp h.2.1
  have e1 : (0 : Rat).num = 0 := rfl
  have e2 : (0 : Rat).den = 1 := rfl
  have e3 : (1 : Rat).num = 1 := rfl
  have e4 : (1 : Rat).den = 1 := rfl
  rw [e1, e2] at h1
  rw [e3, e4] at h2
  omega
theorem rs_fol {f : Rat} (h : Fol f) : Rs 10 f := by
  have := fol_num h
  have := h.2.2
  exact ⟨sm10 (by omega) (by omega), sm10 (by omega) (by omega)⟩
theorem one_sub (f : Rat) : Rat.divInt (f.den - f.num) f.den = 1 - f := by
  have h := Rat.divInt_sub_divInt 1 f.num (d₁ := 1) (d₂ := f.den) (by decide) (by have := den_pos f; omega)
  rw [fr_self, show Rat.divInt 1 1 = 1 by decide, Int.one_mul, Int.mul_one] at h
  exact h.symm
theorem rs_sub {f : Rat} (h : Fol f) : Rs 10 (1 - f) := by
  have := fol_num h
  have := h.2.2
  rw [← one_sub]
  exact rs_div (sm10 (by omega) (by omega)) (sm10 (by omega) (by omega)) (by decide) (by omega)
theorem sh_tup (ns : List Int) : SeqAt.shaped (.tuple (ns.map PyData.int)) = true := (sh_map .int ns fun x _ => lay_int x).2
theorem eqv_nil (ns : List Int) : PyData.eqv (.tuple (ns.map PyData.int)) (.tuple []) = decide (ns = []) := by
  cases ns with
  | nil => simp [PyData.eqv, PyData.eqvAll]
  | cons n r => simp [PyData.eqv, PyData.eqvAll]
theorem sh_nil : SeqAt.shaped (.tuple []) = true := sh_tup []
theorem zip_rng (n : Nat) (f g : Nat → PyData) : ((List.range n).map f).zipWith (fun x y => PyData.tuple [x, y]) ((List.range n).map g) = (List.range n).map fun j => .tuple [f j, g j] := by
  rw [List.zipWith_map, List.zipWith_self]
section
variable {args : List Sl} {Q : Sl → (Nat → Option Sl) → Prop}
theorem h_start_sum (hl : args.length = 1) (h : sp_start_sum args Q) : t_start_sum (KD Q) (startE 3 args) := by
  obtain ⟨m, tab, rfl, hT, k⟩ := h
  have hm := hT.1
  have hm2 := hT.2.1
  unfold t_start_sum tbD
  walk_at "go"
  refine lc_map tab lnD (fun l => .int l.1) (fun R hR => ?_) (small_of (by omega)) (by simp [noOwn]) (fun x hx A B hA hB => ?_) ?_
  · walk_at "go"
    exact hR
  · unfold lnD
    nomatch wipeE, mergeE
    exact ⟨hA, hB⟩
  · nomatch rdSumA
    refine ⟨tab.map (·.1), by rw [List.map_map]; rfl, ?_⟩
    exact k _
theorem h_law_s_anew (hl : args.length = 2) (h : sp_law_s_anew args Q) : t_law_s_anew (KD Q) (startE 3 args) := by
  obtain ⟨m, tab, j, rfl, hT, hj, k⟩ := h
  have hm := hT.1
  have hm2 := hT.2.1
  have hs := tab_sum hT
  obtain ⟨l, hl2, hb, _⟩ := tab_get hT hj
  have ha := at_tab hl2
  unfold t_law_s_anew tbD
  nomatch ha
  refine lc_map tab lnD (fun l => .int l.1) (fun R hR => ?_) (small_of (by omega)) (by simp [noOwn]) (fun x hx A B hA hB => ?_) ?_
  · walk_at "go"
    exact hR
  · unfold lnD
    nomatch wipeE, mergeE
    exact ⟨hA, hB⟩
  · nomatch rdSumA
    refine ⟨tab.map (·.1), by rw [List.map_map]; rfl, ?_⟩
    refine ⟨_, _, rfl, ⟨(sm10 (show _ ≤ l.1 by omega) (show l.1 ≤ _ by omega)).mono (by decide), (sm10 (show _ ≤ sumS tab by omega) (show sumS tab ≤ _ by omega)).mono (by decide)⟩, by show 0 < sumS tab; omega, fun os => ?_⟩
    walk_at "go"
    unfold anewQ at k
    rw [hl2] at k
    exact k _
theorem h_anew (hl : args.length = 2) (h : sp_anew args Q) : t_anew (KD Q) (startE 2 args) := by
  obtain ⟨m, tab, j, rfl, hT, hj, k⟩ := h
  have hs := tab_sum hT
  obtain ⟨l, hl2, hb, _⟩ := tab_get hT hj
  have ha := at_tab hl2
  unfold t_anew
  have e : tbD tab = .tuple (tab.map lnD) := rfl
  nomatch e, ha
  refine ⟨m, tab, by rw [e], hT, fun os => ?_⟩
  walk_at "go"
  refine ⟨_, _, rfl, ⟨(sm10 (by omega) (by omega)).mono (by decide), (sm10 (by omega) (by omega)).mono (by decide)⟩, by omega, fun os => ?_⟩
  walk_at "go"
  unfold anewQ at k
  rw [hl2] at k
  exact k _
end
end Dlk23

set_option Elab.async false
set_option linter.all false
set_option maxRecDepth 100000
set_option maxHeartbeats 4000000
set_option autoImplicit false
namespace Dlk23
open PySem PySem.Spec L2 DL
local macro_rules | `(tactic| walk_at "go") => `(tactic| simp only [outE_i, outE_n, sz0, sz1, sz2, sz3, sz4, sz5, sz6, sz7, sz8, sz9, sz10, sz11, sz12, sz13, sz14, sz15, sz16, ↓tdFr, ↓frE, ↓rdDivmod, ↓rdNotIn, ↓tdTru, ↓rdMulW, ↓rdGcd, ↓rdRgV, ↓tdRgI, ↓tdEnum2, ↓tdZip2, ↓tdPar, ↓tdRevA, ↓tdRevR, ↓rdDivP, ↓tdTupRg, ↓startE, ↓tdSeq, ↓tdSet, ↓tdSetD, ↓tdDrop, ↓tdRet, ↓tdIfS, ↓tdNext, ↓tdAsg, ↓tdV, ↓tdC, ↓tdBin, ↓tdB, ↓tdCons, ↓tdNil, ↓tdTup, ↓tdLst, ↓tdTest, ↓tdAnd, ↓tdOr, ↓tdNot, ↓tdIf, ↓tdAndV, ↓tdOrV, ↓tdNotV, ↓tdNeg, ↓tdIsN, ↓tdNotN, ↓tdSl, ↓tdPart, ↓tdNoPart, ↓tdM, ↓tdSetIx, ↓tdAug, ↓tdPut, ↓tdGet2, ↓tdIsi, ↓tdListRg, ↓gdName, ↓gdNil, ↓gdCons, ↓gdTup, ↓tdIt, ↓tdRng1, ↓tdRng2, ↓tdCall, ↓tdNew, ↓tdJoin, ↓gcName, ↓gcNil, ↓gcCons, ↓gcTup, ↓tdYes, ↓res, ↓resR, ↓resAll, ↓rvD, ↓rdLen, ↓rdInt, ↓rdAbs, ↓rdMax2, ↓rdMin2, ↓rdOrd, ↓rdTuple, ↓rdList, ↓rdIx, ↓rdAdd, ↓rdSub, ↓rdMul, ↓rdMod, ↓rdDiv, ↓rdPow, ↓rdCmp, ↓rdEq, ↓rdNe, ↓rdIadd, ↓rdIn, ↓rdSorted, ↓rdSl, ↓isT, ↓rdAppend, ↓itemsOf, ↓rvOf, ↓argsOf, ↓argOf, Nat.reduceAdd, Nat.reduceLT, Nat.reduceSub, Int.reduceLT, Int.reduceLE, Int.reduceAdd, Int.reduceEq, Int.reduceNeg, Nat.reduceLeDiff, Nat.zero_add, Nat.reduceEqDiff, Nat.reduceBEq, ix41, ix42, ix43, ix40, List.length_cons, List.length_nil, List.map_cons, List.map_nil, List.replicate, List.cons_append, List.nil_append, List.getElem?_cons_zero, List.getElem?_cons_succ, List.set_cons_zero, List.set_cons_succ, Option.map_some, at0, at1, at2, at3, ix0, ix1, ix2, ix3, sh_int, sh_bl, sh_non, eqv_int, eqv_bl, eqv_str, decide_eq_true_eq, Bool.not_eq_true, Bool.not_true, Bool.not_false, Bool.false_eq_true, true_and, and_true, if_true, if_false, ite_true, ite_false, List.length_map, List.length_set, Sl.isD, List.mem_singleton, List.mem_cons, List.not_mem_nil, not_true_eq_false, not_false_eq_true, or_false])
local macro_rules | `(tactic| nomatch $xs,*) => `(tactic| simp only [$[$xs:term],*, outE_i, outE_n, sz0, sz1, sz2, sz3, sz4, sz5, sz6, sz7, sz8, sz9, sz10, sz11, sz12, sz13, sz14, sz15, sz16, ↓tdFr, ↓frE, ↓rdDivmod, ↓rdNotIn, ↓tdTru, ↓rdMulW, ↓rdGcd, ↓rdRgV, ↓tdRgI, ↓tdEnum2, ↓tdZip2, ↓tdPar, ↓tdRevA, ↓tdRevR, ↓rdDivP, ↓tdTupRg, ↓startE, ↓tdSeq, ↓tdSet, ↓tdSetD, ↓tdDrop, ↓tdRet, ↓tdIfS, ↓tdNext, ↓tdAsg, ↓tdV, ↓tdC, ↓tdBin, ↓tdB, ↓tdCons, ↓tdNil, ↓tdTup, ↓tdLst, ↓tdTest, ↓tdAnd, ↓tdOr, ↓tdNot, ↓tdIf, ↓tdAndV, ↓tdOrV, ↓tdNotV, ↓tdNeg, ↓tdIsN, ↓tdNotN, ↓tdSl, ↓tdPart, ↓tdNoPart, ↓tdM, ↓tdSetIx, ↓tdAug, ↓tdPut, ↓tdGet2, ↓tdIsi, ↓tdListRg, ↓gdName, ↓gdNil, ↓gdCons, ↓gdTup, ↓tdIt, ↓tdRng1, ↓tdRng2, ↓tdCall, ↓tdNew, ↓tdJoin, ↓gcName, ↓gcNil, ↓gcCons, ↓gcTup, ↓tdYes, ↓res, ↓resR, ↓resAll, ↓rvD, ↓rdLen, ↓rdInt, ↓rdAbs, ↓rdMax2, ↓rdMin2, ↓rdOrd, ↓rdTuple, ↓rdList, ↓rdIx, ↓rdAdd, ↓rdSub, ↓rdMul, ↓rdMod, ↓rdDiv, ↓rdPow, ↓rdCmp, ↓rdEq, ↓rdNe, ↓rdIadd, ↓rdIn, ↓rdSorted, ↓rdSl, ↓isT, ↓rdAppend, ↓itemsOf, ↓rvOf, ↓argsOf, ↓argOf, Nat.reduceAdd, Nat.reduceLT, Nat.reduceSub, Int.reduceLT, Int.reduceLE, Int.reduceAdd, Int.reduceEq, Int.reduceNeg, Nat.reduceLeDiff, Nat.zero_add, Nat.reduceEqDiff, Nat.reduceBEq, ix41, ix42, ix43, ix40, List.length_cons, List.length_nil, List.map_cons, List.map_nil, List.replicate, List.cons_append, List.nil_append, List.getElem?_cons_zero, List.getElem?_cons_succ, List.set_cons_zero, List.set_cons_succ, Option.map_some, at0, at1, at2, at3, ix0, ix1, ix2, ix3, sh_int, sh_bl, sh_non, eqv_int, eqv_bl, eqv_str, decide_eq_true_eq, Bool.not_eq_true, Bool.not_true, Bool.not_false, Bool.false_eq_true, true_and, and_true, if_true, if_false, ite_true, ite_false, List.length_map, List.length_set, Sl.isD, List.mem_singleton, List.mem_cons, List.not_mem_nil, not_true_eq_false, not_false_eq_true, or_false])
section
variable {args : List Sl} {Q : Sl → (Nat → Option Sl) → Prop}
theorem tbD_eq (tab : Tab) : tbD tab = .tuple (tab.map lnD) := rfl
theorem tupI_eq (ns : List Int) : tupI ns = .tuple (ns.map .int) := rfl
theorem onQ_at {tab : Tab} {i : Nat} {l : Int × List Int} (h : tab[i]? = some l) (j : Nat) : onQ tab i j = if l.2 = [] then anewQ tab j else if (j : Int) ∈ l.2 then Rat.divInt 1 l.2.length else 0 := by
  unfold onQ
  rw [h]
  rfl
theorem len_pos {ns : List Int} (h : ¬ ns = []) : (0 : Int) < ns.length := by
  have := List.length_pos_iff.mpr h
  omega
theorem fr_zero : fr 0 = .tuple [.int 0, .int 1] := rfl
theorem h_on (hl : args.length = 3) (h : sp_on args Q) : t_on (KD Q) (startE 4 args) := by
  obtain ⟨m, tab, i, j, rfl, hT, hi, hj, k⟩ := h
  obtain ⟨l, hl2, hb, hd⟩ := tab_get hT hi
  have ha := at_tab hl2
  rw [onQ_at hl2] at k
  unfold t_on
  refine seq_i fun Kc hK => ?_
  nomatch tbD_eq, ha
  subst hK
  refine seq_i fun Kc hK => ?_
  by_cases c : l.2 = []
  · rw [if_pos c] at k
    nomatch tupI_eq, eqv_nil, sh_tup, sh_nil, c
    refine ⟨m, tab, j, by rw [tbD_eq], hT, hj, fun os => ?_⟩
    walk_at "go"
    exact k _
  · rw [if_neg c] at k
    nomatch tupI_eq, eqv_nil, sh_tup, sh_nil, c
    subst hK
    refine seq_i fun Kc hK => ?_
    by_cases c2 : (j : Int) ∈ l.2
    · rw [if_pos c2, one_div (len_pos c)] at k
      nomatch sh_tup, any_int, c2
      exact k _
    · rw [if_neg c2] at k
      nomatch sh_tup, any_int, c2
      subst hK
      walk_at "go"
      exact k _
theorem h_law_s_on (hl : args.length = 3) (h : sp_law_s_on args Q) : t_law_s_on (KD Q) (startE 3 args) := by
  obtain ⟨m, tab, i, j, rfl, hT, hi, hj, k⟩ := h
  obtain ⟨l, hl2, hb, hd⟩ := tab_get hT hi
  have ha := at_tab hl2
  rw [onQ_at hl2] at k
  unfold t_law_s_on
  refine seq_i fun Kc hK => ?_
  by_cases c : l.2 = []
  · rw [if_pos c] at k
    have c0 : ((l.2.length : Nat) : Int) = 0 := by rw [c]; rfl
    nomatch tbD_eq, ha, tupI_eq, c0
    refine ⟨m, tab, j, by rw [tbD_eq], hT, hj, fun os => ?_⟩
    walk_at "go"
    exact k _
  · rw [if_neg c] at k
    have c1 := len_pos c
    have c0 : ¬ ((l.2.length : Nat) : Int) = 0 := by omega
    nomatch tbD_eq, ha, tupI_eq, c0
    subst hK
    refine seq_i fun Kc hK => ?_
    by_cases c2 : (j : Int) ∈ l.2
    · rw [if_pos c2, one_div (len_pos c)] at k
      nomatch sh_tup, any_int, c2, ha, tupI_eq
      exact k _
    · rw [if_neg c2] at k
      nomatch sh_tup, any_int, c2, ha, tupI_eq
      subst hK
      walk_at "go"
      exact k _
end
end Dlk23

set_option Elab.async false
set_option linter.all false
set_option maxRecDepth 100000
set_option maxHeartbeats 4000000
set_option autoImplicit false
namespace Dlk23
open PySem PySem.Spec L2 DL
local macro_rules | `(tactic| walk_at "go") => `(tactic| simp only [outE_i, outE_n, sz0, sz1, sz2, sz3, sz4, sz5, sz6, sz7, sz8, sz9, sz10, sz11, sz12, sz13, sz14, sz15, sz16, ↓tdFr, ↓frE, ↓rdDivmod, ↓rdNotIn, ↓tdTru, ↓rdMulW, ↓rdGcd, ↓rdRgV, ↓tdRgI, ↓tdEnum2, ↓tdZip2, ↓tdPar, ↓tdRevA, ↓tdRevR, ↓rdDivP, ↓tdTupRg, ↓startE, ↓tdSeq, ↓tdSet, ↓tdSetD, ↓tdDrop, ↓tdRet, ↓tdIfS, ↓tdNext, ↓tdAsg, ↓tdV, ↓tdC, ↓tdBin, ↓tdB, ↓tdCons, ↓tdNil, ↓tdTup, ↓tdLst, ↓tdTest, ↓tdAnd, ↓tdOr, ↓tdNot, ↓tdIf, ↓tdAndV, ↓tdOrV, ↓tdNotV, ↓tdNeg, ↓tdIsN, ↓tdNotN, ↓tdSl, ↓tdPart, ↓tdNoPart, ↓tdM, ↓tdSetIx, ↓tdAug, ↓tdPut, ↓tdGet2, ↓tdIsi, ↓tdListRg, ↓gdName, ↓gdNil, ↓gdCons, ↓gdTup, ↓tdIt, ↓tdRng1, ↓tdRng2, ↓tdCall, ↓tdNew, ↓tdJoin, ↓gcName, ↓gcNil, ↓gcCons, ↓gcTup, ↓tdYes, ↓res, ↓resR, ↓resAll, ↓rvD, ↓rdLen, ↓rdInt, ↓rdAbs, ↓rdMax2, ↓rdMin2, ↓rdOrd, ↓rdTuple, ↓rdList, ↓rdIx, ↓rdAdd, ↓rdSub, ↓rdMul, ↓rdMod, ↓rdDiv, ↓rdPow, ↓rdCmp, ↓rdEq, ↓rdNe, ↓rdIadd, ↓rdIn, ↓rdSorted, ↓rdSl, ↓isT, ↓rdAppend, ↓itemsOf, ↓rvOf, ↓argsOf, ↓argOf, Nat.reduceAdd, Nat.reduceLT, Nat.reduceSub, Int.reduceLT, Int.reduceLE, Int.reduceAdd, Int.reduceEq, Int.reduceNeg, Nat.reduceLeDiff, Nat.zero_add, Nat.reduceEqDiff, Nat.reduceBEq, ix41, ix42, ix43, ix40, List.length_cons, List.length_nil, List.map_cons, List.map_nil, List.replicate, List.cons_append, List.nil_append, List.getElem?_cons_zero, List.getElem?_cons_succ, List.set_cons_zero, List.set_cons_succ, Option.map_some, at0, at1, at2, at3, ix0, ix1, ix2, ix3, sh_int, sh_bl, sh_non, eqv_int, eqv_bl, eqv_str, decide_eq_true_eq, Bool.not_eq_true, Bool.not_true, Bool.not_false, Bool.false_eq_true, true_and, and_true, if_true, if_false, ite_true, ite_false, List.length_map, List.length_set, Sl.isD, List.mem_singleton, List.mem_cons, List.not_mem_nil, not_true_eq_false, not_false_eq_true, or_false])
local macro_rules | `(tactic| nomatch $xs,*) => `(tactic| simp only [$[$xs:term],*, outE_i, outE_n, sz0, sz1, sz2, sz3, sz4, sz5, sz6, sz7, sz8, sz9, sz10, sz11, sz12, sz13, sz14, sz15, sz16, ↓tdFr, ↓frE, ↓rdDivmod, ↓rdNotIn, ↓tdTru, ↓rdMulW, ↓rdGcd, ↓rdRgV, ↓tdRgI, ↓tdEnum2, ↓tdZip2, ↓tdPar, ↓tdRevA, ↓tdRevR, ↓rdDivP, ↓tdTupRg, ↓startE, ↓tdSeq, ↓tdSet, ↓tdSetD, ↓tdDrop, ↓tdRet, ↓tdIfS, ↓tdNext, ↓tdAsg, ↓tdV, ↓tdC, ↓tdBin, ↓tdB, ↓tdCons, ↓tdNil, ↓tdTup, ↓tdLst, ↓tdTest, ↓tdAnd, ↓tdOr, ↓tdNot, ↓tdIf, ↓tdAndV, ↓tdOrV, ↓tdNotV, ↓tdNeg, ↓tdIsN, ↓tdNotN, ↓tdSl, ↓tdPart, ↓tdNoPart, ↓tdM, ↓tdSetIx, ↓tdAug, ↓tdPut, ↓tdGet2, ↓tdIsi, ↓tdListRg, ↓gdName, ↓gdNil, ↓gdCons, ↓gdTup, ↓tdIt, ↓tdRng1, ↓tdRng2, ↓tdCall, ↓tdNew, ↓tdJoin, ↓gcName, ↓gcNil, ↓gcCons, ↓gcTup, ↓tdYes, ↓res, ↓resR, ↓resAll, ↓rvD, ↓rdLen, ↓rdInt, ↓rdAbs, ↓rdMax2, ↓rdMin2, ↓rdOrd, ↓rdTuple, ↓rdList, ↓rdIx, ↓rdAdd, ↓rdSub, ↓rdMul, ↓rdMod, ↓rdDiv, ↓rdPow, ↓rdCmp, ↓rdEq, ↓rdNe, ↓rdIadd, ↓rdIn, ↓rdSorted, ↓rdSl, ↓isT, ↓rdAppend, ↓itemsOf, ↓rvOf, ↓argsOf, ↓argOf, Nat.reduceAdd, Nat.reduceLT, Nat.reduceSub, Int.reduceLT, Int.reduceLE, Int.reduceAdd, Int.reduceEq, Int.reduceNeg, Nat.reduceLeDiff, Nat.zero_add, Nat.reduceEqDiff, Nat.reduceBEq, ix41, ix42, ix43, ix40, List.length_cons, List.length_nil, List.map_cons, List.map_nil, List.replicate, List.cons_append, List.nil_append, List.getElem?_cons_zero, List.getElem?_cons_succ, List.set_cons_zero, List.set_cons_succ, Option.map_some, at0, at1, at2, at3, ix0, ix1, ix2, ix3, sh_int, sh_bl, sh_non, eqv_int, eqv_bl, eqv_str, decide_eq_true_eq, Bool.not_eq_true, Bool.not_true, Bool.not_false, Bool.false_eq_true, true_and, and_true, if_true, if_false, ite_true, ite_false, List.length_map, List.length_set, Sl.isD, List.mem_singleton, List.mem_cons, List.not_mem_nil, not_true_eq_false, not_false_eq_true, or_false])
theorem pr_eq (a b : Int) : pr a b = .tuple [.int a, .int b] := rfl
theorem fol_div {a d : Int} (h : 0 < a) (h2 : a < d) (h4 : d ≤ 20) : Fol (Rat.divInt a d) := by
  refine ⟨?_, ?_, ?_⟩
  · rw [show (0 : Rat) = Rat.divInt 0 1 by decide, lt_div (by decide) (by omega)]; omega
  · rw [show (1 : Rat) = Rat.divInt 1 1 by decide, lt_div (by omega) (by decide)]; omega
  · rw [Rat.den_divInt, if_neg (by omega)]
    exact Nat.le_trans (Nat.div_le_self _ _) (by omega)
/-- a comprehension over numbers that leaves out some, by what is drawn -/
theorem lc_sub {ti : TDI} {g : TDC} {tt : TDT} {te : TD} {vs : List Nat} {env : En} {Q : Rv → En → Prop} (xs : List Int) (J : En → Prop) (hti : ∀ R : List PyData → En → Prop, (∀ env1, J env1 → R (xs.map .int) env1) → ti env R) (hlen : xs.length ≤ 1000)
    (hs : ∀ x ∈ xs, ∀ env, J env → noOwn env vs ∧ ∀ (A : Prop) (B : En → Prop) (C : En → PyData → Prop), A → (∀ env, J env → B env) → (∀ env, J env → C env (.int x)) → g (.int x) (wipeE env vs) fun env2 => tt env2 fun b env3 => if b = true then te env3 fun rv env4 => (match rvD rv with
      | some y => A ∧ C (mergeE env env4 vs) y
      | none => False) else B (mergeE env env3 vs)) (hQ : ∀ (ns : List Int) (env : En), ns.Sublist xs → J env → Q (.n (.l (ns.map .int))) env) : tdLc ti g tt te vs env Q := by
  refine hti _ fun env1 h1 => ⟨fun i acc env => ∃ ns : List Int, acc = ns.map .int ∧ ns.Sublist (xs.take i) ∧ J env, ⟨[], rfl, List.nil_sublist _, h1⟩, fun i x acc env hx hP => ?_, fun acc env hP => ?_⟩
  · obtain ⟨ns, rfl, hn, hJ⟩ := hP
    rw [List.getElem?_map] at hx
    obtain ⟨z, hz, rfl⟩ := Option.map_eq_some_iff.mp hx
    have hi := (List.getElem?_eq_some_iff.mp hz).1
    obtain ⟨n1, n2⟩ := hs z (List.mem_of_getElem? hz) env hJ
    have hl := hn.length_le
    rw [List.length_take] at hl
    have et : xs.take (i + 1) = xs.take i ++ [z] := by rw [List.take_add_one, hz]; rfl
    refine ⟨n1, n2 _ (fun e => ∃ ms : List Int, ns.map PyData.int = ms.map .int ∧ ms.Sublist (xs.take (i + 1)) ∧ J e) (fun e y => ∃ ms : List Int, ns.map PyData.int ++ [y] = ms.map .int ∧ ms.Sublist (xs.take (i + 1)) ∧ J e) (Nat.lt_of_lt_of_le (show (ns.map PyData.int).length < 1001 by rw [List.length_map]; omega) (by decide)) (fun e hJ => ⟨ns, rfl, ?_, hJ⟩) fun e hJ => ⟨ns ++ [z], by rw [List.map_append]; rfl, ?_, hJ⟩⟩
    · rw [et]; exact hn.trans (List.sublist_append_left _ _)
    · rw [et]; exact hn.append (List.Sublist.refl _)
  · obtain ⟨ns, rfl, hn, hJ⟩ := hP
    rw [List.length_map, List.take_length] at hn
    exact hQ ns env hn hJ
theorem strict_uniq : ∀ {a b : List Int}, a.Pairwise (· < ·) → b.Pairwise (· < ·) → (∀ x, x ∈ a ↔ x ∈ b) → a = b
  | [], [], _, _, _ => rfl
  | [], y :: b, _, _, h => absurd ((h y).mpr List.mem_cons_self) (by simp)
  | x :: a, [], _, _, h => absurd ((h x).mp List.mem_cons_self) (by simp)
  | x :: a, y :: b, ha, hb, h => by
    have h1 : x ≤ y := by
      rcases List.mem_cons.mp ((h y).mpr List.mem_cons_self) with q | q
      · omega
      · have := List.rel_of_pairwise_cons ha q; omega
    have h2 : y ≤ x := by
      rcases List.mem_cons.mp ((h x).mp List.mem_cons_self) with q | q
      · omega
      · have := List.rel_of_pairwise_cons hb q; omega
    have e : x = y := by omega
    subst e
    rw [strict_uniq (List.Pairwise.of_cons ha) (List.Pairwise.of_cons hb) fun z => ?_]
    refine ⟨fun q => ?_, fun q => ?_⟩
    · rcases List.mem_cons.mp ((h z).mp (List.mem_cons_of_mem _ q)) with e | e
      · have := List.rel_of_pairwise_cons ha q; omega
      · exact e
    · rcases List.mem_cons.mp ((h z).mpr (List.mem_cons_of_mem _ q)) with e | e
      · have := List.rel_of_pairwise_cons hb q; omega
      · exact e
theorem rng_strict (m : Nat) (p : Nat → Bool) : (((List.range m).filter p).map fun j : Nat => (j : Int)).Pairwise (· < ·) := by
  rw [List.pairwise_map]
  refine (List.Pairwise.filter p (List.pairwise_lt_range (n := m))).imp fun {a b} h => ?_
  omega
theorem oth_ok (m i : Nat) : LeadOk m i (((List.range m).filter fun j => decide (j ≠ i)).map fun j : Nat => (j : Int)) := by
  refine ⟨rng_strict _ _, fun j hj => ?_⟩
  obtain ⟨k, hk, rfl⟩ := List.mem_map.mp hj
  obtain ⟨h1, h2⟩ := List.mem_filter.mp hk
  have := List.mem_range.mp h1
  have := of_decide_eq_true h2
  omega
theorem map_nat (ns : List Nat) : (ns.map fun j : Nat => PyData.int (j : Int)) = (ns.map fun j : Nat => (j : Int)).map .int := by rw [List.map_map]; rfl
theorem LeadOk.sub {m : Nat} {i : Int} {ns ms : List Int} (h : LeadOk m i ns) (s : ms.Sublist ns) : LeadOk m i ms := ⟨h.1.sublist s, fun j hj => h.2 j (s.subset hj)⟩
section
variable {args : List Sl} {Q : Sl → (Nat → Option Sl) → Prop}
theorem h_law_b_follow (hl : args.length = 1) (h : sp_law_b_follow args Q) : t_law_b_follow (KD Q) (startE 2 args) := by
  obtain ⟨tp, rfl, ht, k⟩ := h
  unfold t_law_b_follow
  refine seq_i fun Kc hK => ?_
  walk_at "go"
  refine draw_i (by first | decide | omega) (by assumption) (by first | decide | omega) fun z tp0 _ t0 z0 z1 => ?_
  walk_at "go"
  refine pick_ints [2, 2, 3, 4, 20, 2 + z] (fun n => 2 ≤ n ∧ n ≤ 20) (by rfl) (by simp) t0 (fun n hn => ?_) fun n tp1 _ t1 hn => ?_
  · simp only [List.mem_cons, List.not_mem_nil, or_false] at hn
    omega
  walk_at "go"
  subst hK
  walk_at "go"
  refine draw_i (by first | decide | omega) (by assumption) (by first | decide | omega) fun a tp2 _ t2 a0 a1 => ?_
  walk_at "go"
  refine ⟨_, _, rfl, ⟨(sm10 (by omega) (by omega)).mono (by decide), (sm10 (by omega) (by omega)).mono (by decide)⟩, by omega, fun os => ?_⟩
  walk_at "go"
  exact k _ _ _ (fol_div (by omega) (by omega) (by omega)) t2 rfl
theorem h_law_tape (hl : args.length = 1) (h : sp_law_tape args Q) : t_law_tape (KD Q) (startE 3 args) := hTape args Q hl h
theorem h_law_draw (hl : args.length = 2) (h : sp_law_draw args Q) : t_law_draw (KD Q) (startE 4 args) := hDraw args Q hl h
theorem h_law_pick (hl : args.length = 2) (h : sp_law_pick args Q) : t_law_pick (KD Q) (startE 2 args) := hPick args Q hl h
theorem h_law_turns (hl : args.length = 2) (h : sp_law_turns args Q) : t_law_turns (KD Q) (startE 5 args) := hTurns args Q hl h
theorem sh456 : SeqAt.shaped (.list [.int 4, .int 5, .int 6]) = true := sh_ints [4, 5, 6]
theorem h_law_b_web (hl : args.length = 2) (h : sp_law_b_web args Q) : t_law_b_web (KD Q) (startE 10 args) := by
  obtain ⟨tp, m, rfl, hm, ht, k⟩ := h
  unfold t_law_b_web
  refine seq_i fun Kc hK => ?_
  walk_at "go"
  refine draw_i (by first | decide | omega) (by assumption) (by first | decide | omega) fun s tp1 _ t1 s0 s1 => ?_
  walk_at "go"
  subst hK
  refine seq_i fun Kc hK => ?_
  walk_at "go"
  refine pick_ints [1, 1, 3, 9] (fun n => 1 ≤ n ∧ n ≤ 9) (by rfl) (by simp) t1 (by decide) fun hv tp2 _ t2 hh => ?_
  walk_at "go"
  subst hK
  refine seq_i fun Kc hK => ?_
  walk_at "go"
  refine draw_i (by first | decide | omega) (by assumption) (by first | decide | omega) fun g tp3 _ t3 g0 g1 => ?_
  walk_at "go"
  subst hK
  refine seq_i fun Kc hK => ?_
  walk_at "go"
  subst hK
  refine seq_i fun Kc hK => ?_
  refine for_i fun Kx hKx => ?_
  walk_at "go"
  refine ⟨by omega, ?_⟩
  refine hKx _ _ ⟨fun i env => ∃ tp, ∃ tab : Tab, ∃ x6 x7 x9, env = [some (.l (tp)), some (.d (.int (m))), some (.d (.int (s))), some (.d (.int (hv))), some (.d (.int (g))), some (.l (tab.map lnD)), x6, x7, none, x9] ∧ TapeOk tp ∧ tab.length = i ∧ ∀ (i' : Nat) l, tab[i']? = some l → (1 ≤ l.1 ∧ l.1 ≤ 9) ∧ LeadOk m i' l.2, ⟨_, [], _, _, _, rfl, t3, rfl, fun i' l hl => by simp at hl⟩, fun i x env hx hP => ?_, fun env hP => ?_⟩
  · obtain ⟨tp4, tab, x6, x7, x9, rfl, t4, htab, hI⟩ := hP
    obtain ⟨rfl, hi⟩ := rng_at hx
    refine ⟨by simp, ?_⟩
    refine seq_i fun Kc hK => ?_
    simp only [↓tdSetD]
    refine lc_if (List.range m) (fun j => .int (j : Nat)) (fun j => .int (j : Nat)) (fun j => decide (j ≠ i)) (fun R hR => ?_) (small_of (by rw [List.length_range]; omega)) (by simp [noOwn]) (fun j hj A B C hA hB hC => ?_) ?_
    · walk_at "go"
      rw [rng_map]
      exact ⟨by omega, hR⟩
    · by_cases c : j = i
      · have c0 : ((j : Nat) : Int) = (i : Nat) := by omega
        nomatch wipeE, mergeE, c0, decide_true, decide_false
        exact hB (by rw [c]; simp)
      · have c0 : ¬ ((j : Nat) : Int) = (i : Nat) := by omega
        nomatch wipeE, mergeE, c0, decide_true, decide_false
        exact ⟨hA, hC (decide_eq_true c)⟩
    rw [map_nat]
    have hos := oth_ok m i
    generalize (((List.range m).filter fun j => decide (j ≠ i)).map fun j : Nat => (j : Int)) = os at hos
    have hon := hos.len
    walk_at "go"
    subst hK
    refine seq_i fun Kc hK => ?_
    simp only [↓tdSetD]
    refine lc_sub os (fun env => ∃ tp, TapeOk tp ∧ env = [some (.l (tp)), some (.d (.int (m))), some (.d (.int (s))), some (.d (.int (hv))), some (.d (.int (g))), some (.l (tab.map lnD)), some (.d (.int (i))), some (.d (.list (os.map .int))), none, x9]) (fun R hR => ?_) (by omega) (fun x hx env hJ => ?_) (fun ns env hsub hJ => ?_)
    · walk_at "go"
      exact hR _ ⟨_, t4, rfl⟩
    · obtain ⟨tp, ht, rfl⟩ := hJ
      refine ⟨by simp [noOwn], fun A B C hA hB hC => ?_⟩
      nomatch wipeE
      refine draw_i (by omega) ht (by omega) fun r tp5 os t5 _ _ => ?_
      by_cases c : r = 0
      · nomatch c, mergeE, decide_true
        exact ⟨hA, hC _ ⟨_, t5, rfl⟩⟩
      · nomatch c, mergeE, decide_false
        exact hB _ ⟨_, t5, rfl⟩
    obtain ⟨tp5, t5, rfl⟩ := hJ
    have hns := hos.sub hsub
    have hnn := hns.len
    walk_at "go"
    subst hK
    refine seq_i fun Kc hK => ?_
    have fin : ∀ ns, LeadOk m i ns → Kc [some (.l (tp5)), some (.d (.int (m))), some (.d (.int (s))), some (.d (.int (hv))), some (.d (.int (g))), some (.l (tab.map lnD)), some (.d (.int (i))), some (.d (.list (os.map .int))), none, some (.d (.list (ns.map .int)))] := by
      intro ns hn
      have hnl := hn.len
      subst hK
      refine seq_i fun Kc hK => ?_
      have fin2 : ∀ ns, LeadOk m i ns → Kc [some (.l (tp5)), some (.d (.int (m))), some (.d (.int (s))), some (.d (.int (hv))), some (.d (.int (g))), some (.l (tab.map lnD)), some (.d (.int (i))), some (.d (.list (os.map .int))), none, some (.d (.list (ns.map .int)))] := by
        intro ns hn
        subst hK
        walk_at "go"
        refine draw_i (by first | decide | omega) (by assumption) (by first | decide | omega) fun r tp6 _ t6 r0 r1 => ?_
        walk_at "go"
        refine ⟨Nat.lt_of_lt_of_le (show tab.length < 1001 by omega) (by decide), tp6, tab ++ [(1 + r, ns)], _, _, _, by rw [List.map_append]; rfl, t6, by rw [List.length_append, htab]; rfl, fun i' l hl => ?_⟩
        by_cases c : i' < tab.length
        · rw [List.getElem?_append_left c] at hl
          exact hI i' l hl
        · rw [List.getElem?_append_right (by omega)] at hl
          have hlt := (List.getElem?_eq_some_iff.mp hl).1
          simp only [List.length_cons, List.length_nil] at hlt
          have e : i' = i := by omega
          subst e
          rw [show i' - tab.length = 0 by omega] at hl
          cases hl
          exact ⟨by dsimp only; omega, hn⟩
      by_cases hb : (([PyData.int 4, .int 5, .int 6].any fun z => PyData.eqv z (.int s)) = true)
      · by_cases c0 : ((ns.length : Nat) : Int) = 0
        · nomatch hb, sh456, c0, decide_true, decide_false
          refine lc_if os PyData.int PyData.int (fun z => decide (z ≠ g) || decide (4 < s)) (fun R hR => ?_) (small_of (by omega)) (by simp [noOwn]) (fun x hx A B C hA hB hC => ?_) ?_
          · walk_at "go"
            exact hR
          · by_cases cx : x = g
            · by_cases cy : 4 < s
              · nomatch wipeE, mergeE, cx, cy, decide_true, decide_false
                exact ⟨hA, by rw [← cx]; exact hC (by rw [decide_eq_true cy]; simp)⟩
              · nomatch wipeE, mergeE, cx, cy, decide_true, decide_false
                exact hB (by rw [decide_eq_false cy, cx]; simp)
            · nomatch wipeE, mergeE, cx, decide_true, decide_false
              exact ⟨hA, hC (by rw [decide_eq_true cx]; rfl)⟩
          have c1 : ∀ l : List Int, cutL (l.map PyData.int) none (some 1) = (l.take 1).map .int := fun l => cut_lo PyData.int l 1
          nomatch c1
          exact fin2 _ ((hos.sub (List.filter_sublist ..)).sub (List.take_sublist ..))
        · nomatch hb, sh456, c0, decide_true, decide_false
          exact fin2 ns hn
      · nomatch hb, sh456, decide_true, decide_false
        exact fin2 ns hn
    by_cases z0 : s = 0
    · subst z0
      nomatch decide_true, decide_false
      refine lc_if os PyData.int PyData.int (fun z => decide (z = ((i : Int) + 1) % (m : Nat))) (fun R hR => ?_) (small_of (by omega)) (by simp [noOwn]) (fun x hx A B C hA hB hC => ?_) ?_
      · walk_at "go"
        exact hR
      · by_cases cx : x = ((i : Int) + 1) % (m : Nat)
        · nomatch wipeE, mergeE, cx, decide_true, decide_false
          exact ⟨by omega, hA, (by first | exact hC (decide_eq_true cx) | (rw [← cx]; exact hC (decide_eq_true cx)))⟩
        · nomatch wipeE, mergeE, cx, decide_true, decide_false
          exact ⟨by omega, hB (decide_eq_false cx)⟩
      walk_at "go"
      exact fin _ (hos.sub (List.filter_sublist ..))
    by_cases z1 : s = 1
    · subst z1
      by_cases cg : (i : Int) = g
      · nomatch cg, decide_true, decide_false
        have f2 := fin ns hns
        rw [cg] at f2
        exact f2
      · nomatch cg, decide_true, decide_false
        exact fin [g] ⟨by simp, fun j hj => by rw [List.mem_singleton.mp hj]; exact ⟨by omega, by omega, fun e => cg e.symm⟩⟩
    by_cases z2 : s = 2
    · subst z2
      nomatch decide_true, decide_false
      exact fin os hos
    by_cases z3 : s = 3
    · subst z3
      nomatch decide_true, decide_false
      refine lc_if os PyData.int PyData.int (fun z => decide (z / 2 = (i : Int) / 2)) (fun R hR => ?_) (small_of (by omega)) (by simp [noOwn]) (fun x hx A B C hA hB hC => ?_) ?_
      · walk_at "go"
        exact hR
      · by_cases cx : x / 2 = (i : Int) / 2
        · nomatch wipeE, mergeE, cx, decide_true, decide_false
          exact ⟨divP (by decide) (by decide), divP (by decide) (by decide), hA, (by first | exact hC (decide_eq_true cx) | (rw [← cx]; exact hC (decide_eq_true cx)))⟩
        · nomatch wipeE, mergeE, cx, decide_true, decide_false
          exact ⟨divP (by decide) (by decide), divP (by decide) (by decide), hB (decide_eq_false cx)⟩
      walk_at "go"
      exact fin _ (hos.sub (List.filter_sublist ..))
    by_cases z4 : s = 4
    · subst z4
      nomatch decide_true, decide_false
      refine lc_if ns PyData.int PyData.int (fun z => decide (z ≠ g)) (fun R hR => ?_) (small_of (by omega)) (by simp [noOwn]) (fun x hx A B C hA hB hC => ?_) ?_
      · walk_at "go"
        exact hR
      · by_cases cx : x = g
        · nomatch wipeE, mergeE, cx, decide_true, decide_false
          exact hB (by rw [cx]; simp)
        · nomatch wipeE, mergeE, cx, decide_true, decide_false
          exact ⟨hA, hC (decide_eq_true cx)⟩
      walk_at "go"
      exact fin _ (hns.sub (List.filter_sublist ..))
    nomatch z0, z1, z2, z3, z4, decide_true, decide_false
    exact fin ns hns
  · obtain ⟨tp4, tab, x6, x7, x9, rfl, t4, htab, hI⟩ := hP
    rw [rng_len] at htab
    subst hK
    walk_at "go"
    exact k tab _ _ ⟨by omega, by omega, hI⟩ t4 rfl
end
end Dlk23

set_option Elab.async false
set_option linter.all false
set_option maxRecDepth 100000
set_option maxHeartbeats 4000000
set_option autoImplicit false
namespace Dlk23
open PySem PySem.Spec L2 DL
/-! ### sums over labels -/
theorem sm_congr : ∀ {ks : List Nat} {f g : Nat → Rat}, (∀ i ∈ ks, f i = g i) → sm ks f = sm ks g
  | [], _, _, _ => rfl
  | i :: r, f, g, h => by
    rw [sm, sm, h i List.mem_cons_self, sm_congr fun j hj => h j (List.mem_cons_of_mem _ hj)]
theorem sm_add : ∀ (ks : List Nat) (f g : Nat → Rat), sm ks (fun i => f i + g i) = sm ks f + sm ks g
  | [], _, _ => by simp only [sm]; grind
  | i :: r, f, g => by rw [sm, sm, sm, sm_add r f g]; grind
theorem sm_mul : ∀ (ks : List Nat) (f : Nat → Rat) (c : Rat), sm ks (fun i => f i * c) = sm ks f * c
  | [], _, _ => by simp only [sm]; grind
  | i :: r, f, c => by rw [sm, sm, sm_mul r f c]; grind
theorem sm_perm {a b : List Nat} (h : a.Perm b) (f : Nat → Rat) : sm a f = sm b f := by
  induction h with
  | nil => rfl
  | cons x _ ih => rw [sm, sm, ih]
  | swap x y l => simp only [sm]; grind
  | trans _ _ h1 h2 => exact h1.trans h2
theorem sm_app : ∀ (a b : List Nat) (f : Nat → Rat), sm (a ++ b) f = sm a f + sm b f
  | [], b, f => by rw [List.nil_append, sm]; grind
  | i :: r, b, f => by rw [List.cons_append, sm, sm, sm_app r b f]; grind
theorem sm_nn : ∀ (ks : List Nat) (f : Nat → Rat), (∀ i ∈ ks, 0 < f i) → 0 ≤ sm ks f
  | [], _, _ => Rat.le_refl
  | i :: r, f, h => by
    have h1 := sm_nn r f fun j hj => h j (List.mem_cons_of_mem _ hj)
    have h2 := h i List.mem_cons_self
    rw [sm]; grind
theorem sm_pos {ks : List Nat} {f : Nat → Rat} (hn : ks ≠ []) (h : ∀ i ∈ ks, 0 < f i) : 0 < sm ks f := by
  cases ks with
  | nil => exact absurd rfl hn
  | cons i r =>
    have h1 := sm_nn r f fun j hj => h j (List.mem_cons_of_mem _ hj)
    have h2 := h i List.mem_cons_self
    rw [sm]; grind
theorem strictN_uniq : ∀ {a b : List Nat}, a.Pairwise (· < ·) → b.Pairwise (· < ·) → (∀ x, x ∈ a ↔ x ∈ b) → a = b
  | [], [], _, _, _ => rfl
  | [], y :: b, _, _, h => absurd ((h y).mpr List.mem_cons_self) (by simp)
  | x :: a, [], _, _, h => absurd ((h x).mp List.mem_cons_self) (by simp)
  | x :: a, y :: b, ha, hb, h => by
    have h1 : x ≤ y := by
      rcases List.mem_cons.mp ((h y).mpr List.mem_cons_self) with q | q
      · omega
      · have := List.rel_of_pairwise_cons ha q; omega
    have h2 : y ≤ x := by
      rcases List.mem_cons.mp ((h x).mp List.mem_cons_self) with q | q
      · omega
      · have := List.rel_of_pairwise_cons hb q; omega
    have e : x = y := by omega
    subst e
    rw [strictN_uniq (List.Pairwise.of_cons ha) (List.Pairwise.of_cons hb) fun z => ?_]
    refine ⟨fun q => ?_, fun q => ?_⟩
    · rcases List.mem_cons.mp ((h z).mp (List.mem_cons_of_mem _ q)) with e | e
      · have := List.rel_of_pairwise_cons ha q; omega
      · exact e
    · rcases List.mem_cons.mp ((h z).mpr (List.mem_cons_of_mem _ q)) with e | e
      · have := List.rel_of_pairwise_cons hb q; omega
      · exact e
def ge (S : List Nat) (p : Nat) : List Nat := S.filter fun s => decide (p ≤ s)
theorem sm_map (l : List Nat) (g : Nat → Nat) (f : Nat → Rat) : sm (l.map g) f = sm l (fun i => f (g i)) := by
  induction l with
  | nil => rfl
  | cons a r ih => rw [List.map_cons, sm, sm, ih]
def labI (ps : List Int) (o : Nat) : Int := (ps[o]?).getD 0
theorem labI_all : ∀ ps : List Int, (List.range ps.length).map (labI ps) = ps
  | [] => rfl
  | a :: r => by
    rw [List.length_cons, List.range_succ_eq_map, List.map_cons, List.map_map]
    have e : (labI (a :: r) ∘ Nat.succ) = labI r := by funext o; simp [labI]
    rw [e, labI_all r]
    rfl
theorem sm_div {N : Int} (hN : 0 < N) : ∀ ps : List Int, sm (List.range ps.length) (fun j => Rat.divInt (labI ps j) N) = Rat.divInt ps.sum N
  | [] => by simp [sm]
  | a :: r => by
    rw [List.length_cons, List.range_succ_eq_map, sm, sm_map]
    have e : (fun i => Rat.divInt (labI (a :: r) (Nat.succ i)) N) = fun i => Rat.divInt (labI r i) N := by funext o; simp [labI]
    rw [e, sm_div hN r, List.sum_cons]
    have e0 : labI (a :: r) 0 = a := rfl
    rw [e0, Rat.divInt_eq_div, Rat.divInt_eq_div, Rat.divInt_eq_div, Rat.intCast_add]
    grind
theorem sum_bd2 {m : Int} : ∀ (ns : List Int), (∀ n ∈ ns, 1 ≤ n ∧ n ≤ m) → (ns.length : Int) ≤ ns.sum ∧ ns.sum ≤ m * ns.length
  | [], _ => by simp
  | n :: r, h => by
    have h1 := sum_bd2 r fun x hx => h x (List.mem_cons_of_mem _ hx)
    have h2 := h n List.mem_cons_self
    rw [List.sum_cons, List.length_cons]
    have : m * ((r.length + 1 : Nat) : Int) = m * (r.length : Nat) + m := by rw [Int.natCast_add, Int.mul_add]; simp
    rw [this]
    omega
/-! the steps of a web -/
theorem anew_eq (tab : Tab) (j : Nat) : anewQ tab j = Rat.divInt (labI (tab.map (·.1)) j) (sumS tab) := by
  unfold anewQ labI
  rw [List.getElem?_map]
  cases tab[j]? <;> rfl
theorem anew_one {m : Nat} {tab : Tab} (h : TabOk m tab) : sm (List.range m) (anewQ tab) = 1 := by
  have hs := tab_sum h
  have e := sm_div (N := sumS tab) (by omega) (tab.map (·.1))
  rw [List.length_map, h.1] at e
  rw [sm_congr fun j _ => anew_eq tab j, e]
  exact Rat.divInt_self' (by show sumS tab ≠ 0; omega)
theorem sm_if (c : Rat) (p : Nat → Prop) [DecidablePred p] : ∀ ks : List Nat, sm ks (fun j => if p j then c else 0) = c * (((ks.filter fun j => decide (p j)).length : Nat) : Rat)
  | [] => by simp [sm]
  | k :: r => by
    rw [sm, sm_if c p r]
    by_cases q : p k
    · rw [if_pos q, List.filter_cons, if_pos (decide_eq_true q), List.length_cons, Rat.natCast_add]
      have : ((1 : Nat) : Rat) = 1 := rfl
      rw [this]; grind
    · rw [if_neg q, List.filter_cons, if_neg (fun z => q (of_decide_eq_true z))]
      grind
theorem lead_cnt {m : Nat} {i : Int} {ns : List Int} (h : LeadOk m i ns) : ((List.range m).filter fun j : Nat => decide ((j : Int) ∈ ns)).length = ns.length := by
  have e : ((List.range m).filter fun j : Nat => decide ((j : Int) ∈ ns)) = ns.map Int.toNat := by
    refine strictN_uniq (List.Pairwise.filter _ List.pairwise_lt_range) ?_ fun x => ?_
    · rw [List.pairwise_map]
      exact h.1.imp_of_mem fun {a c} ha hc q => by have := (h.2 a ha).1; have := (h.2 c hc).1; omega
    · rw [List.mem_filter, List.mem_range, decide_eq_true_eq, List.mem_map]
      constructor
      · exact fun q => ⟨(x : Int), q.2, by simp⟩
      · rintro ⟨z, hz, rfl⟩
        have := h.2 z hz
        refine ⟨by omega, ?_⟩
        rw [Int.toNat_of_nonneg this.1]; exact hz
  rw [e, List.length_map]
theorem on_one {m : Nat} {tab : Tab} (h : TabOk m tab) {i : Nat} (hi : i < m) : sm (List.range m) (onQ tab i) = 1 := by
  obtain ⟨l, hl, _, hd⟩ := tab_get h hi
  by_cases c : l.2 = []
  · rw [sm_congr fun j _ => by rw [onQ_at hl, if_pos c]]
    exact anew_one h
  · rw [sm_congr (g := fun j : Nat => if (j : Int) ∈ l.2 then Rat.divInt 1 l.2.length else 0) fun j _ => by rw [onQ_at hl, if_neg c], sm_if (Rat.divInt 1 l.2.length) fun j : Nat => (j : Int) ∈ l.2]
    rw [lead_cnt hd, Rat.divInt_eq_div]
    have h0 := len_pos c
    have e1 : (((l.2.length : Nat) : Int) : Rat) = ((l.2.length : Nat) : Rat) := rfl
    have e2 : ((1 : Int) : Rat) = 1 := rfl
    rw [e1, e2]
    exact Rat.div_mul_cancel (fun z => by have := Rat.natCast_eq_zero_iff.mp z; omega)
theorem anew_pos {m : Nat} {tab : Tab} (h : TabOk m tab) {j : Nat} (hj : j < m) : 0 < anewQ tab j := by
  obtain ⟨l, hl, hb, _⟩ := tab_get h hj
  have := tab_sum h
  unfold anewQ
  rw [hl, show (0 : Rat) = Rat.divInt 0 1 by decide, lt_div (by decide) (by omega)]
  show _ < l.1 * _
  omega
theorem on_nn {m : Nat} {tab : Tab} (h : TabOk m tab) {i j : Nat} (hi : i < m) (hj : j < m) : 0 ≤ onQ tab i j := by
  obtain ⟨l, hl, _, _⟩ := tab_get h hi
  rw [onQ_at hl]
  split
  · exact Rat.le_of_lt (anew_pos h hj)
  · split
    · exact (Rat.divInt_nonneg_iff_of_pos_right (len_pos (by assumption))).mpr (by decide)
    · exact Rat.le_refl

theorem sm_nn0 : ∀ (ks : List Nat) (f : Nat → Rat), (∀ i ∈ ks, 0 ≤ f i) → 0 ≤ sm ks f
  | [], _, _ => Rat.le_refl
  | i :: r, f, h => by
    have h1 := sm_nn0 r f fun j hj => h j (List.mem_cons_of_mem _ hj)
    have h2 := h i List.mem_cons_self
    rw [sm]; grind
theorem sm_le : ∀ (ks : List Nat) (f g : Nat → Rat), (∀ i ∈ ks, f i ≤ g i) → sm ks f ≤ sm ks g
  | [], _, _, _ => Rat.le_refl
  | i :: r, f, g, h => by
    have h1 := sm_le r f g fun j hj => h j (List.mem_cons_of_mem _ hj)
    have h2 := h i List.mem_cons_self
    rw [sm, sm]; grind
theorem sm_zero0 : ∀ (ks : List Nat) (f : Nat → Rat), (∀ i ∈ ks, f i = 0) → sm ks f = 0
  | [], _, _ => rfl
  | i :: r, f, h => by
    rw [sm, h i List.mem_cons_self, sm_zero0 r f fun j hj => h j (List.mem_cons_of_mem _ hj)]; grind
theorem sm_filter (p : Nat → Bool) (f : Nat → Rat) : ∀ ks : List Nat, sm (ks.filter p) f = sm ks fun i => if p i = true then f i else 0
  | [] => rfl
  | k :: r => by
    rw [sm, ← sm_filter p f r]
    by_cases c : p k = true
    · rw [List.filter_cons_of_pos c, if_pos c, sm]
    · rw [List.filter_cons_of_neg c, if_neg c]; grind
theorem foldl_sm (f : Nat → Rat) : ∀ (ks : List Nat) (a : Rat), (ks.map f).foldl (· + ·) a = a + sm ks f
  | [], a => by rw [List.map_nil, List.foldl_nil, sm]; grind
  | i :: r, a => by rw [List.map_cons, List.foldl_cons, foldl_sm f r, sm]; grind
theorem sumQ_sm (f : Nat → Rat) (ks : List Nat) : sumQ (ks.map f) = sm ks f := by unfold sumQ; rw [foldl_sm]; grind
theorem sm_sr (f : Nat → Rat) : ∀ n, sm (List.range n) f = Dm.sr n f
  | 0 => rfl
  | n + 1 => by rw [List.range_succ, sm_app, sm_sr f n, Dm.sr, sm, sm]; grind
/-- spots, and the rest of them -/
theorem rest_perm {n : Nat} {S : List Nat} (h : Spots n S) : (rest n S ++ S).Perm (List.range n) := by
  have nd : S.Nodup := h.1.imp fun q => Nat.ne_of_lt q
  refine (List.perm_ext_iff_of_nodup (List.nodup_append.mpr ⟨List.Pairwise.filter _ List.nodup_range, nd, fun a ha c hc e => ?_⟩) List.nodup_range).mpr fun i => ⟨fun hi => ?_, fun hi => ?_⟩
  · subst e
    exact absurd hc (of_decide_eq_true (List.mem_filter.mp ha).2)
  · rcases List.mem_append.mp hi with q | q
    · exact (List.mem_filter.mp q).1
    · exact List.mem_range.mpr (h.2 i q)
  · by_cases c : i ∈ S
    · exact List.mem_append_right _ c
    · exact List.mem_append_left _ (List.mem_filter.mpr ⟨hi, decide_eq_true c⟩)
theorem rest_sum {n : Nat} {S : List Nat} (h : Spots n S) (f : Nat → Rat) : sm (rest n S) f + sm S f = sm (List.range n) f := by rw [← sm_app, sm_perm (rest_perm h)]
theorem rest_ok (n : Nat) (S : List Nat) : Spots n (rest n S) := ⟨List.Pairwise.filter _ List.pairwise_lt_range, fun i hi => List.mem_range.mp (List.mem_filter.mp hi).1⟩
theorem Spots.len {n : Nat} {S : List Nat} (h : Spots n S) : S.length ≤ n := by
  have := (rest_perm h).length_eq
  rw [List.length_append, List.length_range] at this
  omega
theorem rs_sm {b : Nat} {f : Nat → Rat} : ∀ {ks : List Nat}, (∀ i ∈ ks, Rs b (f i)) → Rs (1 + (b + 1) * ks.length) (sm ks f)
  | [], _ => rs_zero
  | i :: r, h => by
    rw [sm, List.length_cons, Nat.mul_succ]
    exact (rs_add (h i List.mem_cons_self) (rs_sm fun j hj => h j (List.mem_cons_of_mem _ hj))).mono (by omega)
/-! weights -/
theorem sum_pos : ∀ {xs : List Int}, xs ≠ [] → (∀ x ∈ xs, 0 < x) → 0 < xs.sum
  | [], h, _ => absurd rfl h
  | [x], _, h => by simp; exact h x List.mem_cons_self
  | x :: y :: r, _, h => by
    have h1 := sum_pos (xs := y :: r) (by simp) fun z hz => h z (List.mem_cons_of_mem _ hz)
    have h2 := h x List.mem_cons_self
    rw [List.sum_cons]; omega
theorem sum_abs {b : Nat} : ∀ {xs : List Int}, (∀ x ∈ xs, Sm b x) → xs.sum.natAbs ≤ xs.length * 2 ^ b
  | [], _ => by simp
  | x :: r, h => by
    have h1 := sum_abs fun z hz => h z (List.mem_cons_of_mem _ hz)
    have h2 := h x List.mem_cons_self
    unfold Sm at h2
    rw [List.sum_cons, List.length_cons, Nat.succ_mul]
    have := Int.natAbs_add_le x r.sum
    omega
theorem sum_sm {b : Nat} {xs : List Int} (h : ∀ x ∈ xs, Sm b x) (hl : xs.length ≤ 12) : Sm (b + 4) xs.sum := by
  have := sum_abs h
  unfold Sm
  rw [Nat.pow_add]
  have h2 : xs.length * 2 ^ b ≤ 12 * 2 ^ b := Nat.mul_le_mul_right _ hl
  have := Nat.two_pow_pos b
  omega
theorem nx_mem {n : Nat} {xs : List Int} (h : NumOk n xs) {i : Nat} (hi : i < n) : xs[i]? = some (nx xs i) ∧ nx xs i ∈ xs := by
  have h1 : xs[i]? = some (xs[i]'(by rw [h.1]; exact hi)) := List.getElem?_eq_getElem _
  have e : nx xs i = xs[i]'(by rw [h.1]; exact hi) := by unfold nx; rw [h1]; rfl
  rw [e]
  exact ⟨h1, List.getElem_mem _⟩
theorem num_tot {n : Nat} {xs : List Int} (h : NumOk n xs) (hn : 1 ≤ n ∧ n ≤ 12) : 0 < xs.sum ∧ Sm 204 xs.sum := by
  have hl := h.1
  refine ⟨sum_pos (fun e => by rw [e] at hl; simp at hl; omega) fun x hx => (h.2 x hx).1, sum_sm (b := 200) (fun x hx => (h.2 x hx).2) (by omega)⟩
theorem wt_pos {n : Nat} {xs : List Int} (h : NumOk n xs) (hn : 1 ≤ n ∧ n ≤ 12) {i : Nat} (hi : i < n) : 0 < wt xs i := by
  have h1 := num_tot h hn
  have h2 := (h.2 _ (nx_mem h hi).2).1
  unfold wt
  rw [show (0 : Rat) = Rat.divInt 0 1 by decide, lt_div (by decide) h1.1]
  omega
theorem rs_wt {n : Nat} {xs : List Int} (h : NumOk n xs) (hn : 1 ≤ n ∧ n ≤ 12) {i : Nat} (hi : i < n) : Rs 205 (wt xs i) := by
  have h1 := num_tot h hn
  have h2 := (h.2 _ (nx_mem h hi).2).2
  exact rs_div (h2.mono (by decide)) (h1.2.mono (by decide)) (by decide) h1.1
theorem sum_divI {N : Int} (hN : 0 < N) (f : Nat → Int) : ∀ ks : List Nat, sm ks (fun i => Rat.divInt (f i) N) = Rat.divInt (ks.map f).sum N
  | [] => by simp [sm]
  | k :: r => by
    rw [sm, sum_divI hN f r, List.map_cons, List.sum_cons, Rat.divInt_add_divInt _ _ (by omega) (by omega), ← Int.add_mul, Rat.divInt_mul_right (by omega)]
theorem wt_sum {n : Nat} {xs : List Int} (h : NumOk n xs) (hn : 1 ≤ n ∧ n ≤ 12) (S : List Nat) : sm S (wt xs) = Rat.divInt (S.map (nx xs)).sum xs.sum := sum_divI (num_tot h hn).1 _ S
theorem nx_all : ∀ xs : List Int, (List.range xs.length).map (nx xs) = xs := labI_all
theorem wt_one {n : Nat} {xs : List Int} (h : NumOk n xs) (hn : 1 ≤ n ∧ n ≤ 12) : sm (List.range n) (wt xs) = 1 := by
  rw [wt_sum h hn, ← h.1, nx_all]
  exact Rat.divInt_self' (by have := (num_tot h hn).1; omega)
theorem at_num {n : Nat} {xs : List Int} (h : NumOk n xs) {i : Nat} (hi : i < n) : atI (xs.map PyData.int) (i : Int) = some (.int (nx xs i)) := atI_nat (by rw [List.getElem?_map, (nx_mem h hi).1]; rfl)
theorem rs_wts {n : Nat} {xs : List Int} (h : NumOk n xs) (hn : 1 ≤ n ∧ n ≤ 12) {S : List Nat} (hS : S.length ≤ 12 ∧ ∀ i ∈ S, i < n) : Rs 205 (sm S (wt xs)) ∧ Sm 204 (S.map (nx xs)).sum := by
  have h1 := num_tot h hn
  have h2 : Sm 204 (S.map (nx xs)).sum := sum_sm (b := 200) (fun x hx => by
    obtain ⟨i, hi, rfl⟩ := List.mem_map.mp hx
    exact (h.2 _ (nx_mem h (hS.2 i hi)).2).2) (by rw [List.length_map]; exact hS.1)
  refine ⟨?_, h2⟩
  rw [wt_sum h hn]
  exact rs_div (h2.mono (by decide)) (h1.2.mono (by decide)) (by decide) h1.1
end Dlk23

set_option Elab.async false
set_option linter.all false
set_option maxRecDepth 100000
set_option maxHeartbeats 4000000
set_option autoImplicit false
namespace Dlk23
open PySem PySem.Spec L2 DL
local macro_rules | `(tactic| walk_at "go") => `(tactic| simp only [outE_i, outE_n, sz0, sz1, sz2, sz3, sz4, sz5, sz6, sz7, sz8, sz9, sz10, sz11, sz12, sz13, sz14, sz15, sz16, ↓tdFr, ↓frE, ↓rdDivmod, ↓rdNotIn, ↓tdTru, ↓rdMulW, ↓rdGcd, ↓rdRgV, ↓tdRgI, ↓tdEnum2, ↓tdZip2, ↓tdPar, ↓tdRevA, ↓tdRevR, ↓rdDivP, ↓tdTupRg, ↓startE, ↓tdSeq, ↓tdSet, ↓tdSetD, ↓tdDrop, ↓tdRet, ↓tdIfS, ↓tdNext, ↓tdAsg, ↓tdV, ↓tdC, ↓tdBin, ↓tdB, ↓tdCons, ↓tdNil, ↓tdTup, ↓tdLst, ↓tdTest, ↓tdAnd, ↓tdOr, ↓tdNot, ↓tdIf, ↓tdAndV, ↓tdOrV, ↓tdNotV, ↓tdNeg, ↓tdIsN, ↓tdNotN, ↓tdSl, ↓tdPart, ↓tdNoPart, ↓tdM, ↓tdSetIx, ↓tdAug, ↓tdPut, ↓tdGet2, ↓tdIsi, ↓tdListRg, ↓gdName, ↓gdNil, ↓gdCons, ↓gdTup, ↓tdIt, ↓tdRng1, ↓tdRng2, ↓tdCall, ↓tdNew, ↓tdJoin, ↓gcName, ↓gcNil, ↓gcCons, ↓gcTup, ↓tdYes, ↓res, ↓resR, ↓resAll, ↓rvD, ↓rdLen, ↓rdInt, ↓rdAbs, ↓rdMax2, ↓rdMin2, ↓rdOrd, ↓rdTuple, ↓rdList, ↓rdIx, ↓rdAdd, ↓rdSub, ↓rdMul, ↓rdMod, ↓rdDiv, ↓rdPow, ↓rdCmp, ↓rdEq, ↓rdNe, ↓rdIadd, ↓rdIn, ↓rdSorted, ↓rdSl, ↓isT, ↓rdAppend, ↓itemsOf, ↓rvOf, ↓argsOf, ↓argOf, Nat.reduceAdd, Nat.reduceLT, Nat.reduceSub, Int.reduceLT, Int.reduceLE, Int.reduceAdd, Int.reduceEq, Int.reduceNeg, Nat.reduceLeDiff, Nat.zero_add, Nat.reduceEqDiff, Nat.reduceBEq, ix41, ix42, ix43, ix40, List.length_cons, List.length_nil, List.map_cons, List.map_nil, List.replicate, List.cons_append, List.nil_append, List.getElem?_cons_zero, List.getElem?_cons_succ, List.set_cons_zero, List.set_cons_succ, Option.map_some, at0, at1, at2, at3, ix0, ix1, ix2, ix3, sh_int, sh_bl, sh_non, eqv_int, eqv_bl, eqv_str, decide_eq_true_eq, Bool.not_eq_true, Bool.not_true, Bool.not_false, Bool.false_eq_true, true_and, and_true, if_true, if_false, ite_true, ite_false, List.length_map, List.length_set, Sl.isD, List.mem_singleton, List.mem_cons, List.not_mem_nil, not_true_eq_false, not_false_eq_true, or_false])
local macro_rules | `(tactic| nomatch $xs,*) => `(tactic| simp only [$[$xs:term],*, outE_i, outE_n, sz0, sz1, sz2, sz3, sz4, sz5, sz6, sz7, sz8, sz9, sz10, sz11, sz12, sz13, sz14, sz15, sz16, ↓tdFr, ↓frE, ↓rdDivmod, ↓rdNotIn, ↓tdTru, ↓rdMulW, ↓rdGcd, ↓rdRgV, ↓tdRgI, ↓tdEnum2, ↓tdZip2, ↓tdPar, ↓tdRevA, ↓tdRevR, ↓rdDivP, ↓tdTupRg, ↓startE, ↓tdSeq, ↓tdSet, ↓tdSetD, ↓tdDrop, ↓tdRet, ↓tdIfS, ↓tdNext, ↓tdAsg, ↓tdV, ↓tdC, ↓tdBin, ↓tdB, ↓tdCons, ↓tdNil, ↓tdTup, ↓tdLst, ↓tdTest, ↓tdAnd, ↓tdOr, ↓tdNot, ↓tdIf, ↓tdAndV, ↓tdOrV, ↓tdNotV, ↓tdNeg, ↓tdIsN, ↓tdNotN, ↓tdSl, ↓tdPart, ↓tdNoPart, ↓tdM, ↓tdSetIx, ↓tdAug, ↓tdPut, ↓tdGet2, ↓tdIsi, ↓tdListRg, ↓gdName, ↓gdNil, ↓gdCons, ↓gdTup, ↓tdIt, ↓tdRng1, ↓tdRng2, ↓tdCall, ↓tdNew, ↓tdJoin, ↓gcName, ↓gcNil, ↓gcCons, ↓gcTup, ↓tdYes, ↓res, ↓resR, ↓resAll, ↓rvD, ↓rdLen, ↓rdInt, ↓rdAbs, ↓rdMax2, ↓rdMin2, ↓rdOrd, ↓rdTuple, ↓rdList, ↓rdIx, ↓rdAdd, ↓rdSub, ↓rdMul, ↓rdMod, ↓rdDiv, ↓rdPow, ↓rdCmp, ↓rdEq, ↓rdNe, ↓rdIadd, ↓rdIn, ↓rdSorted, ↓rdSl, ↓isT, ↓rdAppend, ↓itemsOf, ↓rvOf, ↓argsOf, ↓argOf, Nat.reduceAdd, Nat.reduceLT, Nat.reduceSub, Int.reduceLT, Int.reduceLE, Int.reduceAdd, Int.reduceEq, Int.reduceNeg, Nat.reduceLeDiff, Nat.zero_add, Nat.reduceEqDiff, Nat.reduceBEq, ix41, ix42, ix43, ix40, List.length_cons, List.length_nil, List.map_cons, List.map_nil, List.replicate, List.cons_append, List.nil_append, List.getElem?_cons_zero, List.getElem?_cons_succ, List.set_cons_zero, List.set_cons_succ, Option.map_some, at0, at1, at2, at3, ix0, ix1, ix2, ix3, sh_int, sh_bl, sh_non, eqv_int, eqv_bl, eqv_str, decide_eq_true_eq, Bool.not_eq_true, Bool.not_true, Bool.not_false, Bool.false_eq_true, true_and, and_true, if_true, if_false, ite_true, ite_false, List.length_map, List.length_set, Sl.isD, List.mem_singleton, List.mem_cons, List.not_mem_nil, not_true_eq_false, not_false_eq_true, or_false])
theorem rs_sum4 (ps : List Rat) (h : ∀ q ∈ ps, Rs 400 q) : ∀ i, i ≤ ps.length → Rs (1 + 401 * i) (sumQ (ps.take i))
  | 0, _ => by
    rw [List.take_zero]
    exact rs_zero
  | i + 1, hi => by
    have hq : ps[i]? = some ps[i] := List.getElem?_eq_getElem hi
    rw [sum_take hq]
    exact (rs_add (rs_sum4 ps h i (by omega)) (h _ (List.mem_of_getElem? hq))).mono (by omega)
def enE (tab : Tab) (i : Nat) : PyData := .tuple [.int (i : Nat), .tuple [.int ((tab[i]?).getD (0, [])).1, tupI (ld tab i)]]
theorem enum_tab (tab : Tab) : enumL (tab.map lnD) = (List.range tab.length).map (enE tab) := by
  refine List.ext_getElem? fun i => ?_
  unfold enumL
  rw [List.getElem?_zipWith, List.length_map, List.getElem?_map, List.getElem?_map]
  by_cases c : i < tab.length
  · rw [List.getElem?_range c, List.getElem?_eq_getElem c]
    have e : (tab[i]?).getD (0, []) = tab[i] := by rw [List.getElem?_eq_getElem c]; rfl
    show some (PyData.tuple [.int i, lnD tab[i]]) = some (enE tab i)
    unfold enE ld
    rw [e]
    rfl
  · rw [List.getElem?_eq_none (l := tab) (by omega), List.getElem?_eq_none (l := List.range tab.length) (by rw [List.length_range]; omega)]
    rfl
theorem enE_eq (tab : Tab) (i : Nat) : enE tab i = .tuple [.int (i : Nat), .tuple [.int ((tab[i]?).getD (0, [])).1, .tuple ((ld tab i).map .int)]] := rfl
theorem tupN_eq (S : List Nat) : tupN S = .tuple (S.map fun i : Nat => .int i) := rfl
theorem dead_ok {m : Nat} {tab : Tab} (h : TabOk m tab) : (dead tab).length ≤ 12 ∧ ∀ i ∈ dead tab, i < m := by
  have h1 := h.1
  have h2 := h.2.1
  refine ⟨Nat.le_trans (List.length_filter_le _ _) (by rw [List.length_range]; omega), fun i hi => ?_⟩
  rw [← h1]
  exact List.mem_range.mp (List.mem_filter.mp hi).1
theorem fr_eq1 : PyData.tuple [.int 1, .int 1] = fr 1 := rfl
theorem rs_1 : Rs 1 1 := ⟨by unfold Sm; decide, by unfold Sm; decide⟩
theorem on_le {m : Nat} {tab : Tab} (h : TabOk m tab) {i j : Nat} (hi : i < m) (hj : j < m) : onQ tab i j ≤ 1 := by
  have h1 := on_one h hi
  have hjm : j ∈ List.range m := List.mem_range.mpr hj
  rw [sm_perm (List.perm_cons_erase hjm), sm] at h1
  have := sm_nn0 ((List.range m).erase j) (onQ tab i) fun o ho => on_nn h hi (List.mem_range.mp (List.mem_of_mem_erase ho))
  grind
theorem tab_set {m : Nat} {tab : Tab} (h : TabOk m tab) {i : Nat} {l : Int × List Int} (hl : 1 ≤ l.1 ∧ l.1 ≤ 9) (hd : LeadOk m i l.2) : TabOk m (tab.set i l) := by
  refine ⟨by rw [List.length_set]; exact h.1, h.2.1, fun k l' hk => ?_⟩
  rw [List.getElem?_set] at hk
  split at hk
  · split at hk
    · cases hk
      rename_i e _
      rw [← e]
      exact ⟨hl, hd⟩
    · cases hk
  · exact h.2.2 k l' hk
theorem strict_of {ns ms : List Int} (p : ms.Perm ns) (s : ms.Pairwise (· ≤ ·)) (nd : ns.Nodup) : ms.Pairwise (· < ·) := by
  have nd2 : ms.Nodup := p.nodup_iff.mpr nd
  exact (s.and nd2).imp fun {a b} q => by have := q.1; have := q.2; omega
section
variable {args : List Sl} {Q : Sl → (Nat → Option Sl) → Prop}
theorem h_law_s_less (hl : args.length = 2) (h : sp_law_s_less args Q) : t_law_s_less (KD Q) (startE 2 args) := by
  obtain ⟨a, b, c, d, rfl, h2, k⟩ := h
  obtain ⟨m0, m1, m2, m3, m4, m5, m6⟩ := h2.cm
  have e : decide (Rat.divInt a b < Rat.divInt c d) = decide (a * d < c * b) := by simp only [lt_div h2.2.1 h2.2.2]
  unfold t_law_s_less pr
  walk_at "go"
  refine ⟨m2, m5, ?_⟩
  rw [← e]
  exact k _
theorem h_added (hl : args.length = 1) (h : sp_added args Q) : t_added (KD Q) (startE 3 args) := by
  obtain ⟨ps, rfl, hn, hr, k⟩ := h
  unfold t_added
  refine seq_i fun Kc hK => ?_
  walk_at "go"
  subst hK
  refine seq_i fun Kc hK => ?_
  refine for_i fun Kx hKx => ?_
  walk_at "go"
  refine hKx _ _ ⟨fun i env => ∃ x2, env = [some (.d (.list (ps.map fr))), some (.d (fr (sumQ (ps.take i)))), x2], ⟨none, rfl⟩, fun i x env hx hP => ?_, fun env hP => ?_⟩
  · obtain ⟨x2, rfl⟩ := hP
    rw [List.getElem?_map] at hx
    obtain ⟨q, hq, rfl⟩ := Option.map_eq_some_iff.mp hx
    have hi := (List.getElem?_eq_some_iff.mp hq).1
    walk_at "go"
    refine fr_i ((rs_sum4 ps hr i (by omega)).mono (by omega)) ((hr q (List.mem_of_getElem? hq)).mono (by decide)) fun os => ?_
    walk_at "go"
    exact ⟨_, by rw [sum_take hq]⟩
  · obtain ⟨x2, rfl⟩ := hP
    subst hK
    walk_at "go"
    have := k (osOf [some (.d (.list (ps.map fr))), some (.d (fr (sumQ (ps.take (ps.map fr).length)))), x2])
    rw [List.length_map, List.take_length] at *
    exact this
theorem h_law_s_sum (hl : args.length = 1) (h : sp_law_s_sum args Q) : t_law_s_sum (KD Q) (startE 3 args) := by
  obtain ⟨ps, rfl, hn, hr, k⟩ := h
  unfold t_law_s_sum
  refine seq_i fun Kc hK => ?_
  walk_at "go"
  subst hK
  refine seq_i fun Kc hK => ?_
  refine for_i fun Kx hKx => ?_
  walk_at "go"
  refine hKx _ _ ⟨fun i env => ∃ x2, env = [some (.d (.list (ps.map fr))), some (.d (fr (sumQ (ps.take i)))), x2], ⟨none, rfl⟩, fun i x env hx hP => ?_, fun env hP => ?_⟩
  · obtain ⟨x2, rfl⟩ := hP
    rw [List.getElem?_map] at hx
    obtain ⟨q, hq, rfl⟩ := Option.map_eq_some_iff.mp hx
    have hi := (List.getElem?_eq_some_iff.mp hq).1
    walk_at "go"
    refine fr_i ((rs_sum4 ps hr i (by omega)).mono (by omega)) ((hr q (List.mem_of_getElem? hq)).mono (by decide)) fun os => ?_
    walk_at "go"
    exact ⟨_, by rw [sum_take hq]⟩
  · obtain ⟨x2, rfl⟩ := hP
    subst hK
    walk_at "go"
    have := k (osOf [some (.d (.list (ps.map fr))), some (.d (fr (sumQ (ps.take (ps.map fr).length)))), x2])
    rw [List.length_map, List.take_length] at *
    exact this
theorem h_law_b_changed (hl : args.length = 2) (h : sp_law_b_changed args Q) : t_law_b_changed (KD Q) (startE 7 args) := by
  obtain ⟨tp, m, tab, rfl, hT, ht, k⟩ := h
  obtain rfl := hT.1
  have hm := hT.2.1
  unfold t_law_b_changed
  refine seq_i fun Kc hK => ?_
  nomatch tbD_eq
  refine draw_i (by first | decide | omega) (by assumption) (by first | decide | omega) fun i' tp1 _ t1 i'0 i'1 => ?_
  obtain ⟨i, rfl⟩ : ∃ i : Nat, i' = i := ⟨i'.toNat, by omega⟩
  have hi : i < tab.length := by omega
  walk_at "go"
  subst hK
  refine seq_i fun Kc hK => ?_
  walk_at "go"
  refine draw_i (by first | decide | omega) (by assumption) (by first | decide | omega) fun j tp2 _ t2 j0 j1 => ?_
  walk_at "go"
  subst hK
  obtain ⟨l, hl2, hb, hd⟩ := tab_get hT hi
  have ha := at_tab hl2
  refine seq_i fun Kc hK => ?_
  nomatch ha, tupI_eq
  subst hK
  refine seq_i fun Kc hK => ?_
  have fin : ∀ (s : Int) (ns : List Int) tp', (1 ≤ s ∧ s ≤ 9) → LeadOk tab.length i ns → TapeOk tp' → Kc [some (.l (tp')), some (.d (.tuple (tab.map lnD))), some (.d (.int (i))), some (.d (.int (j))), some (.d (.int (s))), some (.d (.tuple (ns.map .int))), none] := by
    intro s ns tp' hs hn t'
    subst hK
    have c1 : cutL (tab.map lnD) none (some (i : Int)) = (tab.take i).map lnD := cut_lo lnD tab i
    have c2 : cutL (tab.map lnD) (some ((i : Int) + 1)) none = (tab.drop (i + 1)).map lnD := cut_hi lnD tab (i + 1)
    have l1 : (tab.take i).length ≤ 12 := by rw [List.length_take]; omega
    have l2 : (tab.drop (i + 1)).length ≤ 12 := by rw [List.length_drop]; omega
    nomatch c1, c2
    refine ⟨small_of (by omega), small_of (by rw [List.length_append, List.length_map]; simp only [List.length_cons, List.length_nil]; omega), ?_⟩
    have e : (tab.take i).map lnD ++ [PyData.tuple [.int s, .tuple (ns.map .int)]] ++ (tab.drop (i + 1)).map lnD = (tab.set i (s, ns)).map lnD := by
      rw [List.set_eq_take_append_cons_drop, if_pos hi, List.map_append, List.map_cons, List.append_assoc]
      rfl
    rw [e]
    exact k (tab.set i (s, ns)) _ _ (tab_set hT hs hn) t' rfl
  have b9 : ∀ z : Int, 1 ≤ 1 + z % 9 ∧ 1 + z % 9 ≤ 9 := fun z => by omega
  by_cases c : j = i
  · nomatch c
    refine draw_i (by first | decide | omega) (by assumption) (by first | decide | omega) fun r tp3 _ t3 r0 r1 => ?_
    walk_at "go"
    subst c
    exact fin _ l.2 _ (b9 _) hd t3
  · nomatch c
    refine draw_i (by first | decide | omega) (by assumption) (by first | decide | omega) fun r tp3 _ t3 r0 r1 => ?_
    by_cases c2 : r = 0
    · nomatch c2
      refine draw_i (by first | decide | omega) (by assumption) (by first | decide | omega) fun r2 tp4 _ t4 r20 r21 => ?_
      walk_at "go"
      exact fin _ l.2 _ (b9 _) hd t4
    · by_cases c3 : j ∈ l.2
      · nomatch c2, sh_tup, any_int, c3
        refine lc_if l.2 PyData.int PyData.int (fun z => decide (z ≠ j)) (fun R hR => ?_) (small_of (by have := hd.len; omega)) (by simp [noOwn]) (fun x hx A B C hA hB hC => ?_) ?_
        · walk_at "go"
          exact hR
        · by_cases c4 : x = j
          · nomatch wipeE, mergeE, c4, decide_true
            exact hB (by rw [c4]; simp)
          · nomatch wipeE, mergeE, c4, decide_false
            exact ⟨hA, hC (decide_eq_true c4)⟩
        · walk_at "go"
          exact fin _ _ _ hb (hd.sub (List.filter_sublist ..)) t3
      · nomatch c2, sh_tup, any_int, c3
        refine ⟨small_of (by have := hd.len; omega), l.2 ++ [j], by rw [List.map_append]; rfl, fun ms hp hs => ?_⟩
        refine fin _ ms _ hb ?_ t3
        have nd : (l.2 ++ [j]).Nodup := by
          rw [List.nodup_append]
          refine ⟨hd.1.imp fun {a b} q => by omega, by simp, fun a h1 b h2 => ?_⟩
          rw [List.mem_singleton.mp h2]
          intro e
          exact c3 (by rw [← e]; exact h1)
        refine ⟨strict_of hp hs nd, fun z hz => ?_⟩
        rcases List.mem_append.mp (hp.mem_iff.mp hz) with q | q
        · exact hd.2 z q
        · rw [List.mem_singleton.mp q]
          exact ⟨by omega, by omega, c⟩
theorem h_leading_to (hl : args.length = 2) (h : sp_leading_to args Q) : t_leading_to (KD Q) (startE 5 args) := by
  obtain ⟨m, tab, j, rfl, hT, k⟩ := h
  have hm := hT.1
  have hm2 := hT.2.1
  unfold t_leading_to
  nomatch tbD_eq
  refine lc_if (List.range tab.length) (enE tab) (fun i => .int (i : Nat)) (fun i => decide ((j : Int) ∈ ld tab i)) (fun R hR => ?_) (small_of (by rw [List.length_range]; omega)) (by simp [noOwn]) (fun i hi A B C hA hB hC => ?_) ?_
  · nomatch enum_tab
    exact hR
  · by_cases c : (j : Int) ∈ ld tab i
    · nomatch wipeE, mergeE, enE_eq, sh_tup, any_int, c, decide_true
      exact ⟨hA, hC (decide_eq_true c)⟩
    · nomatch wipeE, mergeE, enE_eq, sh_tup, any_int, c, decide_false
      exact hB (decide_eq_false c)
  walk_at "go"
  exact k _
theorem h_dead_ends (hl : args.length = 1) (h : sp_dead_ends args Q) : t_dead_ends (KD Q) (startE 4 args) := by
  obtain ⟨m, tab, rfl, hT, k⟩ := h
  have hm := hT.1
  have hm2 := hT.2.1
  unfold t_dead_ends
  nomatch tbD_eq
  refine lc_if (List.range tab.length) (enE tab) (fun i => .int (i : Nat)) (fun i => decide (ld tab i = [])) (fun R hR => ?_) (small_of (by rw [List.length_range]; omega)) (by simp [noOwn]) (fun i hi A B C hA hB hC => ?_) ?_
  · nomatch enum_tab
    exact hR
  · by_cases c : ld tab i = []
    · nomatch wipeE, mergeE, enE_eq, eqv_nil, sh_tup, sh_nil, c, decide_true
      exact ⟨hA, hC (decide_eq_true c)⟩
    · nomatch wipeE, mergeE, enE_eq, eqv_nil, sh_tup, sh_nil, c, decide_false
      exact hB (decide_eq_false c)
  walk_at "go"
  exact k _
theorem h_weight_of (hl : args.length = 2) (h : sp_weight_of args Q) : t_weight_of (KD Q) (startE 3 args) := by
  obtain ⟨n, xs, S, rfl, hx, hn, hS, k⟩ := h
  have ht := num_tot hx hn
  have hw := rs_wts hx hn hS
  unfold t_weight_of
  nomatch tupI_eq, tupN_eq
  refine lc_map S (fun i => .int (i : Nat)) (fun i => .int (nx xs i)) (fun R hR => ?_) (small_of (by omega)) (by simp [noOwn]) (fun i hi A B hA hB => ?_) ?_
  · walk_at "go"
    exact hR
  · have ai := at_num hx (hS.2 i hi)
    nomatch wipeE, mergeE, ai
    exact ⟨hA, hB⟩
  nomatch rdSumA
  refine ⟨S.map (nx xs), by rw [List.map_map]; rfl, xs, rfl, ?_⟩
  refine ⟨_, _, rfl, ⟨hw.2.mono (by decide), ht.2.mono (by decide)⟩, ht.1, fun os => ?_⟩
  rw [← wt_sum hx hn]
  walk_at "go"
  exact k _
theorem h_restarting (hl : args.length = 3) (h : sp_restarting args Q) : t_restarting (KD Q) (startE 3 args) := by
  obtain ⟨f, m, tab, xs, rfl, hf, hT, hx, k⟩ := h
  have hw := (rs_wts hx hT.2.1 (dead_ok hT)).1
  unfold t_restarting
  walk_at "go"
  rw [fr_eq1]
  refine fr_i (rs_1.mono (by decide)) ((rs_fol hf).mono (by decide)) fun os => ?_
  walk_at "go"
  refine ⟨m, tab, rfl, hT, fun os => ?_⟩
  walk_at "go"
  refine ⟨m, xs, dead tab, rfl, hx, hT.2.1, dead_ok hT, fun os => ?_⟩
  walk_at "go"
  refine fr_i ((rs_fol hf).mono (by decide)) (hw.mono (by decide)) fun os => ?_
  walk_at "go"
  refine fr_i ((rs_sub hf).mono (by decide)) ((rs_mul (rs_fol hf) hw).mono (by decide)) fun os => ?_
  walk_at "go"
  exact k _
theorem ext_pos {f : Rat} {m : Nat} {tab : Tab} (hf : Fol f) (h : TabOk m tab) {j : Nat} (hj : j < m) : 0 < 1 + f * (1 - onQ tab j j) := by
  have h1 := on_le h hj hj
  have h2 := Rat.mul_nonneg (Rat.le_of_lt hf.1) (show 0 ≤ 1 - onQ tab j j by grind)
  grind
theorem rs_low {f : Rat} {m : Nat} {tab : Tab} (hf : Fol f) (h : TabOk m tab) {j : Nat} (hj : j < m) : Rs 21 (lowQ f tab j) ∧ Rs 32 (lowQ f tab j + f) ∧ Rs 25 (1 - onQ tab j j) ∧ Rs 40 (1 + f * (1 - onQ tab j j)) := by
  have h1 := rs_mul (rs_sub hf) (rs_anew h hj)
  have h2 := rs_on h hj hj
  have h3 : Rs 25 (1 - onQ tab j j) := by
    have hnn := on_nn h hj hj
    have hle := on_le h hj hj
    have e : 1 - onQ tab j j = Rat.divInt ((onQ tab j j).den - (onQ tab j j).num) (onQ tab j j).den := (one_sub _).symm
    rw [e]
    refine rs_div ?_ (h2.2.mono (by decide)) (by decide) (den_pos _)
    have := (h2.2.add h2.1.neg)
    exact this.mono (by decide)
  refine ⟨h1.mono (by decide), (rs_add h1 (rs_fol hf)).mono (by decide), h3, ?_⟩
  exact (rs_add (rs_1) (rs_mul (rs_fol hf) h3)).mono (by decide)
theorem h_extremes (hl : args.length = 3) (h : sp_extremes args Q) : t_extremes (KD Q) (startE 5 args) := by
  obtain ⟨f, m, tab, j, rfl, hf, hT, hj, k⟩ := h
  obtain ⟨r1, r2, r3, r4⟩ := rs_low hf hT hj
  unfold t_extremes
  refine seq_i fun Kc hK => ?_
  walk_at "go"
  rw [fr_eq1]
  refine fr_i (rs_1.mono (by decide)) ((rs_fol hf).mono (by decide)) fun os => ?_
  walk_at "go"
  refine ⟨m, tab, j, rfl, hT, hj, fun os => ?_⟩
  walk_at "go"
  refine fr_i ((rs_sub hf).mono (by decide)) ((rs_anew hT hj).mono (by decide)) fun os => ?_
  walk_at "go"
  subst hK
  refine seq_i fun Kc hK => ?_
  walk_at "go"
  refine ⟨m, tab, j, j, rfl, hT, hj, hj, fun os => ?_⟩
  walk_at "go"
  rw [fr_eq1]
  refine fr_i (rs_1.mono (by decide)) ((rs_on hT hj hj).mono (by decide)) fun os => ?_
  walk_at "go"
  subst hK
  walk_at "go"
  refine fr_i (r1.mono (by decide)) ((rs_fol hf).mono (by decide)) fun os => ?_
  walk_at "go"
  refine fr_i ((rs_fol hf).mono (by decide)) (r3.mono (by decide)) fun os => ?_
  walk_at "go"
  rw [fr_eq1]
  refine fr_i (rs_1.mono (by decide)) ((rs_mul (rs_fol hf) r3).mono (by decide)) fun os => ?_
  walk_at "go"
  refine over_i (r2.mono (by decide)) (r4.mono (by decide)) (ext_pos hf hT hj) fun os => ?_
  walk_at "go"
  exact k _
theorem h_law_extremes_due (hl : args.length = 3) (h : sp_law_extremes_due args Q) : t_law_extremes_due (KD Q) (startE 7 args) := by
  obtain ⟨f, m, tab, j, rfl, hf, hT, hj, k⟩ := h
  obtain ⟨r1, r2, r3, r4⟩ := rs_low hf hT hj
  have hn := fol_num hf
  have hd := hf.2.2
  have e : fr f = .tuple [.int f.num, .int f.den] := rfl
  have ro := rs_on hT hj hj
  have eo : fr (onQ tab j j) = .tuple [.int (onQ tab j j).num, .int (onQ tab j j).den] := rfl
  unfold t_law_extremes_due
  refine seq_i fun Kc hK => ?_
  nomatch e
  refine ⟨m, tab, j, rfl, hT, hj, fun os => ?_⟩
  walk_at "go"
  refine ⟨_, _, _, _, rfl, ⟨⟨(sm10 (by omega) (by omega)).mono (by decide), (sm10 (by omega) (by omega)).mono (by decide), ((rs_anew hT hj).mono (by decide : 10 ≤ 5600)).1, ((rs_anew hT hj).mono (by decide : 10 ≤ 5600)).2⟩, by omega, den_pos _⟩, fun os => ?_⟩
  rw [one_sub, fr_self]
  walk_at "go"
  subst hK
  refine seq_i fun Kc hK => ?_
  walk_at "go"
  refine ⟨m, tab, j, j, rfl, hT, hj, hj, fun os => ?_⟩
  walk_at "go"
  subst hK
  refine seq_i fun Kc hK => ?_
  walk_at "go"
  rw [← e]
  refine fr_i (r1.mono (by decide)) ((rs_fol hf).mono (by decide)) fun os => ?_
  walk_at "go"
  subst hK
  refine seq_i fun Kc hK => ?_
  nomatch eo
  refine ⟨_, _, _, _, rfl, ⟨⟨((rs_fol hf).mono (by decide : 10 ≤ 5600)).1, ((rs_fol hf).mono (by decide : 10 ≤ 5600)).2, (ro.2.add ro.1.neg).mono (by decide), ro.2.mono (by decide)⟩, den_pos _, den_pos _⟩, fun os => ?_⟩
  rw [one_sub, fr_self]
  walk_at "go"
  rw [fr_eq1]
  refine fr_i (rs_1.mono (by decide)) ((rs_mul (rs_fol hf) r3).mono (by decide)) fun os => ?_
  walk_at "go"
  subst hK
  have em : fr ((1 - f) * anewQ tab j + f) = .tuple [.int (lowQ f tab j + f).num, .int (lowQ f tab j + f).den] := rfl
  have el : fr (1 + f * (1 - onQ tab j j)) = .tuple [.int (1 + f * (1 - onQ tab j j)).num, .int (1 + f * (1 - onQ tab j j)).den] := rfl
  have hp := ext_pos hf hT hj
  have hl0 : 0 < (1 + f * (1 - onQ tab j j)).num := by
    have h1 := (Rat.lt_iff 0 _).mp hp
    have e1 : (0 : Rat).num = 0 := rfl
    have e2 : (0 : Rat).den = 1 := rfl
    rw [e1, e2] at h1
    omega
  have r25 := r2.mono (by decide : 32 ≤ 5600)
  have r45 := r4.mono (by decide : 40 ≤ 5600)
  nomatch em, el
  refine ⟨cm r25.1 r45.2, cm r25.2 r45.1, _, _, rfl, ⟨(r25.1.mul r45.2).mono (by decide), (r25.2.mul r45.1).mono (by decide)⟩, Int.mul_pos (den_pos _) hl0, fun os => ?_⟩
  have eh : Rat.divInt ((lowQ f tab j + f).num * (1 + f * (1 - onQ tab j j)).den) ((lowQ f tab j + f).den * (1 + f * (1 - onQ tab j j)).num) = highQ f tab j := by
    have := div_div (a := (lowQ f tab j + f).num) (b := (lowQ f tab j + f).den) (c := (1 + f * (1 - onQ tab j j)).num) (d := (1 + f * (1 - onQ tab j j)).den) hl0
    rw [fr_self, fr_self] at this
    exact this.symm
  rw [eh]
  walk_at "go"
  exact k _
end
end Dlk23

set_option Elab.async false
set_option linter.all false
set_option maxRecDepth 100000
set_option maxHeartbeats 4000000
set_option autoImplicit false
namespace Dlk23
open PySem PySem.Spec L2 DL
local macro_rules | `(tactic| walk_at "go") => `(tactic| simp only [outE_i, outE_n, sz0, sz1, sz2, sz3, sz4, sz5, sz6, sz7, sz8, sz9, sz10, sz11, sz12, sz13, sz14, sz15, sz16, ↓tdFr, ↓frE, ↓rdDivmod, ↓rdNotIn, ↓tdTru, ↓rdMulW, ↓rdGcd, ↓rdRgV, ↓tdRgI, ↓tdEnum2, ↓tdZip2, ↓tdPar, ↓tdRevA, ↓tdRevR, ↓rdDivP, ↓tdTupRg, ↓startE, ↓tdSeq, ↓tdSet, ↓tdSetD, ↓tdDrop, ↓tdRet, ↓tdIfS, ↓tdNext, ↓tdAsg, ↓tdV, ↓tdC, ↓tdBin, ↓tdB, ↓tdCons, ↓tdNil, ↓tdTup, ↓tdLst, ↓tdTest, ↓tdAnd, ↓tdOr, ↓tdNot, ↓tdIf, ↓tdAndV, ↓tdOrV, ↓tdNotV, ↓tdNeg, ↓tdIsN, ↓tdNotN, ↓tdSl, ↓tdPart, ↓tdNoPart, ↓tdM, ↓tdSetIx, ↓tdAug, ↓tdPut, ↓tdGet2, ↓tdIsi, ↓tdListRg, ↓gdName, ↓gdNil, ↓gdCons, ↓gdTup, ↓tdIt, ↓tdRng1, ↓tdRng2, ↓tdCall, ↓tdNew, ↓tdJoin, ↓gcName, ↓gcNil, ↓gcCons, ↓gcTup, ↓tdYes, ↓res, ↓resR, ↓resAll, ↓rvD, ↓rdLen, ↓rdInt, ↓rdAbs, ↓rdMax2, ↓rdMin2, ↓rdOrd, ↓rdTuple, ↓rdList, ↓rdIx, ↓rdAdd, ↓rdSub, ↓rdMul, ↓rdMod, ↓rdDiv, ↓rdPow, ↓rdCmp, ↓rdEq, ↓rdNe, ↓rdIadd, ↓rdIn, ↓rdSorted, ↓rdSl, ↓isT, ↓rdAppend, ↓itemsOf, ↓rvOf, ↓argsOf, ↓argOf, Nat.reduceAdd, Nat.reduceLT, Nat.reduceSub, Int.reduceLT, Int.reduceLE, Int.reduceAdd, Int.reduceEq, Int.reduceNeg, Nat.reduceLeDiff, Nat.zero_add, Nat.reduceEqDiff, Nat.reduceBEq, ix41, ix42, ix43, ix40, List.length_cons, List.length_nil, List.map_cons, List.map_nil, List.replicate, List.cons_append, List.nil_append, List.getElem?_cons_zero, List.getElem?_cons_succ, List.set_cons_zero, List.set_cons_succ, Option.map_some, at0, at1, at2, at3, ix0, ix1, ix2, ix3, sh_int, sh_bl, sh_non, eqv_int, eqv_bl, eqv_str, decide_eq_true_eq, Bool.not_eq_true, Bool.not_true, Bool.not_false, Bool.false_eq_true, true_and, and_true, if_true, if_false, ite_true, ite_false, List.length_map, List.length_set, Sl.isD, List.mem_singleton, List.mem_cons, List.not_mem_nil, not_true_eq_false, not_false_eq_true, or_false])
local macro_rules | `(tactic| nomatch $xs,*) => `(tactic| simp only [$[$xs:term],*, outE_i, outE_n, sz0, sz1, sz2, sz3, sz4, sz5, sz6, sz7, sz8, sz9, sz10, sz11, sz12, sz13, sz14, sz15, sz16, ↓tdFr, ↓frE, ↓rdDivmod, ↓rdNotIn, ↓tdTru, ↓rdMulW, ↓rdGcd, ↓rdRgV, ↓tdRgI, ↓tdEnum2, ↓tdZip2, ↓tdPar, ↓tdRevA, ↓tdRevR, ↓rdDivP, ↓tdTupRg, ↓startE, ↓tdSeq, ↓tdSet, ↓tdSetD, ↓tdDrop, ↓tdRet, ↓tdIfS, ↓tdNext, ↓tdAsg, ↓tdV, ↓tdC, ↓tdBin, ↓tdB, ↓tdCons, ↓tdNil, ↓tdTup, ↓tdLst, ↓tdTest, ↓tdAnd, ↓tdOr, ↓tdNot, ↓tdIf, ↓tdAndV, ↓tdOrV, ↓tdNotV, ↓tdNeg, ↓tdIsN, ↓tdNotN, ↓tdSl, ↓tdPart, ↓tdNoPart, ↓tdM, ↓tdSetIx, ↓tdAug, ↓tdPut, ↓tdGet2, ↓tdIsi, ↓tdListRg, ↓gdName, ↓gdNil, ↓gdCons, ↓gdTup, ↓tdIt, ↓tdRng1, ↓tdRng2, ↓tdCall, ↓tdNew, ↓tdJoin, ↓gcName, ↓gcNil, ↓gcCons, ↓gcTup, ↓tdYes, ↓res, ↓resR, ↓resAll, ↓rvD, ↓rdLen, ↓rdInt, ↓rdAbs, ↓rdMax2, ↓rdMin2, ↓rdOrd, ↓rdTuple, ↓rdList, ↓rdIx, ↓rdAdd, ↓rdSub, ↓rdMul, ↓rdMod, ↓rdDiv, ↓rdPow, ↓rdCmp, ↓rdEq, ↓rdNe, ↓rdIadd, ↓rdIn, ↓rdSorted, ↓rdSl, ↓isT, ↓rdAppend, ↓itemsOf, ↓rvOf, ↓argsOf, ↓argOf, Nat.reduceAdd, Nat.reduceLT, Nat.reduceSub, Int.reduceLT, Int.reduceLE, Int.reduceAdd, Int.reduceEq, Int.reduceNeg, Nat.reduceLeDiff, Nat.zero_add, Nat.reduceEqDiff, Nat.reduceBEq, ix41, ix42, ix43, ix40, List.length_cons, List.length_nil, List.map_cons, List.map_nil, List.replicate, List.cons_append, List.nil_append, List.getElem?_cons_zero, List.getElem?_cons_succ, List.set_cons_zero, List.set_cons_succ, Option.map_some, at0, at1, at2, at3, ix0, ix1, ix2, ix3, sh_int, sh_bl, sh_non, eqv_int, eqv_bl, eqv_str, decide_eq_true_eq, Bool.not_eq_true, Bool.not_true, Bool.not_false, Bool.false_eq_true, true_and, and_true, if_true, if_false, ite_true, ite_false, List.length_map, List.length_set, Sl.isD, List.mem_singleton, List.mem_cons, List.not_mem_nil, not_true_eq_false, not_false_eq_true, or_false])
theorem nat_in {S : List Nat} {j : Nat} : ((j : Int) ∈ S.map fun i : Nat => (i : Int)) ↔ j ∈ S := by
  rw [List.mem_map]
  constructor
  · rintro ⟨i, hi, e⟩
    have : i = j := by omega
    rw [← this]; exact hi
  · exact fun q => ⟨j, q, rfl⟩
theorem lead_cnt2 {ns : List Int} {S : List Nat} (h1 : ns.Pairwise (· < ·)) (hS : S.Pairwise (· < ·)) : (ns.filter fun j => decide (j ∈ S.map fun i : Nat => (i : Int))).length = (S.filter fun j : Nat => decide ((j : Int) ∈ ns)).length := by
  have e : (ns.filter fun j => decide (j ∈ S.map fun i : Nat => (i : Int))) = (S.filter fun j : Nat => decide ((j : Int) ∈ ns)).map fun i : Nat => (i : Int) := by
    refine strict_uniq (List.Pairwise.filter _ h1) ?_ fun x => ?_
    · rw [List.pairwise_map]
      exact (List.Pairwise.filter _ hS).imp fun q => by omega
    · rw [List.mem_filter, decide_eq_true_eq, List.mem_map, List.mem_map]
      constructor
      · rintro ⟨g1, i, hi, rfl⟩
        exact ⟨i, List.mem_filter.mpr ⟨hi, decide_eq_true g1⟩, rfl⟩
      · rintro ⟨i, hi, rfl⟩
        obtain ⟨g1, g2⟩ := List.mem_filter.mp hi
        exact ⟨of_decide_eq_true g2, i, g1, rfl⟩
  rw [e, List.length_map]
theorem start_at {m : Nat} {tab : Tab} (h : TabOk m tab) {j : Nat} (hj : j < m) : ∃ ns, atI (tab.map lnD) (j : Int) = some (.tuple [.int (nx (tab.map (·.1)) j), tupI ns]) ∧ 1 ≤ nx (tab.map (·.1)) j ∧ nx (tab.map (·.1)) j ≤ 9 := by
  obtain ⟨l, hl, hb, _⟩ := tab_get h hj
  have e : nx (tab.map (·.1)) j = l.1 := by unfold nx; rw [List.getElem?_map, hl]; rfl
  rw [e]
  exact ⟨l.2, at_tab hl, hb⟩
theorem anew_nx (tab : Tab) (j : Nat) : anewQ tab j = Rat.divInt (nx (tab.map (·.1)) j) (sumS tab) := anew_eq tab j
theorem anew_sum {m : Nat} {tab : Tab} (h : TabOk m tab) (S : List Nat) : sm S (anewQ tab) = Rat.divInt (S.map (nx (tab.map (·.1)))).sum (sumS tab) := by
  have hs := tab_sum h
  rw [sm_congr fun j _ => anew_nx tab j, sum_divI (by omega)]
theorem starts_sm {m : Nat} {tab : Tab} (h : TabOk m tab) {S : List Nat} (hS : S.length ≤ 12 ∧ ∀ i ∈ S, i < m) : Sm 20 (S.map (nx (tab.map (·.1)))).sum := by
  refine (sum_sm (b := 10) (fun x hx => ?_) (by rw [List.length_map]; exact hS.1)).mono (by decide)
  obtain ⟨i, hi, rfl⟩ := List.mem_map.mp hx
  obtain ⟨ns, _, h1, h2⟩ := start_at h (hS.2 i hi)
  exact sm10 (by omega) (by omega)
theorem on_sum {m : Nat} {tab : Tab} (h : TabOk m tab) {i : Nat} {l : Int × List Int} (hl : tab[i]? = some l) (S : List Nat) : sm S (onQ tab i) = if l.2 = [] then sm S (anewQ tab) else Rat.divInt ((S.filter fun j : Nat => decide ((j : Int) ∈ l.2)).length : Nat) l.2.length := by
  by_cases c : l.2 = []
  · rw [if_pos c]
    exact sm_congr fun j _ => by rw [onQ_at hl, if_pos c]
  · rw [if_neg c, sm_congr (g := fun j : Nat => if (j : Int) ∈ l.2 then Rat.divInt 1 l.2.length else 0) fun j _ => by rw [onQ_at hl, if_neg c], sm_if (Rat.divInt 1 l.2.length) fun j : Nat => (j : Int) ∈ l.2]
    rw [Rat.divInt_eq_div, Rat.divInt_eq_div, Rat.div_def, Rat.div_def]
    have e2 : ((1 : Int) : Rat) = 1 := rfl
    have e3 : (((S.filter fun j : Nat => decide ((j : Int) ∈ l.2)).length : Int) : Rat) = (((S.filter fun j : Nat => decide ((j : Int) ∈ l.2)).length : Nat) : Rat) := rfl
    rw [e2, e3]
    grind
theorem rs_ons {m : Nat} {tab : Tab} (h : TabOk m tab) {i : Nat} (hi : i < m) {S : List Nat} (hS : S.length ≤ 12 ∧ ∀ j ∈ S, j < m) : Rs 133 (sm S (onQ tab i)) := (rs_sm (b := 10) fun j hj => rs_on h hi (hS.2 j hj)).mono (by omega)
theorem Spots.ok {m : Nat} {S : List Nat} (h : Spots m S) (hm : m ≤ 12) : S.length ≤ 12 ∧ ∀ j ∈ S, j < m := ⟨by have := h.len; omega, h.2⟩
theorem sm_one (o : Nat) (f : Nat → Rat) : sm [o] f = f o := by rw [sm, sm]; grind
theorem rs_wo {m : Nat} {tab : Tab} {xs : List Int} (h : TabOk m tab) (hx : NumOk m xs) {o : Nat} (ho : o < m) {T : List Nat} (hT : T.length ≤ 12 ∧ ∀ j ∈ T, j < m) : Rs 340 (wt xs o * sm T (onQ tab o)) := (rs_mul (rs_wt hx h.2.1 ho) (rs_ons h ho hT)).mono (by decide)
theorem rs_flow {m : Nat} {tab : Tab} {xs : List Int} (h : TabOk m tab) (hx : NumOk m xs) {S T : List Nat} (hS : S.length ≤ 12 ∧ ∀ j ∈ S, j < m) (hT : T.length ≤ 12 ∧ ∀ j ∈ T, j < m) : Rs 4100 (flowQ tab xs S T) := (rs_sm (b := 340) fun o ho => rs_wo h hx (hS.2 o ho) hT).mono (by omega)
theorem tupN_one (o : Nat) : PyData.tuple [.int (o : Nat)] = tupN [o] := rfl
section
variable {args : List Sl} {Q : Sl → (Nat → Option Sl) → Prop}
theorem h_law_into (hl : args.length = 3) (h : sp_law_into args Q) : t_law_into (KD Q) (startE 5 args) := by
  obtain ⟨m, tab, i, S, rfl, hT, hi, hS, k⟩ := h
  obtain ⟨l, hl2, hb, hd⟩ := tab_get hT hi
  have ha := at_tab hl2
  have hm := hT.1
  have hm2 := hT.2.1
  have hS2 := hS.ok hm2.2
  have hs := tab_sum hT
  have hln := hd.len
  rw [on_sum hT hl2] at k
  unfold t_law_into
  refine seq_i fun Kc hK => ?_
  by_cases c : l.2 = []
  · rw [if_pos c, anew_sum hT] at k
    have c0 : ((l.2.length : Nat) : Int) = 0 := by rw [c]; rfl
    nomatch tbD_eq, tupN_eq, ha, tupI_eq, c0
    refine lc_map S (fun j => .int (j : Nat)) (fun j => .int (nx (tab.map (·.1)) j)) (fun R hR => ?_) (small_of (by omega)) (by simp [noOwn]) (fun j hj A B hA hB => ?_) ?_
    · walk_at "go"
      exact hR
    · obtain ⟨ns, aj, _⟩ := start_at hT (hS.2 j hj)
      nomatch wipeE, mergeE, aj
      exact ⟨hA, hB⟩
    nomatch rdSumA
    refine ⟨S.map (nx (tab.map (·.1))), by rw [List.map_map]; rfl, ?_⟩
    refine lc_map tab lnD (fun l => .int l.1) (fun R hR => ?_) (small_of (by omega)) (by simp [noOwn]) (fun x hx A B hA hB => ?_) ?_
    · walk_at "go"
      exact hR
    · unfold lnD
      nomatch wipeE, mergeE
      exact ⟨hA, hB⟩
    nomatch rdSumA
    refine ⟨tab.map (·.1), by rw [List.map_map]; rfl, ?_⟩
    refine ⟨_, _, rfl, ⟨(starts_sm hT hS2).mono (by decide), (sm10 (show _ ≤ sumS tab by omega) (show sumS tab ≤ _ by omega)).mono (by decide)⟩, by show 0 < sumS tab; omega, fun os => ?_⟩
    walk_at "go"
    exact k _
  · rw [if_neg c] at k
    have c1 := len_pos c
    have c0 : ¬ ((l.2.length : Nat) : Int) = 0 := by omega
    nomatch tbD_eq, tupN_eq, ha, tupI_eq, c0
    subst hK
    nomatch ha, tupI_eq
    refine lc_if l.2 PyData.int PyData.int (fun j => decide (j ∈ S.map fun i : Nat => (i : Int))) (fun R hR => ?_) (small_of (by omega)) (by simp [noOwn]) (fun j hj A B C hA hB hC => ?_) ?_
    · nomatch ha, tupI_eq
      exact hR
    · by_cases c2 : j ∈ S.map fun i : Nat => (i : Int)
      · nomatch wipeE, mergeE, map_nat, sh_tup, any_int, c2, decide_true
        exact ⟨hA, hC (decide_eq_true c2)⟩
      · nomatch wipeE, mergeE, map_nat, sh_tup, any_int, c2, decide_false
        exact hB (decide_eq_false c2)
    have hle := List.length_filter_le (fun j : Nat => decide ((j : Int) ∈ l.2)) S
    nomatch ha, tupI_eq, lead_cnt2 hd.1 hS.1
    refine ⟨_, _, rfl, ⟨(sm10 (by omega) (by omega)).mono (by decide), (sm10 (by omega) (by omega)).mono (by decide)⟩, c1, fun os => ?_⟩
    walk_at "go"
    exact k _
theorem h_flow (hl : args.length = 4) (h : sp_flow args Q) : t_flow (KD Q) (startE 8 args) := by
  obtain ⟨m, tab, xs, S, T, d, e, rfl, hT, hx, hS, hT2, hd, he, k⟩ := h
  have hm := hT.1
  have hm2 := hT.2.1
  have hSo := hS.ok hm2.2
  have hTo := hT2.ok hm2.2
  unfold t_flow
  refine seq_i fun Kc hK => ?_
  walk_at "go"
  subst hK
  refine seq_i fun Kc hK => ?_
  refine for_i fun Kx hKx => ?_
  have goal : Kx (S.map fun i : Nat => .int i) [some (.d (tbD tab)), some (.d (tupI xs)), some (.d (d)), some (.d (e)), some (.l ([])), none, none, none] := by
    refine hKx _ _ ⟨fun i env => ∃ x5 x6, env = [some (.d (tbD tab)), some (.d (tupI xs)), some (.d (d)), some (.d (e)), some (.l ((S.take i).map fun o => fr (wt xs o * sm T (onQ tab o)))), x5, x6, none], ⟨none, none, rfl⟩, fun i x env hx2 hP => ?_, fun env hP => ?_⟩
    · obtain ⟨x5, x6, rfl⟩ := hP
      rw [List.getElem?_map] at hx2
      obtain ⟨o, ho, rfl⟩ := Option.map_eq_some_iff.mp hx2
      have hom := hS.2 o (List.mem_of_getElem? ho)
      refine ⟨by simp, ?_⟩
      simp only [List.set_cons_zero, List.set_cons_succ]
      refine seq_i fun Kc hK => ?_
      walk_at "go"
      refine lc_map T (fun j => .int (j : Nat)) (fun j => fr (onQ tab o j)) (fun R hR => ?_) (small_of (by omega)) (by simp [noOwn]) (fun j hj A B hA hB => ?_) ?_
      · rcases he with rfl | rfl
        · nomatch tupN_eq
          exact hR
        · walk_at "go"
          exact hR
      · nomatch wipeE
        refine ⟨m, tab, o, j, rfl, hT, hom, hT2.2 j hj, fun os => ?_⟩
        nomatch mergeE
        exact ⟨hA, hB⟩
      walk_at "go"
      refine ⟨T.map (onQ tab o), by rw [List.map_map]; rfl, by rw [List.length_map]; omega, fun q hq => ?_, fun os => ?_⟩
      · obtain ⟨j, hj, rfl⟩ := List.mem_map.mp hq
        exact (rs_on hT hom (hT2.2 j hj)).mono (by decide)
      rw [sumQ_sm]
      walk_at "go"
      subst hK
      walk_at "go"
      rw [tupN_one]
      refine ⟨m, xs, [o], rfl, hx, hm2, ⟨by simp, fun i hi => by rw [List.mem_singleton.mp hi]; exact hom⟩, fun os => ?_⟩
      rw [sm_one]
      walk_at "go"
      refine fr_i ((rs_wt hx hm2 hom).mono (by decide)) ((rs_ons hT hom hTo).mono (by decide)) fun os => ?_
      walk_at "go"
      refine ⟨Nat.lt_of_lt_of_le (show (S.take i).length < 1001 by rw [List.length_take]; omega) (by decide), ?_⟩
      rw [show S.take (i + 1) = S.take i ++ [o] by rw [List.take_add_one, ho]; rfl, List.map_append]
      exact ⟨_, _, rfl⟩
    · obtain ⟨x5, x6, rfl⟩ := hP
      rw [List.length_map, List.take_length]
      subst hK
      walk_at "go"
      refine ⟨S.map fun o => wt xs o * sm T (onQ tab o), by rw [List.map_map]; rfl, by rw [List.length_map]; omega, fun q hq => ?_, fun os => ?_⟩
      · obtain ⟨o, ho, rfl⟩ := List.mem_map.mp hq
        exact (rs_wo hT hx (hS.2 o ho) hTo).mono (by decide)
      rw [sumQ_sm]
      walk_at "go"
      exact k _
  rcases hd with rfl | rfl
  · nomatch tupN_eq
    rw [← tupN_eq]
    exact goal
  · walk_at "go"
    exact goal
theorem h_balance (hl : args.length = 4) (h : sp_balance args Q) : t_balance (KD Q) (startE 9 args) := by
  obtain ⟨f, m, tab, xs, S, rfl, hT, hx, hS, k⟩ := h
  obtain rfl := hT.1
  have hm2 := hT.2.1
  have hSo := hS.ok hm2.2
  have hR := rest_ok tab.length S
  unfold t_balance
  refine seq_i fun Kc hK => ?_
  nomatch tbD_eq
  refine lc_if (List.range tab.length) (fun j => .int (j : Nat)) (fun j => .int (j : Nat)) (fun j => decide (j ∉ S)) (fun R hR => ?_) (small_of (by rw [List.length_range]; omega)) (by simp [noOwn]) (fun j hj A B C hA hB hC => ?_) ?_
  · walk_at "go"
    rw [rng_map]
    exact ⟨by omega, hR⟩
  · by_cases c : j ∈ S
    · have c2 := nat_in.mpr c
      nomatch wipeE, mergeE, tupN_eq, map_nat, sh_tup, any_int, c2, decide_true
      exact hB (by simp [c])
    · have c2 : ¬ ((j : Int) ∈ S.map fun i : Nat => (i : Int)) := fun z => c (nat_in.mp z)
      nomatch wipeE, mergeE, tupN_eq, map_nat, sh_tup, any_int, c2, decide_false
      exact ⟨hA, hC (decide_eq_true c)⟩
  have hg : (List.range tab.length).filter (fun j => decide (j ∉ S)) = rest tab.length S := rfl
  rw [hg]
  walk_at "go"
  subst hK
  refine seq_i fun Kc hK => ?_
  walk_at "go"
  refine lc_map S (fun j => .int (j : Nat)) (fun j => fr (anewQ tab j)) (fun R hR => ?_) (small_of (by omega)) (by simp [noOwn]) (fun j hj A B hA hB => ?_) ?_
  · nomatch tupN_eq
    exact hR
  · nomatch wipeE
    refine ⟨tab.length, tab, j, rfl, hT, hS.2 j hj, fun os => ?_⟩
    nomatch mergeE
    exact ⟨hA, hB⟩
  walk_at "go"
  refine ⟨S.map (anewQ tab), by rw [List.map_map]; rfl, by rw [List.length_map]; omega, fun q hq => ?_, fun os => ?_⟩
  · obtain ⟨j, hj, rfl⟩ := List.mem_map.mp hq
    exact (rs_anew hT (hS.2 j hj)).mono (by decide)
  rw [sumQ_sm]
  walk_at "go"
  subst hK
  refine seq_i fun Kc hK => ?_
  walk_at "go"
  refine ⟨tab.length, tab, xs, rest tab.length S, S, _, _, rfl, hT, hx, hR, hS, .inr rfl, .inl rfl, fun os => ?_⟩
  walk_at "go"
  subst hK
  refine seq_i fun Kc hK => ?_
  walk_at "go"
  refine ⟨tab.length, tab, xs, S, rest tab.length S, _, _, rfl, hT, hx, hS, hR, .inl rfl, .inr rfl, fun os => ?_⟩
  walk_at "go"
  subst hK
  walk_at "go"
  refine ⟨tab.length, xs, S, rfl, hx, hm2, hSo, fun os => ?_⟩
  walk_at "go"
  exact k _
end
end Dlk23

set_option Elab.async false
set_option linter.all false
set_option maxRecDepth 100000
set_option maxHeartbeats 4000000
set_option autoImplicit false
namespace Dlk23
open PySem PySem.Spec L2 DL
local macro_rules | `(tactic| walk_at "go") => `(tactic| simp only [outE_i, outE_n, sz0, sz1, sz2, sz3, sz4, sz5, sz6, sz7, sz8, sz9, sz10, sz11, sz12, sz13, sz14, sz15, sz16, ↓tdFr, ↓frE, ↓rdDivmod, ↓rdNotIn, ↓tdTru, ↓rdMulW, ↓rdGcd, ↓rdRgV, ↓tdRgI, ↓tdEnum2, ↓tdZip2, ↓tdPar, ↓tdRevA, ↓tdRevR, ↓rdDivP, ↓tdTupRg, ↓startE, ↓tdSeq, ↓tdSet, ↓tdSetD, ↓tdDrop, ↓tdRet, ↓tdIfS, ↓tdNext, ↓tdAsg, ↓tdV, ↓tdC, ↓tdBin, ↓tdB, ↓tdCons, ↓tdNil, ↓tdTup, ↓tdLst, ↓tdTest, ↓tdAnd, ↓tdOr, ↓tdNot, ↓tdIf, ↓tdAndV, ↓tdOrV, ↓tdNotV, ↓tdNeg, ↓tdIsN, ↓tdNotN, ↓tdSl, ↓tdPart, ↓tdNoPart, ↓tdM, ↓tdSetIx, ↓tdAug, ↓tdPut, ↓tdGet2, ↓tdIsi, ↓tdListRg, ↓gdName, ↓gdNil, ↓gdCons, ↓gdTup, ↓tdIt, ↓tdRng1, ↓tdRng2, ↓tdCall, ↓tdNew, ↓tdJoin, ↓gcName, ↓gcNil, ↓gcCons, ↓gcTup, ↓tdYes, ↓res, ↓resR, ↓resAll, ↓rvD, ↓rdLen, ↓rdInt, ↓rdAbs, ↓rdMax2, ↓rdMin2, ↓rdOrd, ↓rdTuple, ↓rdList, ↓rdIx, ↓rdAdd, ↓rdSub, ↓rdMul, ↓rdMod, ↓rdDiv, ↓rdPow, ↓rdCmp, ↓rdEq, ↓rdNe, ↓rdIadd, ↓rdIn, ↓rdSorted, ↓rdSl, ↓isT, ↓rdAppend, ↓itemsOf, ↓rvOf, ↓argsOf, ↓argOf, Nat.reduceAdd, Nat.reduceLT, Nat.reduceSub, Int.reduceLT, Int.reduceLE, Int.reduceAdd, Int.reduceEq, Int.reduceNeg, Nat.reduceLeDiff, Nat.zero_add, Nat.reduceEqDiff, Nat.reduceBEq, ix41, ix42, ix43, ix40, List.length_cons, List.length_nil, List.map_cons, List.map_nil, List.replicate, List.cons_append, List.nil_append, List.getElem?_cons_zero, List.getElem?_cons_succ, List.set_cons_zero, List.set_cons_succ, Option.map_some, at0, at1, at2, at3, ix0, ix1, ix2, ix3, sh_int, sh_bl, sh_non, eqv_int, eqv_bl, eqv_str, decide_eq_true_eq, Bool.not_eq_true, Bool.not_true, Bool.not_false, Bool.false_eq_true, true_and, and_true, if_true, if_false, ite_true, ite_false, List.length_map, List.length_set, Sl.isD, List.mem_singleton, List.mem_cons, List.not_mem_nil, not_true_eq_false, not_false_eq_true, or_false])
local macro_rules | `(tactic| nomatch $xs,*) => `(tactic| simp only [$[$xs:term],*, outE_i, outE_n, sz0, sz1, sz2, sz3, sz4, sz5, sz6, sz7, sz8, sz9, sz10, sz11, sz12, sz13, sz14, sz15, sz16, ↓tdFr, ↓frE, ↓rdDivmod, ↓rdNotIn, ↓tdTru, ↓rdMulW, ↓rdGcd, ↓rdRgV, ↓tdRgI, ↓tdEnum2, ↓tdZip2, ↓tdPar, ↓tdRevA, ↓tdRevR, ↓rdDivP, ↓tdTupRg, ↓startE, ↓tdSeq, ↓tdSet, ↓tdSetD, ↓tdDrop, ↓tdRet, ↓tdIfS, ↓tdNext, ↓tdAsg, ↓tdV, ↓tdC, ↓tdBin, ↓tdB, ↓tdCons, ↓tdNil, ↓tdTup, ↓tdLst, ↓tdTest, ↓tdAnd, ↓tdOr, ↓tdNot, ↓tdIf, ↓tdAndV, ↓tdOrV, ↓tdNotV, ↓tdNeg, ↓tdIsN, ↓tdNotN, ↓tdSl, ↓tdPart, ↓tdNoPart, ↓tdM, ↓tdSetIx, ↓tdAug, ↓tdPut, ↓tdGet2, ↓tdIsi, ↓tdListRg, ↓gdName, ↓gdNil, ↓gdCons, ↓gdTup, ↓tdIt, ↓tdRng1, ↓tdRng2, ↓tdCall, ↓tdNew, ↓tdJoin, ↓gcName, ↓gcNil, ↓gcCons, ↓gcTup, ↓tdYes, ↓res, ↓resR, ↓resAll, ↓rvD, ↓rdLen, ↓rdInt, ↓rdAbs, ↓rdMax2, ↓rdMin2, ↓rdOrd, ↓rdTuple, ↓rdList, ↓rdIx, ↓rdAdd, ↓rdSub, ↓rdMul, ↓rdMod, ↓rdDiv, ↓rdPow, ↓rdCmp, ↓rdEq, ↓rdNe, ↓rdIadd, ↓rdIn, ↓rdSorted, ↓rdSl, ↓isT, ↓rdAppend, ↓itemsOf, ↓rvOf, ↓argsOf, ↓argOf, Nat.reduceAdd, Nat.reduceLT, Nat.reduceSub, Int.reduceLT, Int.reduceLE, Int.reduceAdd, Int.reduceEq, Int.reduceNeg, Nat.reduceLeDiff, Nat.zero_add, Nat.reduceEqDiff, Nat.reduceBEq, ix41, ix42, ix43, ix40, List.length_cons, List.length_nil, List.map_cons, List.map_nil, List.replicate, List.cons_append, List.nil_append, List.getElem?_cons_zero, List.getElem?_cons_succ, List.set_cons_zero, List.set_cons_succ, Option.map_some, at0, at1, at2, at3, ix0, ix1, ix2, ix3, sh_int, sh_bl, sh_non, eqv_int, eqv_bl, eqv_str, decide_eq_true_eq, Bool.not_eq_true, Bool.not_true, Bool.not_false, Bool.false_eq_true, true_and, and_true, if_true, if_false, ite_true, ite_false, List.length_map, List.length_set, Sl.isD, List.mem_singleton, List.mem_cons, List.not_mem_nil, not_true_eq_false, not_false_eq_true, or_false])
theorem ne_cast {z : Int} (h : 0 < z) : (z : Rat) ≠ 0 := fun e => by have := Rat.intCast_eq_zero_iff.mp e; omega
theorem fresh_eq {s S X n d E : Int} (hS : 0 < S) (hX : 0 < X) (hd : 0 < d) : Rat.divInt (s * ((d - n) * X + n * E)) (S * X * d) = Rat.divInt s S * (Rat.divInt (d - n) d + Rat.divInt n d * Rat.divInt E X) := by
  have h1 := ne_cast hS
  have h2 := ne_cast hX
  have h3 := ne_cast hd
  simp only [Rat.divInt_eq_div, Rat.intCast_mul, Rat.intCast_add, Rat.intCast_sub]
  grind
theorem pair_eq {x X n d l : Int} (hX : 0 < X) (hd : 0 < d) (hl : 0 < l) : Rat.divInt (x * n) (X * d * l) = Rat.divInt x X * (Rat.divInt n d * Rat.divInt 1 l) := by
  have h1 := ne_cast hl
  have h2 := ne_cast hX
  have h3 := ne_cast hd
  have e1 : ((1 : Int) : Rat) = 1 := rfl
  simp only [Rat.divInt_eq_div, Rat.intCast_mul, e1]
  grind
def inQ (tab : Tab) (xs : List Int) (S : List Nat) (i : Nat) : Rat := sm ((List.range i).filter fun o => decide (o ∉ S)) fun o => wt xs o * sm S (onQ tab o)
def outQ (tab : Tab) (xs : List Int) (S : List Nat) (i : Nat) : Rat := sm ((List.range i).filter fun o => decide (o ∈ S)) fun o => wt xs o * (1 - sm S (onQ tab o))
theorem in_succ (tab : Tab) (xs : List Int) (S : List Nat) (i : Nat) : inQ tab xs S (i + 1) = if i ∈ S then inQ tab xs S i else inQ tab xs S i + wt xs i * sm S (onQ tab i) := by
  unfold inQ
  rw [List.range_succ, List.filter_append]
  by_cases c : i ∈ S
  · rw [if_pos c, List.filter_cons, if_neg (by simp [c]), List.filter_nil, List.append_nil]
  · rw [if_neg c, List.filter_cons, if_pos (by simp [c]), List.filter_nil, sm_app, sm_one]
theorem out_succ (tab : Tab) (xs : List Int) (S : List Nat) (i : Nat) : outQ tab xs S (i + 1) = if i ∈ S then outQ tab xs S i + wt xs i * (1 - sm S (onQ tab i)) else outQ tab xs S i := by
  unfold outQ
  rw [List.range_succ, List.filter_append]
  by_cases c : i ∈ S
  · rw [if_pos c, List.filter_cons, if_pos (by simp [c]), List.filter_nil, sm_app, sm_one]
  · rw [if_neg c, List.filter_cons, if_neg (by simp [c]), List.filter_nil, List.append_nil]
theorem on_rest {m : Nat} {tab : Tab} (h : TabOk m tab) {S : List Nat} (hS : Spots m S) {i : Nat} (hi : i < m) : 1 - sm S (onQ tab i) = sm (rest m S) (onQ tab i) := by
  have h1 := on_one h hi
  rw [← rest_sum hS] at h1
  grind
theorem out_end {m : Nat} {tab : Tab} {xs : List Int} {S : List Nat} (h : TabOk m tab) (hS : Spots m S) : outQ tab xs S m = flowQ tab xs S (rest m S) := by
  unfold outQ flowQ
  have e : (List.range m).filter (fun o => decide (o ∈ S)) = S := strictN_uniq (List.Pairwise.filter _ List.pairwise_lt_range) hS.1 fun x => by
    rw [List.mem_filter, List.mem_range, decide_eq_true_eq]
    exact ⟨fun q => q.2, fun q => ⟨hS.2 x q, q⟩⟩
  rw [e]
  exact sm_congr fun o ho => by rw [on_rest h hS (hS.2 o ho)]
theorem rs_les {b : Nat} {q : Rat} (h : Rs b q) : Rs (b + 1) (1 - q) := by
  rw [← one_sub]
  exact rs_div ((h.2.mono (by omega)).add h.1.neg) (h.2.mono (by omega)) (by omega) (den_pos _)
theorem rs_in {m : Nat} {tab : Tab} {xs : List Int} {S : List Nat} (h : TabOk m tab) (hx : NumOk m xs) (hS : Spots m S) {i : Nat} (hi : i ≤ m) : Rs 4100 (inQ tab xs S i) ∧ Rs 4100 (outQ tab xs S i) := by
  have hm := h.2.1
  have hSo := hS.ok hm.2
  constructor
  · have hl := List.length_filter_le (fun o : Nat => decide (o ∉ S)) (List.range i)
    rw [List.length_range] at hl
    exact (rs_sm (b := 340) fun o ho => rs_wo h hx (by have := List.mem_range.mp (List.mem_filter.mp ho).1; omega) hSo).mono (by omega)
  · have hl := List.length_filter_le (fun o : Nat => decide (o ∈ S)) (List.range i)
    rw [List.length_range] at hl
    refine (rs_sm (b := 340) fun o ho => ?_).mono (by omega)
    have hom : o < m := by have := List.mem_range.mp (List.mem_filter.mp ho).1; omega
    exact (rs_mul (rs_wt hx hm hom) (rs_les (rs_ons h hom hSo))).mono (by decide)
theorem fr_zero2 : PyData.tuple [.int 0, .int 1] = fr 0 := rfl
theorem lead_ok (tab : Tab) (j : Nat) : Spots tab.length (leadTo tab j) := ⟨List.Pairwise.filter _ List.pairwise_lt_range, fun i hi => List.mem_range.mp (List.mem_filter.mp hi).1⟩
theorem on_lead {m : Nat} {tab : Tab} (h : TabOk m tab) {i j : Nat} (hi : i ∈ leadTo tab j) : ∃ l, tab[i]? = some l ∧ (j : Int) ∈ l.2 ∧ onQ tab i j = Rat.divInt 1 l.2.length := by
  obtain ⟨h1, h2⟩ := List.mem_filter.mp hi
  have him : i < m := by rw [← h.1]; exact List.mem_range.mp h1
  obtain ⟨l, hl, _⟩ := tab_get h him
  have h3 := of_decide_eq_true h2
  have e : ld tab i = l.2 := by unfold ld; rw [hl]; rfl
  rw [e] at h3
  refine ⟨l, hl, h3, ?_⟩
  rw [onQ_at hl, if_neg (fun z => by rw [z] at h3; cases h3), if_pos h3]
theorem rs_fresh {f : Rat} {m : Nat} {tab : Tab} {xs : List Int} (hf : Fol f) (h : TabOk m tab) (hx : NumOk m xs) : Rs 227 (freshQ f tab xs) := (rs_add (rs_sub hf) (rs_mul (rs_fol hf) (rs_wts hx h.2.1 (dead_ok h)).1)).mono (by decide)
section
variable {args : List Sl} {Q : Sl → (Nat → Option Sl) → Prop}
theorem h_law_balance_due (hl : args.length = 3) (h : sp_law_balance_due args Q) : t_law_balance_due (KD Q) (startE 12 args) := by
  obtain ⟨m, tab, xs, S, rfl, hT, hx, hS, k⟩ := h
  obtain rfl := hT.1
  have hm2 := hT.2.1
  have hSo := hS.ok hm2.2
  have ht := num_tot hx hm2
  have hs := tab_sum hT
  have hw := rs_wts hx hm2 hSo
  unfold t_law_balance_due
  refine seq_i fun Kc hK => ?_
  nomatch tupI_eq, rdSumA
  refine ⟨xs, rfl, ?_⟩
  rw [← tupI_eq]
  subst hK
  refine seq_i fun Kc hK => ?_
  walk_at "go"
  subst hK
  refine seq_i fun Kc hK => ?_
  walk_at "go"
  subst hK
  refine seq_i fun Kc hK => ?_
  refine for_i fun Kx hKx => ?_
  nomatch tbD_eq
  rw [← tbD_eq, rng_map]
  refine ⟨by omega, ?_⟩
  refine hKx _ _ ⟨fun i env => ∃ x6 x7 x8, env = [some (.d (tbD tab)), some (.d (tupI xs)), some (.d (tupN S)), some (.d (.int (xs.sum))), some (.d (fr (inQ tab xs S i))), some (.d (fr (outQ tab xs S i))), x6, x7, x8, none, none, none], ⟨none, none, none, rfl⟩, fun i x env hx2 hP => ?_, fun env hP => ?_⟩
  · obtain ⟨x6, x7, x8, rfl⟩ := hP
    rw [← rng_map] at hx2
    obtain ⟨rfl, hi⟩ := rng_at hx2
    have hi2 : i < tab.length := by omega
    have ai := at_num hx hi2
    obtain ⟨r1, r2⟩ := rs_in (i := i) hT hx hS (by omega)
    have rn := (hx.2 _ (nx_mem hx hi2).2).2
    have rI := rs_ons hT hi2 hSo
    refine ⟨by simp, ?_⟩
    simp only [List.set_cons_zero, List.set_cons_succ]
    refine seq_i fun Kc hK => ?_
    nomatch tupI_eq, ai
    subst hK
    refine seq_i fun Kc hK => ?_
    walk_at "go"
    refine ⟨tab.length, tab, i, S, rfl, hT, hi2, hS, fun os => ?_⟩
    walk_at "go"
    rw [← tupI_eq]
    subst hK
    have eI : fr (sm S (onQ tab i)) = .tuple [.int (sm S (onQ tab i)).num, .int (sm S (onQ tab i)).den] := rfl
    by_cases c : i ∈ S
    · have c2 := nat_in.mpr c
      nomatch tupN_eq, map_nat, sh_tup, any_int, c2, decide_true, eI
      refine ⟨nx xs i, xs.sum, _, _, rfl, ⟨⟨rn.mono (by decide), ht.2.mono (by decide), (rI.2.add rI.1.neg).mono (by decide), rI.2.mono (by decide)⟩, ht.1, den_pos _⟩, fun os => ?_⟩
      rw [one_sub]
      walk_at "go"
      refine fr_i (r2.mono (by decide)) ((rs_mul (rs_wt hx hm2 hi2) (rs_les rI)).mono (by decide)) fun os => ?_
      walk_at "go"
      rw [in_succ, out_succ, if_pos c, if_pos c]
      exact ⟨_, _, _, rfl⟩
    · have c2 : ¬ ((i : Int) ∈ S.map fun i : Nat => (i : Int)) := fun z => c (nat_in.mp z)
      nomatch tupN_eq, map_nat, sh_tup, any_int, c2, decide_false
      refine ⟨nx xs i, xs.sum, _, _, rfl, ⟨⟨rn.mono (by decide), ht.2.mono (by decide), rI.1.mono (by decide), rI.2.mono (by decide)⟩, ht.1, den_pos _⟩, fun os => ?_⟩
      rw [fr_self]
      walk_at "go"
      refine fr_i (r1.mono (by decide)) ((rs_mul (rs_wt hx hm2 hi2) rI).mono (by decide)) fun os => ?_
      walk_at "go"
      rw [in_succ, out_succ, if_neg c, if_neg c]
      exact ⟨_, _, _, rfl⟩
  · obtain ⟨x6, x7, x8, rfl⟩ := hP
    rw [show ((List.range tab.length).map fun i => PyData.int (i : Nat)).length = tab.length by rw [List.length_map, List.length_range], out_end hT hS, show inQ tab xs S tab.length = flowQ tab xs (rest tab.length S) S from rfl]
    subst hK
    dsimp only
    refine seq_i fun Kc hK => ?_
    nomatch tupN_eq, tupI_eq
    refine lc_map S (fun j => .int (j : Nat)) (fun j => .int (nx xs j)) (fun R hR => ?_) (small_of (by omega)) (by simp [noOwn]) (fun j hj A B hA hB => ?_) ?_
    · walk_at "go"
      exact hR
    · have aj := at_num hx (hS.2 j hj)
      nomatch wipeE, mergeE, aj
      exact ⟨hA, hB⟩
    nomatch rdSumA
    refine ⟨S.map (nx xs), by rw [List.map_map]; rfl, ?_⟩
    refine ⟨_, _, rfl, ⟨hw.2.mono (by decide), ht.2.mono (by decide)⟩, ht.1, fun os => ?_⟩
    rw [← wt_sum hx hm2]
    walk_at "go"
    subst hK
    nomatch tbD_eq
    refine lc_map S (fun j => .int (j : Nat)) (fun j => .int (nx (tab.map (·.1)) j)) (fun R hR => ?_) (small_of (by omega)) (by simp [noOwn]) (fun j hj A B hA hB => ?_) ?_
    · walk_at "go"
      exact hR
    · obtain ⟨ns, aj, _⟩ := start_at hT (hS.2 j hj)
      nomatch wipeE, mergeE, aj
      exact ⟨hA, hB⟩
    nomatch rdSumA
    refine ⟨S.map (nx (tab.map (·.1))), by rw [List.map_map]; rfl, ?_⟩
    refine lc_map tab lnD (fun l => .int l.1) (fun R hR => ?_) (small_of (by omega)) (by simp [noOwn]) (fun x hx A B hA hB => ?_) ?_
    · walk_at "go"
      exact hR
    · unfold lnD
      nomatch wipeE, mergeE
      exact ⟨hA, hB⟩
    nomatch rdSumA
    refine ⟨tab.map (·.1), by rw [List.map_map]; rfl, ?_⟩
    refine ⟨_, _, rfl, ⟨(starts_sm hT hSo).mono (by decide), (sm10 (show _ ≤ sumS tab by omega) (show sumS tab ≤ _ by omega)).mono (by decide)⟩, by show 0 < sumS tab; omega, fun os => ?_⟩
    have e2 := anew_sum hT S
    unfold sumS at e2
    rw [← e2]
    walk_at "go"
    exact k _
theorem h_brings (hl : args.length = 4) (h : sp_brings args Q) : t_brings (KD Q) (startE 8 args) := by
  obtain ⟨f, m, tab, xs, j, rfl, hf, hT, hx, hj, k⟩ := h
  obtain rfl := hT.1
  have hm2 := hT.2.1
  have hL := lead_ok tab j
  have hLo := hL.ok hm2.2
  have rf := rs_fresh hf hT hx
  unfold t_brings
  refine seq_i fun Kc hK => ?_
  walk_at "go"
  refine ⟨tab.length, tab, j, rfl, hT, hj, fun os => ?_⟩
  walk_at "go"
  refine ⟨f, tab.length, tab, xs, rfl, hf, hT, hx, fun os => ?_⟩
  walk_at "go"
  refine fr_i ((rs_anew hT hj).mono (by decide)) (rf.mono (by decide)) fun os => ?_
  walk_at "go"
  subst hK
  refine seq_i fun Kc hK => ?_
  walk_at "go"
  subst hK
  refine seq_i fun Kc hK => ?_
  refine for_i fun Kx hKx => ?_
  walk_at "go"
  refine ⟨tab.length, tab, j, rfl, hT, fun os => ?_⟩
  nomatch tupN_eq
  refine hKx _ _ ⟨fun i env => ∃ x6 x7, env = [some (.d (fr f)), some (.d (tbD tab)), some (.d (tupI xs)), some (.d (.int (j))), some (.d (fr (anewQ tab j * freshQ f tab xs))), some (.l (((leadTo tab j).take i).map fun o : Nat => .tuple [.int o, fr (wt xs o * (f * onQ tab o j))])), x6, x7], ⟨none, none, rfl⟩, fun i x env hx2 hP => ?_, fun env hP => ?_⟩
  · obtain ⟨x6, x7, rfl⟩ := hP
    rw [List.getElem?_map] at hx2
    obtain ⟨o, ho, rfl⟩ := Option.map_eq_some_iff.mp hx2
    have hom := hL.2 o (List.mem_of_getElem? ho)
    refine ⟨by simp, ?_⟩
    simp only [List.set_cons_zero, List.set_cons_succ]
    refine seq_i fun Kc hK => ?_
    walk_at "go"
    refine ⟨tab.length, tab, o, j, rfl, hT, hom, hj, fun os => ?_⟩
    walk_at "go"
    refine fr_i ((rs_fol hf).mono (by decide)) ((rs_on hT hom hj).mono (by decide)) fun os => ?_
    walk_at "go"
    subst hK
    walk_at "go"
    rw [tupN_one]
    refine ⟨tab.length, xs, [o], rfl, hx, hm2, ⟨by simp, fun i hi => by rw [List.mem_singleton.mp hi]; exact hom⟩, fun os => ?_⟩
    rw [sm_one]
    walk_at "go"
    refine fr_i ((rs_wt hx hm2 hom).mono (by decide)) ((rs_mul (rs_fol hf) (rs_on hT hom hj)).mono (by decide)) fun os => ?_
    walk_at "go"
    refine ⟨Nat.lt_of_lt_of_le (show ((leadTo tab j).take i).length < 1001 by rw [List.length_take]; omega) (by decide), ?_⟩
    rw [show (leadTo tab j).take (i + 1) = (leadTo tab j).take i ++ [o] by rw [List.take_add_one, ho]; rfl, List.map_append]
    exact ⟨_, _, rfl⟩
  · obtain ⟨x6, x7, rfl⟩ := hP
    rw [List.length_map, List.take_length]
    subst hK
    walk_at "go"
    rw [tupN_one]
    refine ⟨tab.length, xs, [j], rfl, hx, hm2, ⟨by simp, fun i hi => by rw [List.mem_singleton.mp hi]; exact hj⟩, fun os => ?_⟩
    rw [sm_one]
    walk_at "go"
    exact k _
end
end Dlk23

set_option Elab.async false
set_option linter.all false
set_option maxRecDepth 100000
set_option maxHeartbeats 4000000
set_option autoImplicit false
namespace Dlk23
open PySem PySem.Spec L2 DL
/-! ### the rows that are cleared -/
def stI (tab : Tab) (r : Nat) : Int := nx (tab.map (·.1)) r
def outI (tab : Tab) (c : Nat) : Int := max 1 ((ld tab c).length : Int)
def AI (f : Rat) (tab : Tab) (r c : Nat) : Int := if c = tab.length then stI tab r else if c = r then f.den * outI tab c else if (r : Int) ∈ ld tab c then -f.num else 0
def AQ (f : Rat) (tab : Tab) : Dm.Mt := fun r c => (AI f tab r c : Rat)
theorem ld_at {tab : Tab} {i : Nat} {l : Int × List Int} (h : tab[i]? = some l) : ld tab i = l.2 := by unfold ld; rw [h]; rfl
theorem ld_ok {m : Nat} {tab : Tab} (h : TabOk m tab) {i : Nat} (hi : i < m) : LeadOk m i (ld tab i) := by
  obtain ⟨l, hl, _, hd⟩ := tab_get h hi
  rw [ld_at hl]; exact hd
theorem ld_len {m : Nat} {tab : Tab} (h : TabOk m tab) {i : Nat} (hi : i < m) : (ld tab i).length ≤ 12 ∧ 1 ≤ outI tab i ∧ outI tab i ≤ 12 := by
  have h1 := (ld_ok h hi).len
  have h2 := h.2.1
  unfold outI
  omega
theorem st_ok {m : Nat} {tab : Tab} (h : TabOk m tab) {i : Nat} (hi : i < m) : 1 ≤ stI tab i ∧ stI tab i ≤ 9 := by
  obtain ⟨ns, _, h1⟩ := start_at h hi
  exact h1
/-- the share that is carried, without the dead ends' -/
def onP (tab : Tab) (i j : Nat) : Rat := if (j : Int) ∈ ld tab i then Rat.divInt 1 (ld tab i).length else 0
theorem on_P {m : Nat} {tab : Tab} (h : TabOk m tab) {i : Nat} (hi : i < m) (j : Nat) : onQ tab i j = onP tab i j + if ld tab i = [] then anewQ tab j else 0 := by
  obtain ⟨l, hl, _⟩ := tab_get h hi
  rw [onQ_at hl]
  unfold onP
  rw [ld_at hl]
  by_cases c : l.2 = []
  · rw [if_pos c, if_pos c, c]
    simp only [List.not_mem_nil, if_false]; grind
  · rw [if_neg c, if_neg c]; grind
theorem onP_sum {m : Nat} {tab : Tab} (h : TabOk m tab) {i : Nat} (hi : i < m) : sm (List.range m) (onP tab i) = 1 - if ld tab i = [] then 1 else 0 := by
  have h1 := on_one h hi
  rw [sm_congr fun j _ => on_P h hi j, sm_add] at h1
  by_cases c : ld tab i = []
  · simp only [if_pos c] at h1 ⊢
    have h2 := anew_one h
    have e : sm (List.range m) (fun i => anewQ tab i) = sm (List.range m) (anewQ tab) := rfl
    rw [e] at h1
    grind
  · simp only [if_neg c] at h1 ⊢
    rw [sm_zero0 (List.range m) (fun _ => 0) fun i _ => rfl] at h1
    grind
theorem aq_col {f : Rat} {m : Nat} {tab : Tab} (h : TabOk m tab) {j : Nat} (hj : j < m) : Dm.sr m (fun i => AQ f tab i j) = (f.den : Rat) * (outI tab j : Rat) - (f.num : Rat) * (((ld tab j).length : Nat) : Rat) := by
  have hd := ld_ok h hj
  have e : ∀ i, i < m → AQ f tab i j = (if i = j then (f.den : Rat) * (outI tab j : Rat) else 0) + if ((i : Nat) : Int) ∈ ld tab j then -(f.num : Rat) else 0 := fun i hi => by
    have hn : ¬ ((j : Int) ∈ ld tab j) := fun z => (hd.2 _ z).2.2 rfl
    have hjl : ¬ j = List.length tab := by rw [h.1]; omega
    unfold AQ AI
    rw [if_neg hjl]
    by_cases c : i = j
    · subst c
      rw [if_pos rfl, if_pos rfl, if_neg hn, Rat.intCast_mul, Rat.add_zero]; rfl
    · rw [if_neg (fun z => c z.symm), if_neg c]
      by_cases c2 : ((i : Nat) : Int) ∈ ld tab j
      · rw [if_pos c2, if_pos c2, Rat.intCast_neg]; grind
      · rw [if_neg c2, if_neg c2]
        have e0 : ((0 : Int) : Rat) = 0 := rfl
        rw [e0]; grind
  rw [Dm.sr_congr e, Dm.sr_add, Dm.sr_one hj (fun i _ hne => if_neg hne), if_pos rfl, ← sm_sr, sm_if (-(f.num : Rat)) fun i : Nat => ((i : Nat) : Int) ∈ ld tab j, lead_cnt hd]
  grind
theorem aq_go {f : Rat} {m : Nat} {tab : Tab} (hf : Fol f) (h : TabOk m tab) : Dm.Go m 0 (AQ f tab) := by
  have hn := fol_num hf
  refine ⟨fun i hi j _ hj hne => ?_, fun i hi => ?_, fun j _ hj => ?_⟩
  · have hjl : ¬ j = List.length tab := by rw [h.1]; omega
    unfold AQ AI
    rw [if_neg hjl, if_neg (fun z => hne z.symm)]
    by_cases c : (i : Int) ∈ ld tab j
    · rw [if_pos c]
      have : ((-f.num : Int) : Rat) ≤ ((0 : Int) : Rat) := Rat.intCast_le_intCast.mpr (by omega)
      exact this
    · rw [if_neg c]; exact Rat.le_refl
  · unfold AQ AI
    rw [if_pos h.1.symm]
    exact Rat.intCast_pos.mpr (by have := st_ok h hi; omega)
  · have e : Dm.bel m 0 (fun i => AQ f tab i j) = Dm.sr m fun i => AQ f tab i j := Dm.sr_congr fun i _ => if_pos (Nat.zero_le i)
    rw [e, aq_col h hj]
    have e2 : (f.den : Rat) * (outI tab j : Rat) - (f.num : Rat) * (((ld tab j).length : Nat) : Rat) = (((f.den : Int) * outI tab j - f.num * ((ld tab j).length : Nat) : Int) : Rat) := by
      rw [Rat.intCast_sub, Rat.intCast_mul, Rat.intCast_mul]; rfl
    rw [e2]
    refine Rat.intCast_pos.mpr ?_
    have hl := ld_len h hj
    have ho : ((ld tab j).length : Int) ≤ outI tab j := by unfold outI; omega
    have h1 : f.num * ((ld tab j).length : Nat) ≤ f.num * outI tab j := Int.mul_le_mul_of_nonneg_left ho (by omega)
    have h2 : f.num * outI tab j < (f.den : Int) * outI tab j := Int.mul_lt_mul_of_pos_right (by omega) (by omega)
    omega
theorem aq_wh {f : Rat} {m : Nat} {tab : Tab} (hf : Fol f) (h : TabOk m tab) : ∀ i, i < m → ∀ j, j < m + 1 → Dm.Wh 240 (AQ f tab i j) := by
  intro i hi j hj
  have hn := fol_num hf
  have hd := hf.2.2
  refine ⟨AI f tab i j, rfl, ?_⟩
  unfold AI
  split
  · have := st_ok h hi; omega
  · rename_i c
    rw [h.1] at c
    have hl := ld_len h (show j < m by omega)
    split
    · rw [Int.natAbs_mul]
      have : ((f.den : Int)).natAbs ≤ 20 := by omega
      have h2 : (outI tab j).natAbs ≤ 12 := by omega
      exact Nat.mul_le_mul this h2
    · split
      · omega
      · decide
/-- whole numbers at each stage -/
def dI (f : Rat) (tab : Tab) (k : Nat) : Int := (Dm.dd (AQ f tab) k).num
def eI (f : Rat) (tab : Tab) (k i j : Nat) : Int := (Dm.dd (AQ f tab) k * Dm.gs (AQ f tab) k i j).num
theorem fB_sm : ∀ k, k < 14 → Dm.fB 240 k < 2 ^ 150 := by decide +kernel
theorem wh_cast {b : Nat} {q : Rat} (h : Dm.Wh b q) : ((q.num : Int) : Rat) = q ∧ q.num.natAbs ≤ b := by
  obtain ⟨z, rfl, hz⟩ := h
  have e : ((z : Int) : Rat).num = z := Rat.num_intCast z
  rw [e]
  exact ⟨rfl, hz⟩
theorem dI_ok {f : Rat} {m : Nat} {tab : Tab} (hf : Fol f) (h : TabOk m tab) {k : Nat} (hk : k ≤ m) : ((dI f tab k : Int) : Rat) = Dm.dd (AQ f tab) k ∧ Sm 150 (dI f tab k) ∧ 0 < dI f tab k := by
  have hm := h.2.1
  obtain ⟨p1, p2⟩ := Dm.gs_piv (aq_go hf h) hk
  obtain ⟨w1, w2⟩ := wh_cast (Dm.gs_whole (aq_wh hf h) hk p1).1
  refine ⟨w1, Nat.lt_of_le_of_lt w2 (fB_sm k (by omega)), ?_⟩
  have : (0 : Rat) < ((dI f tab k : Int) : Rat) := by unfold dI; rw [w1]; exact p2
  exact Rat.intCast_pos.mp this
theorem eI_ok {f : Rat} {m : Nat} {tab : Tab} (hf : Fol f) (h : TabOk m tab) {k : Nat} (hk : k ≤ m) {i j : Nat} (hi : i < m) (hj : j < m + 1) : ((eI f tab k i j : Int) : Rat) = Dm.dd (AQ f tab) k * Dm.gs (AQ f tab) k i j ∧ Sm 150 (eI f tab k i j) := by
  have hm := h.2.1
  obtain ⟨p1, p2⟩ := Dm.gs_piv (aq_go hf h) hk
  rcases (Dm.gs_whole (aq_wh hf h) hk p1).2 i hi j hj with w | w
  · obtain ⟨w1, w2⟩ := wh_cast w
    exact ⟨w1, Nat.lt_of_le_of_lt w2 (fB_sm k (by omega))⟩
  · obtain ⟨w1, w2⟩ := wh_cast w
    exact ⟨w1, Nat.lt_of_le_of_lt w2 (fB_sm (k + 1) (by omega))⟩
theorem cast_inj {a b : Int} (h : (a : Rat) = (b : Rat)) : a = b := Rat.intCast_inj.mp h
theorem e_zero (f : Rat) (tab : Tab) (i j : Nat) : eI f tab 0 i j = AI f tab i j := by
  unfold eI
  rw [Dm.dd, Dm.gs, Rat.one_mul]
  exact Rat.num_intCast _
theorem d_zero (f : Rat) (tab : Tab) : dI f tab 0 = 1 := by
  unfold dI
  rw [Dm.dd]
  rfl
theorem d_succ (f : Rat) (tab : Tab) (k : Nat) : dI f tab (k + 1) = eI f tab k k k := rfl
theorem e_row {f : Rat} {m : Nat} {tab : Tab} (hf : Fol f) (h : TabOk m tab) {k : Nat} (hk : k < m) {i j : Nat} (hi : i < m) (hj : j < m + 1) (hne : i ≠ k) : eI f tab k i j * eI f tab k k k - eI f tab k i k * eI f tab k k j = dI f tab k * eI f tab (k + 1) i j := by
  refine cast_inj ?_
  have hp := (Dm.gs_go (aq_go hf h) k (by omega)).piv hk
  have hpn : Dm.gs (AQ f tab) k k k ≠ 0 := fun z => by rw [z] at hp; exact Rat.lt_irrefl hp
  rw [Rat.intCast_sub, Rat.intCast_mul, Rat.intCast_mul, Rat.intCast_mul, (eI_ok hf h (by omega) hi hj).1, (eI_ok hf h (by omega) hk (by omega)).1, (eI_ok hf h (by omega) hi (by omega)).1, (eI_ok hf h (by omega) hk hj).1, (dI_ok hf h (by omega)).1, (eI_ok hf h (show k + 1 ≤ m by omega) hi hj).1]
  rw [show Dm.gs (AQ f tab) (k + 1) i j = Dm.gs (AQ f tab) k i j - Dm.gs (AQ f tab) k i k * (Dm.gs (AQ f tab) k k j / Dm.gs (AQ f tab) k k k) by rw [Dm.gs, Dm.gj, if_neg hne], Dm.dd]
  grind
theorem e_lead {f : Rat} {m : Nat} {tab : Tab} (hf : Fol f) (h : TabOk m tab) {k : Nat} (hk : k < m) {j : Nat} (hj : j < m + 1) : eI f tab (k + 1) k j = eI f tab k k j := by
  refine cast_inj ?_
  have hp := (Dm.gs_go (aq_go hf h) k (by omega)).piv hk
  have hpn : Dm.gs (AQ f tab) k k k ≠ 0 := fun z => by rw [z] at hp; exact Rat.lt_irrefl hp
  rw [(eI_ok hf h (show k + 1 ≤ m by omega) hk hj).1, (eI_ok hf h (by omega) hk hj).1]
  rw [show Dm.gs (AQ f tab) (k + 1) k j = Dm.gs (AQ f tab) k k j / Dm.gs (AQ f tab) k k k by rw [Dm.gs, Dm.gj, if_pos rfl], Dm.dd]
  grind
theorem e_pos {f : Rat} {m : Nat} {tab : Tab} (hf : Fol f) (h : TabOk m tab) {i : Nat} (hi : i < m) : 0 < eI f tab m i m := by
  have h1 := (Dm.gs_end (aq_go hf h)).1 i hi
  have h2 := (Dm.gs_piv (aq_go hf h) (Nat.le_refl m)).2
  have : (0 : Rat) < ((eI f tab m i m : Int) : Rat) := by
    rw [(eI_ok hf h (Nat.le_refl m) hi (by omega)).1]
    exact Rat.mul_pos h2 h1
  exact Rat.intCast_pos.mp this
/-! ### the numbers stand as the steps carry them -/
def zQ (f : Rat) (tab : Tab) (j : Nat) : Rat := (outI tab j : Rat) * Dm.gs (AQ f tab) tab.length j tab.length
theorem z_row {f : Rat} {m : Nat} {tab : Tab} (hf : Fol f) (h : TabOk m tab) {r : Nat} (hr : r < m) : (f.den : Rat) * zQ f tab r - (f.num : Rat) * sm (List.range m) (fun l => zQ f tab l * onP tab l r) = (stI tab r : Rat) := by
  obtain rfl := h.1
  have he := (Dm.gs_end (aq_go hf h)).2 r hr
  have hrhs : AQ f tab r tab.length = (stI tab r : Rat) := by unfold AQ AI; rw [if_pos rfl]
  rw [hrhs] at he
  rw [← he]
  have e : ∀ l, l < tab.length → AQ f tab r l * Dm.gs (AQ f tab) tab.length l tab.length = (if l = r then (f.den : Rat) * zQ f tab r else 0) + (zQ f tab l * onP tab l r) * (-(f.num : Rat)) := fun l hl => by
    have hd := ld_ok h hl
    have hn : ¬ ((l : Int) ∈ ld tab l) := fun z => (hd.2 _ z).2.2 rfl
    have hll : ¬ l = tab.length := by omega
    have ea : AQ f tab r l = if l = r then (f.den : Rat) * (outI tab l : Rat) else if (r : Int) ∈ ld tab l then -(f.num : Rat) else 0 := by
      unfold AQ AI
      rw [if_neg hll]
      by_cases c : l = r
      · rw [if_pos c, if_pos c, Rat.intCast_mul]; rfl
      · rw [if_neg c, if_neg c]
        by_cases c2 : (r : Int) ∈ ld tab l
        · rw [if_pos c2, if_pos c2, Rat.intCast_neg]
        · rw [if_neg c2, if_neg c2]; rfl
    rw [ea]
    unfold onP zQ
    by_cases c : l = r
    · subst c
      generalize Dm.gs (AQ f tab) tab.length l tab.length = G
      rw [if_pos rfl, if_pos rfl, if_neg hn]
      grind
    · rw [if_neg c, if_neg c]
      generalize Dm.gs (AQ f tab) tab.length l tab.length = G
      by_cases c2 : (r : Int) ∈ ld tab l
      · rw [if_pos c2, if_pos c2, Rat.divInt_eq_div]
        have hl0 : 0 < (ld tab l).length := List.length_pos_iff.mpr fun z => by rw [z] at c2; cases c2
        have ho : outI tab l = ((ld tab l).length : Nat) := by unfold outI; omega
        have hne := ne_cast (z := (((ld tab l).length : Nat) : Int)) (by omega)
        rw [ho]
        have e1 : ((1 : Int) : Rat) = 1 := rfl
        rw [e1]
        grind
      · rw [if_neg c2, if_neg c2]
        grind
  rw [Dm.sr_congr e, Dm.sr_add, Dm.sr_one hr (fun i _ hne => if_neg hne), if_pos rfl, Dm.sr_mul, ← sm_sr]
  have e9 : sm (List.range tab.length) (fun i => zQ f tab i * onP tab i r) = sm (List.range tab.length) (fun l => zQ f tab l * onP tab l r) := rfl
  grind
theorem sm_swap (g : Nat → Nat → Rat) : ∀ (a b : List Nat), sm a (fun i => sm b fun j => g i j) = sm b fun j => sm a fun i => g i j
  | [], b => by
    simp only [sm]
    exact (sm_zero0 b _ fun _ _ => rfl).symm
  | i :: r, b => by
    have e : (fun j => sm (i :: r) fun i => g i j) = fun j => g i j + sm r fun i => g i j := rfl
    rw [sm, sm_swap g r b, e, sm_add]
theorem z_std {f : Rat} {m : Nat} {tab : Tab} (hf : Fol f) (h : TabOk m tab) {j : Nat} (hj : j < m) : sm (List.range m) (fun i => zQ f tab i * stepQ f tab i j) = zQ f tab j := by
  have hs := tab_sum h
  have hd := ne_cast (den_pos f)
  have hS := ne_cast (show 0 < sumS tab by omega)
  have hfe : (f.num : Rat) = f * ((f.den : Int) : Rat) := by
    have e := fr_self f
    rw [Rat.divInt_eq_div] at e
    have : (f.num : Rat) / ((f.den : Int) : Rat) * ((f.den : Int) : Rat) = (f.num : Rat) := Rat.div_mul_cancel hd
    rw [e] at this
    exact this.symm
  -- each page
  have hr : ∀ r, r < m → zQ f tab r = (stI tab r : Rat) / ((f.den : Int) : Rat) + f * sm (List.range m) (fun l => zQ f tab l * onP tab l r) := fun r hr => by
    have := z_row hf h hr
    have e1 : ((f.den : Nat) : Rat) = ((f.den : Int) : Rat) := rfl
    rw [e1, hfe] at this
    grind
  -- all pages
  have hZ : sm (List.range m) (zQ f tab) = (sumS tab : Rat) / ((f.den : Int) : Rat) + f * (sm (List.range m) (zQ f tab) - sm (List.range m) (fun l => zQ f tab l * if ld tab l = [] then 1 else 0)) := by
    have e1 : sm (List.range m) (zQ f tab) = sm (List.range m) (fun r => (stI tab r : Rat) * (1 / ((f.den : Int) : Rat)) + (sm (List.range m) (fun l => zQ f tab l * onP tab l r)) * f) := sm_congr fun r hrm => by
      rw [hr r (List.mem_range.mp hrm)]; grind
    have e2 : sm (List.range m) (fun r => sm (List.range m) (fun l => zQ f tab l * onP tab l r)) = sm (List.range m) (zQ f tab) - sm (List.range m) (fun l => zQ f tab l * if ld tab l = [] then 1 else 0) := by
      rw [sm_swap]
      have e3 : ∀ l ∈ List.range m, sm (List.range m) (fun r => zQ f tab l * onP tab l r) = zQ f tab l + (zQ f tab l * if ld tab l = [] then 1 else 0) * (-1) := fun l hl => by
        have e4 : sm (List.range m) (fun r => zQ f tab l * onP tab l r) = sm (List.range m) (fun r => onP tab l r * zQ f tab l) := sm_congr fun r _ => by rw [Rat.mul_comm]
        rw [e4, sm_mul]
        have e5 : sm (List.range m) (fun r => onP tab l r) = sm (List.range m) (onP tab l) := rfl
        rw [e5, onP_sum h (List.mem_range.mp hl)]
        grind
      rw [sm_congr e3, sm_add, sm_mul]
      have e6 : sm (List.range m) (fun i => zQ f tab i) = sm (List.range m) (zQ f tab) := rfl
      rw [e6]
      grind
    have e7 : sm (List.range m) (fun r => (stI tab r : Rat)) = (sumS tab : Rat) := by
      have := anew_one h
      have e8 : sm (List.range m) (fun r => (stI tab r : Rat)) = sm (List.range m) (fun r => anewQ tab r * (sumS tab : Rat)) := sm_congr fun r _ => by
        rw [anew_nx, Rat.divInt_eq_div]
        exact (Rat.div_mul_cancel hS).symm
      rw [e8, sm_mul]
      have e9 : sm (List.range m) (fun r => anewQ tab r) = sm (List.range m) (anewQ tab) := rfl
      rw [e9, this, Rat.one_mul]
    rw [sm_add, sm_mul, sm_mul, e7, e2] at e1
    grind
  -- the step
  have e1 : sm (List.range m) (fun i => zQ f tab i * stepQ f tab i j) = sm (List.range m) (fun i => (zQ f tab i * ((1 - f) * anewQ tab j) + (zQ f tab i * onP tab i j) * f) + (zQ f tab i * if ld tab i = [] then 1 else 0) * (f * anewQ tab j)) := sm_congr fun i hi => by
    unfold stepQ
    rw [on_P h (List.mem_range.mp hi) j]
    by_cases c : ld tab i = []
    · rw [if_pos c, if_pos c]; grind
    · rw [if_neg c, if_neg c]; grind
  rw [e1, sm_add, sm_add, sm_mul, sm_mul, sm_mul]
  have e2 : sm (List.range m) (fun i => zQ f tab i) = sm (List.range m) (zQ f tab) := rfl
  rw [e2]
  have hj2 := hr j hj
  have e3 : (stI tab j : Rat) = anewQ tab j * (sumS tab : Rat) := by
    rw [anew_nx, Rat.divInt_eq_div]
    exact (Rat.div_mul_cancel hS).symm
  rw [e3] at hj2
  rw [hj2]
  generalize sm (List.range m) (zQ f tab) = Z at *
  generalize sm (List.range m) (fun l => zQ f tab l * if ld tab l = [] then 1 else 0) = D at *
  generalize sm (List.range m) (fun l => zQ f tab l * onP tab l j) = O at *
  generalize anewQ tab j = a at *
  have e4 : a * (sumS tab : Rat) / ((f.den : Int) : Rat) = a * ((sumS tab : Rat) / ((f.den : Int) : Rat)) := by rw [Rat.div_def, Rat.div_def, Rat.mul_assoc]
  rw [e4]
  generalize (sumS tab : Rat) / ((f.den : Int) : Rat) = s at *
  grind
theorem std_of {f : Rat} {m : Nat} {tab : Tab} (hf : Fol f) (h : TabOk m tab) {xs : List Int} (hx : NumOk m xs) {c : Rat} (hc : ∀ i, i < m → (nx xs i : Rat) = zQ f tab i * c) : Std f tab xs := by
  obtain rfl := h.1
  have ht := num_tot hx h.2.1
  have e : ∀ i, i < tab.length → wt xs i = zQ f tab i * (c * (1 / (xs.sum : Rat))) := fun i hi => by
    unfold wt
    rw [Rat.divInt_eq_div, hc i hi, Rat.div_def]
    grind
  intro j hj
  have e1 : sm (List.range tab.length) (fun i => wt xs i * stepQ f tab i j) = sm (List.range tab.length) (fun i => (zQ f tab i * stepQ f tab i j) * (c * (1 / (xs.sum : Rat)))) := sm_congr fun i hi => by
    rw [e i (List.mem_range.mp hi)]; grind
  rw [e1, sm_mul, z_std hf h hj, e j hj]
end Dlk23

set_option Elab.async false
set_option linter.all false
set_option maxRecDepth 100000
set_option maxHeartbeats 4000000
set_option autoImplicit false
namespace Dlk23
open PySem PySem.Spec L2 DL
local macro_rules | `(tactic| walk_at "go") => `(tactic| simp only [outE_i, outE_n, sz0, sz1, sz2, sz3, sz4, sz5, sz6, sz7, sz8, sz9, sz10, sz11, sz12, sz13, sz14, sz15, sz16, ↓tdFr, ↓frE, ↓rdDivmod, ↓rdNotIn, ↓tdTru, ↓rdMulW, ↓rdGcd, ↓rdRgV, ↓tdRgI, ↓tdEnum2, ↓tdZip2, ↓tdPar, ↓tdRevA, ↓tdRevR, ↓rdDivP, ↓tdTupRg, ↓startE, ↓tdSeq, ↓tdSet, ↓tdSetD, ↓tdDrop, ↓tdRet, ↓tdIfS, ↓tdNext, ↓tdAsg, ↓tdV, ↓tdC, ↓tdBin, ↓tdB, ↓tdCons, ↓tdNil, ↓tdTup, ↓tdLst, ↓tdTest, ↓tdAnd, ↓tdOr, ↓tdNot, ↓tdIf, ↓tdAndV, ↓tdOrV, ↓tdNotV, ↓tdNeg, ↓tdIsN, ↓tdNotN, ↓tdSl, ↓tdPart, ↓tdNoPart, ↓tdM, ↓tdSetIx, ↓tdAug, ↓tdPut, ↓tdGet2, ↓tdIsi, ↓tdListRg, ↓gdName, ↓gdNil, ↓gdCons, ↓gdTup, ↓tdIt, ↓tdRng1, ↓tdRng2, ↓tdCall, ↓tdNew, ↓tdJoin, ↓gcName, ↓gcNil, ↓gcCons, ↓gcTup, ↓tdYes, ↓res, ↓resR, ↓resAll, ↓rvD, ↓rdLen, ↓rdInt, ↓rdAbs, ↓rdMax2, ↓rdMin2, ↓rdOrd, ↓rdTuple, ↓rdList, ↓rdIx, ↓rdAdd, ↓rdSub, ↓rdMul, ↓rdMod, ↓rdDiv, ↓rdPow, ↓rdCmp, ↓rdEq, ↓rdNe, ↓rdIadd, ↓rdIn, ↓rdSorted, ↓rdSl, ↓isT, ↓rdAppend, ↓itemsOf, ↓rvOf, ↓argsOf, ↓argOf, Nat.reduceAdd, Nat.reduceLT, Nat.reduceSub, Int.reduceLT, Int.reduceLE, Int.reduceAdd, Int.reduceEq, Int.reduceNeg, Nat.reduceLeDiff, Nat.zero_add, Nat.reduceEqDiff, Nat.reduceBEq, ix41, ix42, ix43, ix40, List.length_cons, List.length_nil, List.map_cons, List.map_nil, List.replicate, List.cons_append, List.nil_append, List.getElem?_cons_zero, List.getElem?_cons_succ, List.set_cons_zero, List.set_cons_succ, Option.map_some, at0, at1, at2, at3, ix0, ix1, ix2, ix3, sh_int, sh_bl, sh_non, eqv_int, eqv_bl, eqv_str, decide_eq_true_eq, Bool.not_eq_true, Bool.not_true, Bool.not_false, Bool.false_eq_true, true_and, and_true, if_true, if_false, ite_true, ite_false, List.length_map, List.length_set, Sl.isD, List.mem_singleton, List.mem_cons, List.not_mem_nil, not_true_eq_false, not_false_eq_true, or_false])
local macro_rules | `(tactic| nomatch $xs,*) => `(tactic| simp only [$[$xs:term],*, outE_i, outE_n, sz0, sz1, sz2, sz3, sz4, sz5, sz6, sz7, sz8, sz9, sz10, sz11, sz12, sz13, sz14, sz15, sz16, ↓tdFr, ↓frE, ↓rdDivmod, ↓rdNotIn, ↓tdTru, ↓rdMulW, ↓rdGcd, ↓rdRgV, ↓tdRgI, ↓tdEnum2, ↓tdZip2, ↓tdPar, ↓tdRevA, ↓tdRevR, ↓rdDivP, ↓tdTupRg, ↓startE, ↓tdSeq, ↓tdSet, ↓tdSetD, ↓tdDrop, ↓tdRet, ↓tdIfS, ↓tdNext, ↓tdAsg, ↓tdV, ↓tdC, ↓tdBin, ↓tdB, ↓tdCons, ↓tdNil, ↓tdTup, ↓tdLst, ↓tdTest, ↓tdAnd, ↓tdOr, ↓tdNot, ↓tdIf, ↓tdAndV, ↓tdOrV, ↓tdNotV, ↓tdNeg, ↓tdIsN, ↓tdNotN, ↓tdSl, ↓tdPart, ↓tdNoPart, ↓tdM, ↓tdSetIx, ↓tdAug, ↓tdPut, ↓tdGet2, ↓tdIsi, ↓tdListRg, ↓gdName, ↓gdNil, ↓gdCons, ↓gdTup, ↓tdIt, ↓tdRng1, ↓tdRng2, ↓tdCall, ↓tdNew, ↓tdJoin, ↓gcName, ↓gcNil, ↓gcCons, ↓gcTup, ↓tdYes, ↓res, ↓resR, ↓resAll, ↓rvD, ↓rdLen, ↓rdInt, ↓rdAbs, ↓rdMax2, ↓rdMin2, ↓rdOrd, ↓rdTuple, ↓rdList, ↓rdIx, ↓rdAdd, ↓rdSub, ↓rdMul, ↓rdMod, ↓rdDiv, ↓rdPow, ↓rdCmp, ↓rdEq, ↓rdNe, ↓rdIadd, ↓rdIn, ↓rdSorted, ↓rdSl, ↓isT, ↓rdAppend, ↓itemsOf, ↓rvOf, ↓argsOf, ↓argOf, Nat.reduceAdd, Nat.reduceLT, Nat.reduceSub, Int.reduceLT, Int.reduceLE, Int.reduceAdd, Int.reduceEq, Int.reduceNeg, Nat.reduceLeDiff, Nat.zero_add, Nat.reduceEqDiff, Nat.reduceBEq, ix41, ix42, ix43, ix40, List.length_cons, List.length_nil, List.map_cons, List.map_nil, List.replicate, List.cons_append, List.nil_append, List.getElem?_cons_zero, List.getElem?_cons_succ, List.set_cons_zero, List.set_cons_succ, Option.map_some, at0, at1, at2, at3, ix0, ix1, ix2, ix3, sh_int, sh_bl, sh_non, eqv_int, eqv_bl, eqv_str, decide_eq_true_eq, Bool.not_eq_true, Bool.not_true, Bool.not_false, Bool.false_eq_true, true_and, and_true, if_true, if_false, ite_true, ite_false, List.length_map, List.length_set, Sl.isD, List.mem_singleton, List.mem_cons, List.not_mem_nil, not_true_eq_false, not_false_eq_true, or_false])
def rowI (n : Nat) (E : Nat → Int) : PyData := .list ((List.range n).map fun c => .int (E c))
theorem tab_rng (tab : Tab) (g : Int × List Int → PyData) : tab.map g = (List.range tab.length).map fun c => g ((tab[c]?).getD (0, [])) := by
  refine List.ext_getElem? fun i => ?_
  rw [List.getElem?_map, List.getElem?_map]
  by_cases c : i < tab.length
  · rw [List.getElem?_range c, List.getElem?_eq_getElem c]
    show some (g tab[i]) = some (g ((tab[i]?).getD (0, [])))
    rw [List.getElem?_eq_getElem c]
    rfl
  · rw [List.getElem?_eq_none (l := tab) (by omega), List.getElem?_eq_none (l := List.range tab.length) (by rw [List.length_range]; omega)]
    rfl
theorem at_rng {f : Nat → PyData} {n i : Nat} (h : i < n) : atI ((List.range n).map f) (i : Int) = some (f i) := atI_nat (by rw [List.getElem?_map, List.getElem?_range h]; rfl)
theorem ix_nat {n i : Nat} (h : i < n) : ixN n (i : Int) = some i := by
  unfold ixN
  simp
  omega
theorem row0 (f : Rat) (tab : Tab) {i : Nat} (hi : i < tab.length) : ((List.range tab.length).map fun c => PyData.int (-f.num * if (i : Int) ∈ ((tab[c]?).getD (0, [])).2 then 1 else 0)).set i (.int (f.den * outI tab i)) ++ [.int (nx (tab.map (·.1)) i)] = (List.range (tab.length + 1)).map fun c => .int (eI f tab 0 i c) := by
  rw [List.range_succ, List.map_append]
  congr 1
  · refine List.ext_getElem (by simp) fun c h1 h2 => ?_
    rw [List.getElem_set, List.getElem_map, List.getElem_map, List.getElem_range, e_zero]
    have hc : ¬ c = tab.length := by simp at h2; omega
    unfold AI
    rw [if_neg hc]
    by_cases c1 : i = c
    · rw [if_pos c1, if_pos c1.symm, c1]
    · rw [if_neg c1, if_neg (show ¬ c = i from fun z => c1 z.symm)]
      by_cases c2 : (i : Int) ∈ ld tab c
      · rw [if_pos c2, if_pos (show (i : Int) ∈ ((tab[c]?).getD (0, [])).2 from c2)]
        congr 1; omega
      · rw [if_neg c2, if_neg (show ¬ (i : Int) ∈ ((tab[c]?).getD (0, [])).2 from c2)]
        congr 1; omega
  · rw [List.map_cons, List.map_nil, e_zero]
    unfold AI
    rw [if_pos rfl]
    rfl
def mid (f : Rat) (tab : Tab) (q i r : Nat) : Nat → Int := if r < i ∧ r ≠ q then eI f tab (q + 1) r else eI f tab q r
theorem mid_zero (f : Rat) (tab : Tab) (q r : Nat) : mid f tab q 0 r = eI f tab q r := by unfold mid; rw [if_neg (by omega)]
theorem mid_at (f : Rat) (tab : Tab) (q i : Nat) : mid f tab q i i = eI f tab q i := by unfold mid; rw [if_neg (by omega)]
theorem mid_self (f : Rat) (tab : Tab) (q r : Nat) : mid f tab q (q + 1) r = mid f tab q q r := by
  unfold mid
  by_cases c : r < q
  · rw [if_pos (by omega), if_pos (by omega)]
  · rw [if_neg (by omega), if_neg (by omega)]
theorem mid_next {f : Rat} {tab : Tab} {q i : Nat} (h : i ≠ q) : mid f tab q (i + 1) i = eI f tab (q + 1) i ∧ ∀ r, r ≠ i → mid f tab q (i + 1) r = mid f tab q i r := by
  unfold mid
  refine ⟨by rw [if_pos (by omega)], fun r hr => ?_⟩
  by_cases c : r < i ∧ r ≠ q
  · rw [if_pos c, if_pos (by omega)]
  · rw [if_neg c, if_neg (by omega)]
theorem rowI_eq (n : Nat) (E : Nat → Int) : rowI n E = .list ((List.range n).map fun c => .int (E c)) := rfl
theorem mid_end {f : Rat} {m : Nat} {tab : Tab} (hf : Fol f) (h : TabOk m tab) {q : Nat} (hq : q < m) : (List.range m).map (fun r => rowI (m + 1) (mid f tab q m r)) = (List.range m).map fun r => rowI (m + 1) (eI f tab (q + 1) r) := by
  refine List.map_congr_left fun r hr => ?_
  have hr := List.mem_range.mp hr
  unfold mid
  by_cases c : r = q
  · subst c
    rw [if_neg (by omega), rowI_eq, rowI_eq]
    congr 1
    exact List.map_congr_left fun c hc => by rw [e_lead hf h hq (List.mem_range.mp hc)]
  · rw [if_pos (by omega)]
theorem set_rng2 {g k : Nat → PyData} {n i : Nat} (h : ∀ r, r ≠ i → k r = g r) : ((List.range n).map g).set i (k i) = (List.range n).map k := by
  refine List.ext_getElem (by simp) fun o h1 h2 => ?_
  rw [List.getElem_set, List.getElem_map, List.getElem_map, List.getElem_range]
  by_cases c : i = o
  · rw [if_pos c, c]
  · rw [if_neg c, h o (fun z => c z.symm)]
theorem cdiv {x g : Int} (h : 0 < g) (h2 : Sm 5600 g) : CDivP x g := by
  refine ⟨by omega, PyProof.noPylong_of_log2 ?_⟩
  have := h2.log (by decide)
  omega
def nuI (f : Rat) (tab : Tab) (j : Nat) : Int := outI tab j * eI f tab tab.length j tab.length
theorem nu_ok {f : Rat} {tab : Tab} (hf : Fol f) (h : TabOk tab.length tab) {i : Nat} (hi : i < tab.length) : 0 < nuI f tab i ∧ Sm 160 (nuI f tab i) := by
  have ho := ld_len h hi
  refine ⟨Int.mul_pos (by omega) (e_pos hf h hi), ?_⟩
  exact ((sm10 (by omega) (by omega)).mul (eI_ok hf h (Nat.le_refl _) hi (by omega)).2).mono (by decide)
theorem G_snoc (l : List Int) (x : Int) : G (l ++ [x]) = Int.gcd (G l) x := by unfold G; rw [List.foldl_append, List.foldl_cons, List.foldl_nil]
theorem G_dvd_aux : ∀ (xs : List Int) (g : Nat), (xs.foldl (fun g x => Int.gcd g x) g) ∣ g ∧ ∀ x ∈ xs, ((xs.foldl (fun g x => Int.gcd g x) g : Nat) : Int) ∣ x
  | [], g => ⟨Nat.dvd_refl g, fun x hx => by cases hx⟩
  | a :: r, g => by
    obtain ⟨h1, h2⟩ := G_dvd_aux r (Int.gcd g a)
    rw [List.foldl_cons]
    have h3 : Int.gcd g a ∣ g := by have := Int.gcd_dvd_natAbs_left (a := (g : Int)) (b := a); simpa using this
    refine ⟨Nat.dvd_trans h1 h3, fun x hx => ?_⟩
    rcases List.mem_cons.mp hx with rfl | hx
    · exact Int.dvd_trans (Int.natCast_dvd_natCast.mpr h1) (Int.gcd_dvd_right ..)
    · exact h2 x hx
theorem G_dvd {xs : List Int} {x : Int} (h : x ∈ xs) : ((G xs : Nat) : Int) ∣ x := (G_dvd_aux xs 0).2 x h
theorem dvd_G_aux : ∀ (xs : List Int) (g d : Nat), d ∣ g → (∀ x ∈ xs, (d : Int) ∣ x) → d ∣ xs.foldl (fun g x => Int.gcd g x) g
  | [], g, d, h, _ => h
  | a :: r, g, d, h, h2 => by
    rw [List.foldl_cons]
    refine dvd_G_aux r _ d ?_ fun x hx => h2 x (List.mem_cons_of_mem _ hx)
    exact Int.natCast_dvd_natCast.mp (Int.dvd_coe_gcd (Int.natCast_dvd_natCast.mpr h) (h2 a List.mem_cons_self))
theorem dvd_G {xs : List Int} {d : Nat} (h : ∀ x ∈ xs, (d : Int) ∣ x) : d ∣ G xs := dvd_G_aux xs 0 d (Nat.dvd_zero d) h
section
variable {args : List Sl} {Q : Sl → (Nat → Option Sl) → Prop}
theorem h_law_s_parts (hl : args.length = 2) (h : sp_law_s_parts args Q) : t_law_s_parts (KD Q) (startE 15 args) := by
  obtain ⟨f, m, tab, rfl, hf, hT, k⟩ := h
  obtain rfl := hT.1
  have hm := hT.2.1
  have hn := fol_num hf
  have hd := hf.2.2
  have ef : fr f = .tuple [.int f.num, .int f.den] := rfl
  have sn : Sm 5600 (-f.num) := (sm10 (by omega) (by omega)).mono (by decide)
  have s1 : Sm 5600 1 := (sm10 (by omega) (by omega)).mono (by decide)
  have s0 : Sm 5600 0 := (sm10 (by omega) (by omega)).mono (by decide)
  unfold t_law_s_parts
  rw [ef, tbD_eq]
  refine seq_i fun Kc hK => ?_
  walk_at "go"
  subst hK
  refine seq_i fun Kc hK => ?_
  walk_at "go"
  refine lc_map tab lnD (fun l => .int (max 1 (l.2.length : Int))) (fun R hR => ?_) (small_of (by omega)) (by simp [noOwn]) (fun l hlt A B hA hB => ?_) ?_
  · walk_at "go"
    exact hR
  · have em : (if ((l.2.length : Nat) : Int) > 1 then ((l.2.length : Nat) : Int) else 1) = max 1 (l.2.length : Int) := by split <;> omega
    unfold lnD
    nomatch wipeE, mergeE, tupI_eq, em
    exact ⟨hA, hB⟩
  rw [tab_rng tab fun l => .int (max 1 (l.2.length : Int))]
  walk_at "go"
  subst hK
  refine seq_i fun Kc hK => ?_
  walk_at "go"
  subst hK
  refine seq_i fun Kc hK => ?_
  refine for_i fun Kx hKx => ?_
  walk_at "go"
  rw [rng_map]
  refine ⟨by omega, ?_⟩
  refine hKx _ _ ⟨fun i env => ∃ x6 x7, (∀ s, x6 = some s → s.isD = true) ∧ env = [some (.d (.tuple [.int f.num, .int f.den])), some (.d (.tuple (tab.map lnD))), some (.d (.int (tab.length))), some (.d (.list ((List.range tab.length).map fun c => .int (outI tab c)))), none, some (.l ((List.range i).map fun r => rowI (tab.length + 1) (eI f tab 0 r))), x6, x7, none, none, none, none, none, none, none], ⟨none, none, (fun s h => by cases h), rfl⟩, fun i x env hx2 hP => ?_, fun env hP => ?_⟩
  · obtain ⟨x6, x7, h6, rfl⟩ := hP
    rw [← rng_map] at hx2
    obtain ⟨rfl, hi⟩ := rng_at hx2
    have hi2 : i < tab.length := by omega
    refine ⟨by simp, ?_⟩
    simp only [List.set_cons_zero, List.set_cons_succ]
    refine seq_i fun Kc hK => ?_
    walk_at "go"
    refine lc_map tab lnD (fun l => .int (-f.num * if (i : Int) ∈ l.2 then 1 else 0)) (fun R hR => ?_) (small_of (by omega)) (by simp [noOwn]) (fun l hlt A B hA hB => ?_) ?_
    · walk_at "go"
      exact hR
    · unfold lnD
      by_cases c : (i : Int) ∈ l.2
      · nomatch wipeE, mergeE, tupI_eq, sh_tup, any_int, c, decide_true
        refine ⟨cm sn s1, hA, ?_⟩
        rw [if_pos c] at hB
        exact hB
      · nomatch wipeE, mergeE, tupI_eq, sh_tup, any_int, c, decide_false
        refine ⟨cm sn s0, hA, ?_⟩
        rw [if_neg c] at hB
        exact hB
    rw [tab_rng tab fun l => .int (-f.num * if (i : Int) ∈ l.2 then 1 else 0)]
    walk_at "go"
    subst hK
    refine seq_i fun Kc hK => ?_
    have ho := ld_len hT hi2
    have ao : atI ((List.range tab.length).map fun c => PyData.int (outI tab c)) (i : Int) = some (.int (outI tab i)) := at_rng (f := fun c => PyData.int (outI tab c)) hi2
    have ix : ixN tab.length (i : Int) = some i := ix_nat hi2
    have so : Sm 5600 (outI tab i) := (sm10 (by omega) (by omega)).mono (by decide)
    have sd : Sm 5600 (f.den : Int) := (sm10 (by omega) (by omega)).mono (by decide)
    nomatch ao, List.length_range, ix
    refine ⟨cm sd so, ?_⟩
    subst hK
    obtain ⟨nsl, ast, _⟩ := start_at hT hi2
    nomatch ast
    rw [row0 f tab hi2, List.range_succ (n := i), List.map_append]
    exact ⟨small_of (by rw [List.length_range]; omega), Nat.lt_of_lt_of_le (show (List.range i).length < 1001 by rw [List.length_range]; omega) (by decide), _, _, (fun s h => by cases h; rfl), rfl⟩
  · obtain ⟨x6, x7, h6, rfl⟩ := hP
    rw [show ((List.range tab.length).map fun i => PyData.int (i : Nat)).length = tab.length by rw [List.length_map, List.length_range]]
    subst hK
    dsimp only
    refine seq_i fun Kc hK => ?_
    walk_at "go"
    subst hK
    refine seq_i fun Kc hK => ?_
    refine for_i fun Kx hKx => ?_
    walk_at "go"
    rw [rng_map]
    refine ⟨by omega, ?_⟩
    refine hKx _ _ ⟨fun k env => ∃ x7 x9 x10 x11, env = [some (.d (.tuple [.int f.num, .int f.den])), some (.d (.tuple (tab.map lnD))), some (.d (.int (tab.length))), some (.d (.list ((List.range tab.length).map fun c => .int (outI tab c)))), none, some (.l ((List.range tab.length).map fun r => rowI (tab.length + 1) (eI f tab k r))), x6, x7, some (.d (.int (dI f tab k))), x9, x10, x11, none, none, none], ⟨x7, none, none, none, by rw [d_zero]⟩, fun q x env hx2 hP => ?_, fun env hP => ?_⟩
    · obtain ⟨x7, x9, x10, x11, rfl⟩ := hP
      rw [← rng_map] at hx2
      obtain ⟨rfl, hq⟩ := rng_at hx2
      have hq2 : q < tab.length := by omega
      refine ⟨by simp, ?_⟩
      simp only [List.set_cons_zero, List.set_cons_succ]
      have aq : atI ((List.range tab.length).map fun r => rowI (tab.length + 1) (eI f tab q r)) (q : Int) = some (rowI (tab.length + 1) (eI f tab q q)) := at_rng (f := fun r => rowI (tab.length + 1) (eI f tab q r)) hq2
      refine seq_i fun Kc hK => ?_
      nomatch aq
      subst hK
      refine seq_i fun Kc hK => ?_
      refine for_i fun Kx hKx => ?_
      walk_at "go"
      rw [rng_map]
      refine ⟨by omega, ?_⟩
      refine hKx _ _ ⟨fun i env => ∃ x7 x11, env = [some (.d (.tuple [.int f.num, .int f.den])), some (.d (.tuple (tab.map lnD))), some (.d (.int (tab.length))), some (.d (.list ((List.range tab.length).map fun c => .int (outI tab c)))), none, some (.l ((List.range tab.length).map fun r => rowI (tab.length + 1) (mid f tab q i r))), x6, x7, some (.d (.int (dI f tab q))), some (.d (.int (q))), some (.d (rowI (tab.length + 1) (eI f tab q q))), x11, none, none, none], ⟨x7, x11, by simp only [mid_zero]⟩, fun i x env hx2 hP => ?_, fun env hP => ?_⟩
      · obtain ⟨x7, x11, rfl⟩ := hP
        rw [← rng_map] at hx2
        obtain ⟨rfl, hi⟩ := rng_at hx2
        have hi2 : i < tab.length := by omega
        refine ⟨by simp, ?_⟩
        simp only [List.set_cons_zero, List.set_cons_succ]
        have ai : atI ((List.range tab.length).map fun r => rowI (tab.length + 1) (mid f tab q i r)) (i : Int) = some (rowI (tab.length + 1) (eI f tab q i)) := by
          have := at_rng (f := fun r => rowI (tab.length + 1) (mid f tab q i r)) hi2
          rw [mid_at] at this
          exact this
        refine seq_i fun Kc hK => ?_
        nomatch ai
        subst hK
        by_cases cne : i = q
        · have c0 : ((i : Nat) : Int) = (q : Nat) := by omega
          subst cne
          nomatch c0, decide_true
          simp only [mid_self]
          exact ⟨_, _, rfl⟩
        · have c0 : ¬ ((i : Nat) : Int) = (q : Nat) := by omega
          have ix : ixN tab.length (i : Int) = some i := ix_nat hi2
          obtain ⟨dc, ds, dp⟩ := dI_ok hf hT (show q ≤ tab.length by omega)
          nomatch c0, decide_false
          refine lc_map (List.range (tab.length + 1)) (fun c => .int (c : Nat)) (fun c => .int (eI f tab (q + 1) i c)) (fun R hR => ?_) (small_of (by rw [List.length_range]; omega)) (by
              simp [noOwn]
              cases x6 with
              | none => simp
              | some s => exact h6 s rfl) (fun c hc A B hA hB => ?_) ?_
          · walk_at "go"
            rw [show ((tab.length : Nat) : Int) + 1 = ((tab.length + 1 : Nat) : Int) by omega, rng_map]
            exact ⟨by omega, hR⟩
          · have hc2 := List.mem_range.mp hc
            have a1 : ∀ E : Nat → Int, atI ((List.range (tab.length + 1)).map fun c => PyData.int (E c)) (c : Int) = some (.int (E c)) := fun E => at_rng (f := fun c => PyData.int (E c)) hc2
            have a2 : ∀ E : Nat → Int, atI ((List.range (tab.length + 1)).map fun c => PyData.int (E c)) (q : Int) = some (.int (E q)) := fun E => at_rng (f := fun c => PyData.int (E c)) (show q < tab.length + 1 by omega)
            have s1 := ((eI_ok hf hT (show q ≤ tab.length by omega) hi2 hc2).2).mono (by decide : 150 ≤ 5600)
            have s2 := ((eI_ok hf hT (show q ≤ tab.length by omega) hq2 (show q < tab.length + 1 by omega)).2).mono (by decide : 150 ≤ 5600)
            have s3 := ((eI_ok hf hT (show q ≤ tab.length by omega) hi2 (show q < tab.length + 1 by omega)).2).mono (by decide : 150 ≤ 5600)
            have s4 := ((eI_ok hf hT (show q ≤ tab.length by omega) hq2 hc2).2).mono (by decide : 150 ≤ 5600)
            have er := e_row hf hT hq2 hi2 hc2 cne
            have e5 := rowI_eq (tab.length + 1) (eI f tab q i)
            have e6 := rowI_eq (tab.length + 1) (eI f tab q q)
            nomatch wipeE, e5, e6, a1, a2, mergeE
            refine ⟨cm s1 s2, cm s3 s4, cdiv dp (ds.mono (by decide)), hA, ?_⟩
            rw [er, Int.mul_ediv_cancel_left _ (by omega)]
            exact hB
          have e7 : ((List.range tab.length).map fun r => rowI (tab.length + 1) (mid f tab q i r)).set i (PyData.list ((List.range (tab.length + 1)).map fun c => .int (eI f tab (q + 1) i c))) = (List.range tab.length).map fun r => rowI (tab.length + 1) (mid f tab q (i + 1) r) := by
            obtain ⟨n1, n2⟩ := mid_next (f := f) (tab := tab) cne
            have := set_rng2 (g := fun r => rowI (tab.length + 1) (mid f tab q i r)) (k := fun r => rowI (tab.length + 1) (mid f tab q (i + 1) r)) (n := tab.length) (i := i) fun r hr => by rw [n2 r hr]
            rw [n1, rowI_eq] at this
            exact this
          nomatch List.length_map, List.length_range, ix
          rw [e7]
          exact ⟨_, _, rfl⟩
      · obtain ⟨x7, x11, rfl⟩ := hP
        rw [show ((List.range tab.length).map fun i => PyData.int (i : Nat)).length = tab.length by rw [List.length_map, List.length_range], mid_end hf hT hq2]
        subst hK
        have a2 : atI ((List.range (tab.length + 1)).map fun c => PyData.int (eI f tab q q c)) (q : Int) = some (.int (eI f tab q q q)) := at_rng (f := fun c => PyData.int (eI f tab q q c)) (show q < tab.length + 1 by omega)
        have e6 := rowI_eq (tab.length + 1) (eI f tab q q)
        nomatch e6, a2
        exact ⟨_, _, _, _, rfl⟩
    · obtain ⟨x7, x9, x10, x11, rfl⟩ := hP
      rw [show ((List.range tab.length).map fun i => PyData.int (i : Nat)).length = tab.length by rw [List.length_map, List.length_range]]
      subst hK
      dsimp only
      refine seq_i fun Kc hK => ?_
      walk_at "go"
      refine lc_map (List.range tab.length) (fun c => .int (c : Nat)) (fun c => .int (nuI f tab c)) (fun R hR => ?_) (small_of (by rw [List.length_range]; omega)) (by
              simp [noOwn]
              cases x6 with
              | none => simp
              | some s => exact h6 s rfl) (fun c hc A B hA hB => ?_) ?_
      · walk_at "go"
        rw [rng_map]
        exact ⟨by omega, hR⟩
      · have hc2 := List.mem_range.mp hc
        have ho := ld_len hT hc2
        have a1 : atI ((List.range tab.length).map fun c => PyData.int (outI tab c)) (c : Int) = some (.int (outI tab c)) := at_rng (f := fun c => PyData.int (outI tab c)) hc2
        have a2 : atI ((List.range tab.length).map fun r => rowI (tab.length + 1) (eI f tab tab.length r)) (c : Int) = some (rowI (tab.length + 1) (eI f tab tab.length c)) := at_rng (f := fun r => rowI (tab.length + 1) (eI f tab tab.length r)) hc2
        have a3 : atI ((List.range (tab.length + 1)).map fun j => PyData.int (eI f tab tab.length c j)) (tab.length : Int) = some (.int (eI f tab tab.length c tab.length)) := at_rng (f := fun j => PyData.int (eI f tab tab.length c j)) (by omega)
        have e5 := rowI_eq (tab.length + 1) (eI f tab tab.length c)
        have so : Sm 5600 (outI tab c) := (sm10 (by omega) (by omega)).mono (by decide)
        have se := ((eI_ok hf hT (Nat.le_refl tab.length) hc2 (show tab.length < tab.length + 1 by omega)).2).mono (by decide : 150 ≤ 5600)
        nomatch wipeE, a1, a2, e5, a3, mergeE
        exact ⟨cm so se, hA, hB⟩
      walk_at "go"
      subst hK
      refine seq_i fun Kc hK => ?_
      walk_at "go"
      subst hK
      refine seq_i fun Kc hK => ?_
      refine for_i fun Kx hKx => ?_
      walk_at "go"
      refine hKx _ _ ⟨fun i env => ∃ (g : Nat) (x14 : Option Sl), (g = G ((List.range i).map (nuI f tab)) ∧ (0 < i → 0 < g) ∧ ∀ s, x14 = some s → s.isD = true) ∧ env = [some (.d (.tuple [.int f.num, .int f.den])), some (.d (.tuple (tab.map lnD))), some (.d (.int (tab.length))), some (.d (.list ((List.range tab.length).map fun c => .int (outI tab c)))), none, some (.l ((List.range tab.length).map fun r => rowI (tab.length + 1) (eI f tab tab.length r))), x6, x7, some (.d (.int (dI f tab tab.length))), x9, x10, x11, some (.d (.list ((List.range tab.length).map fun j => .int (nuI f tab j)))), some (.d (.int (g))), x14], ⟨0, none, ⟨rfl, fun h => by omega, fun s h => (by cases h)⟩, rfl⟩, fun i x env hx2 hP => ?_, fun env hP => ?_⟩
      · obtain ⟨g, x14, ⟨hg1, hg2, h14⟩, rfl⟩ := hP
        rw [List.getElem?_map] at hx2
        obtain ⟨o, ho, rfl⟩ := Option.map_eq_some_iff.mp hx2
        obtain ⟨g1, g2⟩ := List.getElem?_eq_some_iff.mp ho
        rw [List.getElem_range] at g2
        subst g2
        rw [List.length_range] at g1
        have hp := (nu_ok hf hT g1).1
        walk_at "go"
        refine ⟨_, _, rfl, by omega, fun os => ?_⟩
        walk_at "go"
        refine ⟨Int.gcd g (nuI f tab i), _, ⟨by rw [hg1, List.range_succ, List.map_append, List.map_cons, List.map_nil, G_snoc], fun _ => Int.gcd_pos_of_ne_zero_right _ (by omega), fun s h => (by cases h; rfl)⟩, rfl⟩
      · obtain ⟨g, x14, ⟨hg1, hg2, h14⟩, rfl⟩ := hP
        rw [List.length_map, List.length_range] at hg1 hg2
        have hgG := hg1
        replace hg1 : ∀ o, o < tab.length → (g : Int) ∣ nuI f tab o := fun o ho => by
          rw [hgG]
          exact G_dvd (List.mem_map.mpr ⟨o, List.mem_range.mpr ho, rfl⟩)
        have hg0 := hg2 (by omega)
        subst hK
        walk_at "go"
        have sg : Sm 5600 (g : Int) := by
          have h1 := nu_ok hf hT (show 0 < tab.length by omega)
          have h2 := Int.le_of_dvd h1.1 (hg1 0 (by omega))
          have h3 := h1.2.mono (by decide : 160 ≤ 5600)
          unfold Sm at *
          omega
        refine lc_map (List.range tab.length) (fun c => .int (nuI f tab c)) (fun c => .int (nuI f tab c / (g : Int))) (fun R hR => ?_) (small_of (by rw [List.length_range]; omega)) (by
              simp [noOwn]
              cases x14 with
              | none => simp
              | some s => exact h14 s rfl) (fun c hc A B hA hB => ?_) ?_
        · walk_at "go"
          exact hR
        · nomatch wipeE, mergeE
          exact ⟨cdiv (by omega) sg, hA, hB⟩
        walk_at "go"
        have el : ((List.range tab.length).map fun c => PyData.int (nuI f tab c / (g : Int))) = ((List.range tab.length).map fun c => nuI f tab c / (g : Int)).map .int := by rw [List.map_map]; rfl
        have hnx : ∀ i, i < tab.length → nx ((List.range tab.length).map fun c => nuI f tab c / (g : Int)) i = nuI f tab i / (g : Int) := fun i hi => by
          unfold nx
          rw [List.getElem?_map, List.getElem?_range hi]
          rfl
        have hx : NumOk tab.length ((List.range tab.length).map fun c => nuI f tab c / (g : Int)) := by
          refine ⟨by rw [List.length_map, List.length_range], fun x hx => ?_⟩
          obtain ⟨i, hi, rfl⟩ := List.mem_map.mp hx
          have hi2 := List.mem_range.mp hi
          have h1 := nu_ok hf hT hi2
          obtain ⟨w, hw⟩ := hg1 i hi2
          have hwg : nuI f tab i / (g : Int) = w := by rw [hw]; exact Int.mul_ediv_cancel_left _ (by omega)
          have hw0 : 0 < w := by
            rcases Int.lt_trichotomy 0 w with q | q | q
            · exact q
            · rw [← q, Int.mul_zero] at hw; omega
            · have := Int.mul_neg_of_pos_of_neg (show (0 : Int) < (g : Int) by omega) q; omega
          rw [hwg]
          refine ⟨hw0, ?_⟩
          have h3 := h1.2.mono (by decide : 160 ≤ 200)
          have h4 : w ≤ nuI f tab i := by
            rw [hw]
            have := Int.mul_le_mul_of_nonneg_right (show (1 : Int) ≤ (g : Int) by omega) (show 0 ≤ w by omega)
            omega
          unfold Sm at *
          omega
        have hgr := ne_cast (z := (g : Int)) (by omega)
        have hG1 : G ((List.range tab.length).map fun c => nuI f tab c / (g : Int)) = 1 := by
          generalize hd : G ((List.range tab.length).map fun c => nuI f tab c / (g : Int)) = d
          have h2 : d * g ∣ G ((List.range tab.length).map (nuI f tab)) := dvd_G fun x hx2 => by
            obtain ⟨i, hi, rfl⟩ := List.mem_map.mp hx2
            have h3 : ((d : Nat) : Int) ∣ nuI f tab i / (g : Int) := by
              rw [← hd]
              exact G_dvd (List.mem_map.mpr ⟨i, hi, rfl⟩)
            have h4 : nuI f tab i / (g : Int) * (g : Int) = nuI f tab i := Int.ediv_mul_cancel (hg1 i (List.mem_range.mp hi))
            rw [← h4, Int.natCast_mul]
            exact Int.mul_dvd_mul h3 (Int.dvd_refl _)
          rw [← hgG] at h2
          have h5 := Nat.le_of_dvd hg0 h2
          have h6 : 0 < d := by
            rcases Nat.eq_zero_or_pos d with q | q
            · rw [q, Nat.zero_mul] at h2
              have := Nat.eq_zero_of_zero_dvd h2
              omega
            · exact q
          have h7 : d * g ≤ 1 * g := by omega
          have h8 := Nat.le_of_mul_le_mul_right h7 hg0
          omega
        rw [el]
        refine k _ _ hx (std_of hf hT hx (c := Dm.dd (AQ f tab) tab.length / ((g : Int) : Rat)) fun i hi => ?_) ?_
        rotate_left
        · exact hG1
        rw [hnx i hi]
        obtain ⟨w, hw⟩ := hg1 i hi
        have hwg : nuI f tab i / (g : Int) = w := by rw [hw]; exact Int.mul_ediv_cancel_left _ (by omega)
        rw [hwg]
        have h5 : ((nuI f tab i : Int) : Rat) = zQ f tab i * Dm.dd (AQ f tab) tab.length := by
          unfold nuI zQ
          rw [Rat.intCast_mul, (eI_ok hf hT (Nat.le_refl tab.length) hi (show tab.length < tab.length + 1 by omega)).1]
          grind
        rw [hw, Rat.intCast_mul] at h5
        grind
end
end Dlk23

set_option Elab.async false
set_option linter.all false
set_option maxRecDepth 100000
set_option maxHeartbeats 4000000
set_option autoImplicit false
namespace DL
open PySem PySem.Spec PySem.W L2 PyProof.Rows PyProof.V
/-! ### lcm of two small ints -/
def rLcmS : List V → Hp → VK → Prop := fun vs H Q => ∃ a b : Int, vs = [.int a, .int b] ∧ a.natAbs < 2 ^ 30 ∧ b.natAbs < 2 ^ 30 ∧ Q (.int ((Nat.lcm a.natAbs b.natAbs : Nat) : Int)) H
theorem cr_lcmS {X : Cx} : CallR X (.builtin "math.lcm") rLcmS := by
  rintro pins s σ H vs us Q I rel ⟨a, b, rfl, ha, hb, q⟩
  obtain ⟨t, u, rfl⟩ := Vals.int2 rel
  have e1 : (Nat.lcm 1 a.natAbs).lcm b.natAbs = a.natAbs.lcm b.natAbs := by rw [Nat.lcm_one_left]
  have le : a.natAbs.lcm b.natAbs ≤ a.natAbs * b.natAbs := Nat.div_le_self _ _
  have lt : a.natAbs * b.natAbs < 2 ^ 60 := by
    have := Nat.mul_lt_mul'' ha hb
    rwa [← Nat.pow_add] at this
  have hz : (((a.natAbs.lcm b.natAbs : Nat) : Int)).natAbs.log2 < 100 := by
    rw [Int.natAbs_natCast]
    by_cases c : a.natAbs.lcm b.natAbs = 0
    · rw [c, show Nat.log2 0 = 0 by decide]; decide
    · exact (Nat.log2_lt c).mpr (Nat.lt_of_lt_of_le (Nat.lt_of_le_of_lt le lt) (Nat.pow_le_pow_right (by decide) (by decide)))
  refine PySem.W.mg_lcm (Nat.lt_of_lt_of_le ha (Nat.pow_le_pow_right (by decide) (by decide))) (Nat.lt_of_lt_of_le hb (Nat.pow_le_pow_right (by decide) (by decide))) ?_ ?_
  · rw [e1]; exact Nat.lt_of_lt_of_le hz (by decide)
  · rw [e1]
    exact ⟨.int _, H, I.tok _, ⟨_, rfl⟩, q⟩
def rdLcm : List PyData → (Rv → Prop) → Prop
  | [.int i, .int j], Q => i.natAbs < 2 ^ 30 ∧ j.natAbs < 2 ^ 30 ∧ Q (.d (.int ((Nat.lcm i.natAbs j.natAbs : Nat) : Int)))
  | _, _ => False
theorem bd_lcm {X : Cx} : BD X (.builtin "math.lcm") rdLcm := by
  refine ⟨_, cr_lcmS, fun H W vs xs Q Qd hw r q k => ?_⟩
  unfold rdLcm at q
  split at q
  · obtain ⟨v, u, rfl, d, d2⟩ := dqall2 r
    exact ⟨_, _, by rw [d.int, d2.int], q.1, q.2.1, k.int q.2.2⟩
  · exact q.elim
end DL

set_option Elab.async false
set_option linter.all false
set_option maxRecDepth 100000
set_option maxHeartbeats 8000000
set_option autoImplicit false
namespace DL
open PySem PySem.Spec PySem.W L2 PyProof.Rows PyProof.V
/-! ### set(list of ints), and sorted of it -/
/-- a new set -/
abbrev nso (w : World) : Obj := { cls := .type "set", dict := none, data := .set #[] 0 (.fresh 0 0 (!w.params.followText "set-order")) }
section
variable {P : Program} {w : World} {A : Around} {E : Value → Shared → Prop} {s : Shared}
/-- what stands behind set(list) -/
def Made (w : World) (s : Shared) (ns : List Int) (h' : Heap) (c : Nat) : Prop := SetR w h' s.heap.objs.size (fun j => decide (j ∈ ns)) c ∧ c ≤ ns.length ∧ ∀ b o, s.heap.get? b = some o → h'.get? b = some o
theorem make_list {l : Addr} {items : Array Value} (ns : List Int) {Q : Value → Shared → Prop} (hh : A.handled = none) (hl : s.heap.IsList l items) (hit : IntsAre items.toList ns) (hb : ns.length + 1 < scanBound)
    (h : ∀ (h' : Heap) (tk c : Nat), Made w s ns h' c → Q (.ref s.heap.objs.size) { s with heap := h', toks := tk }) : wpAny (model P w) A (call (.type "set") [.ref l]) Q E s := by
  have hz : items.size = ns.length := (Array.length_toList (xs := items)).symm.trans (IntsAre.length hit)
  obtain ⟨cc, tl, hmro⟩ := F.called_set.mro
  have a1 := F.called_set.made; have a2 := F.called_set.sub
  refine wpAny_call (codeAny_of_tree ?_)
  show wpAny _ _ (callAny (.type "set") _) _ _ _
  refine wpAny_pure ⟨Code.quiet_builtin _ (by decide +kernel), ?_⟩
  refine codeAny_builtin F.entry_type_call ?_
  rw [Around.under_plain (weight_type_call_type "set" [.ref l] []) rfl]
  have a3 := F.called_set.notType; have a4 := F.called_set.canCreate; have a5 := F.typeCall_set_1 (.ref l)
  repeat any_goals first | wp_step | assumption
  refine codeAny_mono (code_set_led1 (.ref l) (E := E) (Q₁ := fun v t => v = .ref s.heap.objs.size ∧ t = { s with heap := s.heap.push (nso w) }) ⟨rfl, rfl⟩) fun r t hr => ?_
  rcases r with e | fl
  · exact hr
  cases fl with
  | ret v =>
    obtain ⟨rfl, rfl⟩ := hr
    have hS : (s.heap.push (nso w)).get? s.heap.objs.size = some (nso w) := Heap.get?_push_size _ rfl
    have hT : Shared.TypeIs { s with heap := s.heap.push (nso w) } (.ref s.heap.objs.size) "set" := ⟨_, hS, rfl⟩
    have b1 := F.called_set.init.lookup; have b2 := F.called_set.init.bind (.ref s.heap.objs.size)
    repeat any_goals first | wp_step | assumption
    refine codeAny_mono (codeAny_call_builtin (R := wants (fun r t => r = .none ∧ ∃ h' tk c, t = { s with heap := h', toks := tk } ∧ Made w s ns h' c) E) F.called_set.init.plain F.entry_set_init (check_set_init_1 hT ?_)) fun r2 t2 hr2 => ?_
    · obtain ⟨⟨k1, k2, k3, k4⟩, ho, hc, nl, hd⟩ := hl
      cases hc; cases hd
      have ho2 : (s.heap.push (nso w)).get? l = some ⟨.type "list", k2, .seq items nl, k4⟩ := Heap.get?_push_of_some _ ho
      have c1 := F.sub_list_set; have c2 := F.sub_list_frozenset
      have c3 : (Value.type "list" == Value.type "dict") = false := by decide
      have hl1 : (s.heap.push (nso w)).IsList l items := ⟨_, ho2, rfl, nl, rfl⟩
      unfold Builtin.«set.__init__» noKeywords Builtin.Frozenset.updateFrom
      generalize hPI : pyIter = PI
      wp_walk
      subst hPI
      refine wpAny_pyIter_list hl1 (wpAny_bind (wpAny_runValue ?_))
      generalize hB : s.heap.push (nso w) = B at *
      have zB : B.objs.size = s.heap.objs.size + 1 := by rw [← hB, Heap.size_push]
      have ll : l < s.heap.objs.size := Heap.lt_size ho
      have hv : ∀ (i : Nat) (v : Value), items[i]? = some v → ∃ k t, ns[i]? = some k ∧ v = .int k t := fun i v e => by
        have hi : i < ns.length := by rw [← hz]; exact (Array.getElem?_eq_some_iff.mp e).1
        obtain ⟨t, e2⟩ := IntsAre.int_at hit i v (by rw [Array.getElem?_toList]; exact e)
        refine ⟨ns[i], t, List.getElem?_eq_getElem hi, e2.trans ?_⟩
        rw [List.getD_eq_getElem?_getD, List.getElem?_eq_getElem hi]; rfl
      have nf : s.heap.objs.size ∉ [B.objs.size, l] := by
        rw [zB]; simp only [List.mem_cons, List.not_mem_nil, or_false]; exact not_or.mpr ⟨Nat.ne_of_lt (Nat.lt_succ_self _), Nat.ne_of_gt ll⟩
      have hI : (B.push { cls := .type "list_iterator", data := .fields #[.ref l, .int 0 0] }).get? s.heap.objs.size = some (nso w) := Heap.get?_push_of_some _ hS
      refine set_update_ints ((Walks.list (show A.in1.in1.in1.handled = none by simp [hh]) _ l (by rw [zB]; exact Nat.ne_of_lt (Nat.lt_succ_of_lt ll)) items).toS) s.heap.objs.size nf ns hz hb hv (items.size - 0) 0 _ (by omega) (Nat.zero_le _) ⟨⟨_, Heap.get?_push_size _ rfl, rfl, rfl⟩, hl1.push _⟩ ⟨0, Nat.le_refl 0, setR_new_at hI⟩ fun t c hm hc hR => ?_
      obtain ⟨th, tg, td, tt, to⟩ := t
      have m1 : tg = s.gens := hm.gens
      have m2 : td = s.drawn := hm.drawn
      have m3 : to = s.os := hm.os
      subst m1 m2 m3
      show wpAny _ _ _ _ _ _
      refine wpAny_pure ?_
      show wpAny _ _ (ret Value.none) _ _ _
      refine wpAny_pure ⟨rfl, th, tt, c, rfl, hR, by omega, fun b o e => ?_⟩
      have q1 := Heap.lt_size e
      refine hm.heap b o ?_ (Heap.get?_push_of_some _ (by rw [← hB]; exact Heap.get?_push_of_some _ e))
      simp only [List.mem_cons, List.not_mem_nil, or_false, zB]
      exact not_or.mpr ⟨Nat.ne_of_lt q1, Nat.ne_of_lt (Nat.lt_succ_of_lt q1)⟩
    · rcases r2 with e | fl2
      · exact hr2
      cases fl2 with
      | ret v =>
        obtain ⟨e1, h', tk, c, e2, hm⟩ := hr2
        subst e1; subst e2
        repeat any_goals first | wp_step | assumption
        exact h _ _ _ hm
      | _ => exact hr2.elim
  | _ => exact hr.elim
end
end DL

set_option Elab.async false
set_option linter.all false
set_option maxRecDepth 100000
set_option maxHeartbeats 4000000
set_option autoImplicit false
namespace DL
open PySem PySem.Spec PySem.W L2 PyProof.Rows PyProof.V
/-! ### sorted(set(ints)) -/
def rMkSet (K : PySem.W.Frag) (w : World) : List V → Hp → VK → Prop := fun vs H Q => ∃ (a : Addr) (ns : List Int), vs = [V.ref a] ∧ SqL K H a (ns.map V.int) ∧ ns.length ≤ 1000 ∧ ∀ p c, H p = none → c ≤ ns.length → Q (.ref p) (upd H p (SetO w p (fun j => decide (j ∈ ns)) c))
theorem cr_mkSet {X : Cx} (hc : X.calm = true) : CallR X (.type "set") (rMkSet X.K X.w) := by
  rintro pins s σ H vs us Q I rel ⟨a, ns, rfl, hs, hz, q⟩
  obtain ⟨its, rv, hl, _⟩ := I.list hs
  rw [Vals.ref1 rel]
  refine make_list ns (I.ok.hd hc) hl.isList (ints_of_vals rv) (by unfold scanBound; omega) fun h' tk c hm => ?_
  exact ⟨.ref _, upd H s.heap.objs.size (SetO X.w s.heap.objs.size (fun j => decide (j ∈ ns)) c), I.laid (t' := tk) hm.2.2 (Nat.le_refl _) (setO_new hm.1), rfl, q _ c (I.hok.fresh (Nat.le_refl _)) hm.2.1⟩
def tdSortSet (t : TDA) : TD := fun env Q => t env fun rvs env1 => match resR env1 rvs with
  | some [.list xs] => ∃ ns : List Int, xs = ns.map PyData.int ∧ ns.length < 64 ∧ ∀ ms : List Int, ms.Pairwise (· < ·) → (∀ k, k ∈ ms ↔ k ∈ ns) → Q (.n (.l (ms.map PyData.int))) env1
  | _ => False
theorem dp_ints {K : PySem.W.Frag} {H : Hp} : ∀ ns : List Int, DpAll K H (ns.map V.int) (ns.map PyData.int)
  | [] => .nil
  | a :: r => .cons (.int _) (dp_ints r)
theorem pd_sortSet {X : Cx} {e : Expr} {t : TDA} {p pos p2 pos2 : Pos} (hc : X.calm = true) (hg : Gl X "sorted") (hm : X.mg "sorted" = none) (hg2 : Gl X "set") (hm2 : X.mg "set" = none) (ha : PDA X [e] t)
    (n1 : starEach [e] X.env = (false, eval e X.env) :: starEach [] X.env := by rfl) (n2 : (backTo pos2 (starEach [] X.env)).any (·.1) = false := by rfl)
    (n3 : starEach [.Call (.Name "set" p2) [e] [] pos2] X.env = (false, eval (.Call (.Name "set" p2) [e] [] pos2) X.env) :: starEach [] X.env := by rfl) (n4 : (backTo pos (starEach [] X.env)).any (·.1) = false := by rfl) :
    PD X (.Call (.Name "sorted" p) [.Call (.Name "set" p2) [e] [] pos2] [] pos) (tdSortSet t) := by
  obtain ⟨t1, p1, q1⟩ := ha
  refine ⟨_, pe_callB (cr_sortedSet hc) hg hm boot_sorted (pa_cons (pe_callTy (cr_mkSet hc) hg2 hm2 boot_set p1 (by decide) (by decide) n1 n2) pa_nil n3) (by decide) (by decide) n3 n4, fun σ H W A env Q Qd E ht k => ?_⟩
  refine q1 σ H W A env _ _ E ht fun vs H1 W1 env1 rvs E1 S1 R1 h1 => ?_
  split at h1
  · rename_i xs ex
    obtain ⟨v, rfl, a, ws, rfl, s, d⟩ := dqall1 (R1.read E1 ex)
    obtain ⟨ns, rfl, hz, q⟩ := h1
    rw [d.ints] at s
    refine ⟨a, ns, rfl, s, by omega, fun b c hb hcn => ⟨b, _, c, rfl, upd_same, by omega, fun ms l h2 h3 h4 hl => ?_⟩⟩
    have hbl : l ≠ b := fun z => by rw [z, upd_same] at hl; cases hl
    have hl0 : H1 l = none := by rw [upd_ne hbl] at hl; exact hl
    have g : Grow H1 W1 (upd (upd H1 b (SetO X.w b (fun j => decide (j ∈ ns)) c)) l (.lst (ms.map V.int))) (l :: W1) := by
      have g1 : Grow H1 W1 (upd H1 b (SetO X.w b (fun j => decide (j ∈ ns)) c)) W1 := grow_new hb
      have g2 : Grow (upd H1 b (SetO X.w b (fun j => decide (j ∈ ns)) c)) W1 (upd (upd H1 b (SetO X.w b (fun j => decide (j ∈ ns)) c)) l (.lst (ms.map V.int))) (l :: W1) := grow_own hl
      refine ⟨fun z u e => g2.same z u (g1.same z u e), fun z h => List.mem_cons_of_mem _ h, fun z h => ?_⟩
      rcases List.mem_cons.mp h with rfl | h
      · exact .inr ⟨hl0, by rw [upd_same]; simp⟩
      · exact .inl h
    refine fin_up E1 S1 k _ _ (l :: W1) (.n (.l (ms.map PyData.int))) g ⟨l, rfl, hl0, List.mem_cons_self, fun z => E1.trk l z hl0, ms.map V.int, upd_same, dp_ints ms⟩ ?_
    exact q ms h2 fun j => (h3 j).trans (by rw [decide_eq_true_eq])
  · exact h1.elim
/-! ### [e, ..] * n, n a name -/
def tdRepV (t : TDA) (j : Nat) : TD := fun env Q => t env fun rvs env1 => match resAll rvs, env1[j]? with
  | some xs, some (some (.d (.int n))) => xs.length ≤ sizeLine ∧ -(2 ^ 63) ≤ n ∧ n < 2 ^ 63 ∧ xs.length * n.toNat ≤ sizeLine ∧ Q (.n (.l (List.replicate n.toNat xs).flatten)) env1
  | _, _ => False
theorem dpa_flat {K : PySem.W.Frag} {H : Hp} {vs : List V} {xs : List PyData} (d : DpAll K H vs xs) : ∀ n : Nat, DpAll K H (List.replicate n vs).flatten (List.replicate n xs).flatten
  | 0 => .nil
  | n + 1 => by
    rw [List.replicate_succ, List.replicate_succ, List.flatten_cons, List.flatten_cons]
    exact d.app (dpa_flat d n)
theorem pd_repV {X : Cx} {es : List Expr} {t : TDA} {j : Nat} {x : Str} {p1 p2 pos : Pos} (h : PDA X es t) (hv : PE X (.Name x p2) (tVar j)) : PD X (.BinOp (.List es p1) .Mult (.Name x p2) pos) (tdRepV t j) := by
  obtain ⟨t1, q0, q1⟩ := h
  refine ⟨_, pe_op op_rep (pe_lst q0) hv, fun σ H W A env Q Qd E ht k => ?_⟩
  refine q1 σ H W A env _ _ E ht fun vs H1 W1 env1 rvs E1 S1 R1 h1 => ?_
  split at h1
  · rename_i xs n ex en
    obtain ⟨W', s1, s2, d⟩ := R1.keep ex
    have E' := E1.sub s1 fun a ha => s2 a (E1.ain a ha) (E.ain a ha)
    have S' := S1.sub s1 s2
    obtain ⟨_, u, hu, du⟩ := E'.dat j _ en
    refine ⟨by rw [d.len]; exact h1.1, fun p hp => ?_⟩
    refine ⟨u, hu, p, n, vs, rfl, by cases du; rfl, upd_same, h1.2.1, h1.2.2.1, by rw [d.len]; exact h1.2.2.2.1, fun l hl => ?_⟩
    have hpl : l ≠ p := fun z => by rw [z, upd_same] at hl; cases hl
    have hl0 : H1 l = none := by rw [upd_ne hpl] at hl; exact hl
    have g : Grow H1 W' (upd (upd H1 p (.lst vs)) l (.lst (List.replicate n.toNat vs).flatten)) (l :: W') := by
      have g1 : Grow H1 W' (upd H1 p (.lst vs)) W' := grow_new hp
      have g2 : Grow (upd H1 p (.lst vs)) W' (upd (upd H1 p (.lst vs)) l (.lst (List.replicate n.toNat vs).flatten)) (l :: W') := grow_own hl
      refine ⟨fun z u e => g2.same z u (g1.same z u e), fun z h => List.mem_cons_of_mem _ h, fun z h => ?_⟩
      rcases List.mem_cons.mp h with rfl | h
      · exact .inr ⟨hl0, by rw [upd_same]; simp⟩
      · exact .inl h
    refine fin_up E' S' k _ _ (l :: W') (.n (.l (List.replicate n.toNat xs).flatten)) g ⟨l, rfl, hl0, List.mem_cons_self, fun z => E'.trk l z hl0, _, upd_same, ?_⟩ h1.2.2.2.2
    exact dpa_mono ((g.stp (A := [])).same fun _ z => absurd z (by simp)) _ (dpa_flat d n.toNat)
  · exact h1.elim
/-! ### x[a], x[b] = e, a and b names -/
def tdSwap (i a b : Nat) (te : TD) : TDS := fun D env => te env fun rv env1 => match env1[i]?, env1[a]?, env1[b]?, rvD rv with
  | some (some (.l xs)), some (some (.d (.int p))), some (some (.d (.int q))), some (.tuple [x, y]) => match ixN xs.length p, ixN xs.length q with
    | some j, some k => D.nx (env1.set i (some (.l ((xs.set j x).set k y))))
    | _, _ => False
  | _, _, _, _ => False
theorem dpa_two {K : PySem.W.Frag} {H : Hp} {vs : List V} {x y : PyData} (h : DpAll K H vs [x, y]) : ∃ v1 v2, vs = [v1, v2] ∧ Dp K H v1 x ∧ Dp K H v2 y := by
  cases h with
  | cons d r =>
    cases r with
    | cons d2 r2 =>
      cases r2
      exact ⟨_, _, rfl, d, d2⟩
theorem psd_swap {X : Cx} {N : List Nat × List Nat} {o o2 u v e : Expr} {i a b : Nat} {te : TD} {tp1 tp2 tp3 pos : Pos} {kk : Nat} (hcal : X.calm = true) (ho : PE X o (tVar i)) (ho2 : PE X o2 (tVar i)) (hu : PE X u (tVar a)) (hv : PE X v (tVar b)) (he : PD X e te)
    (ha : ∀ z, assign (.Subscript o u tp1) X.env z = (do
      let ov ← holding [z] (eval o X.env)
      let iv ← holding [z, ov] (eval u X.env)
      standAt tp1
      holding [z, ov, iv] (setItem ov iv z)
      release [z, ov, iv] []) := by intro _; rfl)
    (hb : ∀ z, assign (.Subscript o2 v tp2) X.env z = (do
      let ov ← holding [z] (eval o2 X.env)
      let iv ← holding [z, ov] (eval v X.env)
      standAt tp2
      holding [z, ov, iv] (setItem ov iv z)
      release [z, ov, iv] []) := by intro _; rfl)
    (z1 : (assignEach [.Subscript o u tp1, .Subscript o2 v tp2] X.env).map (·.2) = assign (.Subscript o u tp1) X.env :: (assignEach [.Subscript o2 v tp2] X.env).map (·.2) := by rfl)
    (z2 : (assignEach [.Subscript o2 v tp2] X.env).map (·.2) = assign (.Subscript o2 v tp2) X.env :: (assignEach [] X.env).map (·.2) := by rfl)
    (z3 : (assignEach [.Subscript o u tp1, .Subscript o2 v tp2] X.env).length = 2 := by rfl) (z4 : (assignEach [.Subscript o u tp1, .Subscript o2 v tp2] X.env).findIdx? (·.1) = none := by rfl)
    (hs : swapsWithSole [.Tuple [.Subscript o u tp1, .Subscript o2 v tp2] kk tp3] e pos.line X.env = pure false := by rfl) (hw : swappedStores [.Tuple [.Subscript o u tp1, .Subscript o2 v tp2] kk tp3] e X.env = pure none := by rfl)
    (h1 : (assignEach [.Tuple [.Subscript o u tp1, .Subscript o2 v tp2] kk tp3] X.env).map (·.2) = [assign (.Tuple [.Subscript o u tp1, .Subscript o2 v tp2] kk tp3) X.env] := by rfl) :
    PSD X N (.Assign [.Tuple [.Subscript o u tp1, .Subscript o2 v tp2] kk tp3] e pos) (tdSwap i a b te) := by
  obtain ⟨t1, p1, q1⟩ := he
  refine ⟨_, ps_asg p1 (pg_tup hcal (pgs_cons (pg_sub ho hu set_list ha) (pgs_cons (pg_sub ho2 hv set_list hb) pgs_nil z2) z1) z3 z4) hs hw h1, fun B D Dd σ H W A env hB R h O => ?_⟩
  refine q1 σ H W A env _ _ R.en h fun w H1 W1 env1 rv E1 S1 R1 h1 => ?_
  split at h1
  · rename_i xs p q x y hx hp hq ex
    split at h1
    · rename_i j k ej ek
      have R' := R.step S1 E1
      obtain ⟨W', s1, s2, d⟩ := R1.keepD S1 ex
      have R2 := R'.sub s1 (fun c hc => s2 c (E1.ain c hc) (R.en.ain c hc)) (fun z hz => s2 z (R'.up z hz) (R.up z hz)) fun z hz => s2 z.1 (R'.fz z hz).2.2 (R.fz z hz).2.2
      have E' := R2.en
      obtain ⟨c, vs, hc, hwc, hvc, h5, h6⟩ := E'.lst hx
      obtain ⟨_, up1, hup, dup⟩ := E'.dat a _ hp
      obtain ⟨_, uq1, huq, duq⟩ := E'.dat b _ hq
      cases d with
      | tup sT dT =>
            obtain ⟨v1, v2, rfl, dx, dy⟩ := dpa_two dT
            have up2 : up1 = .int p := by cases dup; rfl
            have uq2 : uq1 = .int q := by cases duq; rfl
            refine ⟨_, _, rfl, same_t hw_same sT, rfl, _, _, rfl, ?_⟩
            refine ⟨.ref c, hvc, up1, hup, c, vs, p, j, rfl, up2, h5, by rw [h6.len]; exact ej, ?_⟩
            refine ⟨_, _, rfl, .ref c, hvc, uq1, huq, c, _, q, k, rfl, uq2, upd_same, by rw [List.length_set, h6.len]; exact ek, rfl, ?_⟩
            have E3 : EnR X.K (upd H1 c (.lst ((vs.set j v1).set k v2))) W' A (env1.set i (some (.l ((xs.set j x).set k y)))) σ := E'.write (s := .l ((xs.set j x).set k y)) hc rfl ⟨_, upd_same, by rw [hw_upd hwc]; exact (h6.set dx j).set dy k⟩
            have e2 : upd (upd H1 c (.lst (vs.set j v1))) c (.lst ((vs.set j v1).set k v2)) = upd H1 c (.lst ((vs.set j v1).set k v2)) := by
              funext z
              by_cases c1 : z = c
              · rw [c1, upd_same, upd_same]
              · rw [upd_ne c1, upd_ne c1, upd_ne c1]
            rw [e2]
            exact O.nx σ _ W' A _ (R2.step (stp_write (List.mem_of_getElem? hc)) E3) h1
    · exact h1.elim
  · exact h1.elim
end DL

set_option Elab.async false
set_option linter.all false
set_option maxRecDepth 100000
set_option maxHeartbeats 4000000
set_option autoImplicit false
namespace Dlk24
open PySem PySem.Spec L2 DL Dlk23
abbrev sp_start_sum : FD := Dlk23.sp_start_sum
abbrev sp_leading_to : FD := Dlk23.sp_leading_to
abbrev sp_dead_ends : FD := Dlk23.sp_dead_ends
abbrev sp_law_s_gcd : FD := Dlk23.sp_law_s_gcd
abbrev sp_law_s_lowest : FD := Dlk23.sp_law_s_lowest
abbrev sp_law_s_parts : FD := Dlk23.sp_law_s_parts
abbrev sp_law_b_follow : FD := Dlk23.sp_law_b_follow
abbrev sp_law_b_web : FD := Dlk23.sp_law_b_web
abbrev sp_law_b_changed : FD := Dlk23.sp_law_b_changed
abbrev sp_law_tape : FD := spTape
abbrev sp_law_draw : FD := spDraw
abbrev sp_law_pick : FD := spPick
abbrev sp_law_turns : FD := spTurns
abbrev sp_law_same : FD := spSameD 6
/-- numbers, some of them nothing -/
def Nums (n b : Nat) (xs : List Int) : Prop := xs.length = n ∧ ∀ x ∈ xs, 0 ≤ x ∧ Sm b x
def MulOk (tab : Tab) (M : Nat) : Prop := 0 < M ∧ M ∣ 27720 ∧ ∀ i, i < tab.length → ld tab i ≠ [] → (ld tab i).length ∣ M
def arrI (tab : Tab) (xs : List Int) (M : Int) (j : Nat) : Int := ((leadTo tab j).map fun i => M / ((ld tab i).length : Nat) * nx xs i).sum
def frI (f : Rat) (tab : Tab) (xs : List Int) : Int := ((f.den : Int) - f.num) * xs.sum + f.num * ((dead tab).map (nx xs)).sum
def HoldsP (f : Rat) (tab : Tab) (xs : List Int) (j : Nat) : Prop := (f.den : Int) * sumS tab * 27720 * nx xs j = f.num * sumS tab * arrI tab xs 27720 j + stI tab j * 27720 * frI f tab xs
instance (f : Rat) (tab : Tab) (xs : List Int) (j : Nat) : Decidable (HoldsP f tab xs j) := by unfold HoldsP; exact inferInstance
def scn (p : Nat → Bool) (i : Nat) : Nat → Option Nat
  | 0 => none
  | k + 1 => if p i = true then some i else scn p (i + 1) k
def zeroP (xs : List Int) (j : Nat) : Bool := decide (nx xs j = 0)
def badP (f : Rat) (tab : Tab) (xs : List Int) (j : Nat) : Bool := decide (¬ HoldsP f tab xs j)
def endD (xs : List Int) : PyData := if 1 < G xs then .tuple [.str "common", .int (G xs : Nat)] else .none
def nextD (f : Rat) (tab : Tab) (xs : List Int) (o : Option Nat) : PyData := match o with
  | some j => .tuple [.str "steady", .int (j : Nat)]
  | none => endD xs
def firstD (f : Rat) (tab : Tab) (xs : List Int) (o : Option Nat) : PyData := match o with
  | some j => .tuple [.str "zero", .int (j : Nat)]
  | none => nextD f tab xs (scn (badP f tab xs) 0 tab.length)
def faultD (f : Rat) (tab : Tab) (xs : List Int) : PyData := firstD f tab xs (scn (zeroP xs) 0 tab.length)
abbrev sp_common_divisor : FD := fun args Q => ∃ (xs : List Int), args = [.d (tupI xs)] ∧ xs.length ≤ 12 ∧ ∀ os, Q (.d (.int (G xs : Nat))) os
abbrev sp_common_multiple : FD := fun args Q => ∃ m tab, args = [.d (tbD tab)] ∧ TabOk m tab ∧ ∀ (M : Nat) os, MulOk tab M → Q (.d (.int (M : Nat))) os
abbrev sp_arriving : FD := fun args Q => ∃ m tab xs, ∃ (M j : Nat), args = [.d (tbD tab), .d (tupI xs), .d (.int (M : Nat)), .d (.int (j : Nat))] ∧ TabOk m tab ∧ Nums m 220 xs ∧ MulOk tab M ∧ j < m ∧ ∀ os, Q (.d (.int (arrI tab xs M j))) os
abbrev spHolds : FD := fun args Q => ∃ f m tab xs, ∃ j : Nat, args = [.d (fr f), .d (tbD tab), .d (tupI xs), .d (.int (j : Nat))] ∧ Fol f ∧ TabOk m tab ∧ Nums m 220 xs ∧ j < m ∧ ∀ os, Q (.d (.bool (decide (HoldsP f tab xs j)))) os
abbrev sp_holds : FD := spHolds
abbrev sp_law_s_holds : FD := spHolds
abbrev spFault : FD := fun args Q => ∃ f m tab xs, args = [.d (fr f), .d (tbD tab), .d (tupI xs)] ∧ Fol f ∧ TabOk m tab ∧ Nums m 220 xs ∧ ∀ os, Q (.d (faultD f tab xs)) os
abbrev sp_judge : FD := spFault
abbrev sp_law_s_fault : FD := spFault
abbrev sp_law_few_links : FD := fun args Q => ∃ tp, args = [.l tp] ∧ TapeOk tp ∧ ∀ m tab tp' os, TabOk m tab → TapeOk tp' → os 0 = some (.l tp') → Q (.d (tbD tab)) os
abbrev sp_law_moved : FD := fun args Q => ∃ tp, ∃ (n : Nat) (xs : List Int), args = [.l tp, .d (tupI xs)] ∧ (1 ≤ n ∧ n ≤ 12) ∧ Nums n 210 xs ∧ TapeOk tp ∧ ∀ ys tp' os, Nums n 220 ys → TapeOk tp' → os 0 = some (.l tp') → Q (.d (tupI ys)) os
abbrev sp_law_last_two : FD := fun args Q => ∃ (n : Nat) (xs : List Int), args = [.d (tupI xs)] ∧ (1 ≤ n ∧ n ≤ 12) ∧ Nums n 210 xs ∧ ∀ ys os, Nums n 220 ys → Q (.d (tupI ys)) os
abbrev sp_law_bent : FD := fun args Q => ∃ tp, ∃ (n : Nat) (xs : List Int), args = [.l tp, .d (tupI xs)] ∧ (1 ≤ n ∧ n ≤ 12) ∧ NumOk n xs ∧ TapeOk tp ∧ ∀ (tl : List (List Int)) tp' os, (∀ ys ∈ xs :: tl, Nums n 220 ys) → (2 ≤ tl.length ∧ tl.length ≤ 20) → TapeOk tp' → os 0 = some (.l tp') → Q (.l ((xs :: tl).map tupI)) os
def caseD (f : Rat) (tab : Tab) (xs : List Int) : PyData := .tuple [fr f, tbD tab, tupI xs, faultD f tab xs]
abbrev sp_law_cases : FD := fun args Q => ∃ f m tab, ∃ told : List (List Int), args = [.d (fr f), .d (tbD tab), .d (.list (told.map tupI))] ∧ Fol f ∧ TabOk m tab ∧ told.length ≤ 30 ∧ (∀ xs ∈ told, Nums m 220 xs) ∧ ∀ os, Q (.l (told.map (caseD f tab))) os
abbrev sp_law : FD := fun args Q => ∃ ns : List Int, args = [.d (.list (ns.map .int))] ∧ ∀ os, Q (.d (.bool true)) os
end Dlk24

set_option Elab.async false
set_option linter.all false
set_option maxRecDepth 100000
set_option maxHeartbeats 0
set_option autoImplicit false
namespace Dlk24
open PySem PySem.Spec L2 DL
def t_common_divisor : TDS := (tdSeq (tdSetD 1 (tdC (.int 0)))
  (tdSeq (tdFor (tdIt (tdV 0)) (gdName 2) (tdSetD 1 (tdB rdGcd (tdCons (tdV 1) (tdCons (tdV 2) tdNil)))))
  (tdRet ([], []) (tdV 1))))
def t_start_sum : TDS := (tdRet ([], []) (tdB rdSumA (tdCons (tdLc (tdIt (tdV 0)) (gcTup 2 (gcCons (gcName 1) (gcCons (gcName 2) gcNil))) tdYes (tdV 1) [1, 2]) tdNil)))
def t_leading_to : TDS := (tdRet ([], []) (tdB rdTuple (tdCons (tdLc (tdEnum2 (tdCons (tdV 0) tdNil)) (gcTup 2 (gcCons (gcName 2) (gcCons (gcTup 2 (gcCons (gcName 3) (gcCons (gcName 4) gcNil))) gcNil))) (tdTest (tdBin rdIn (tdV 1) (tdV 4))) (tdV 2) [2, 3, 4]) tdNil)))
def t_dead_ends : TDS := (tdRet ([], []) (tdB rdTuple (tdCons (tdLc (tdEnum2 (tdCons (tdV 0) tdNil)) (gcTup 2 (gcCons (gcName 1) (gcCons (gcTup 2 (gcCons (gcName 2) (gcCons (gcName 3) gcNil))) gcNil))) (tdTest (tdBin rdEq (tdV 3) (tdTup tdNil))) (tdV 1) [1, 2, 3]) tdNil)))
def t_common_multiple : TDS := (tdSeq (tdSetD 1 (tdC (.int 1)))
  (tdSeq (tdFor (tdIt (tdV 0)) (gdTup 2 (gdCons (gdName 2) (gdCons (gdName 3) gdNil))) (tdIfS (tdTest (tdBin rdNe (tdV 3) (tdTup tdNil))) (tdSetD 1 (tdB rdLcm (tdCons (tdV 1) (tdCons (tdB rdLen (tdCons (tdV 3) tdNil)) tdNil)))) tdNext))
  (tdRet ([], []) (tdV 1))))
def t_law_tape : TDS := (tdSeq (tdSetD 1 (tdC (.int 7)))
  (tdSeq (tdFor (tdIt (tdV 0)) (gdName 2) (tdSetD 1 (tdBin rdMod (tdB rdInt (tdCons (tdBin rdAdd (tdBin rdMul (tdV 1) (tdC (.int 31))) (tdB rdAbs (tdCons (tdB rdInt (tdCons (tdV 2) tdNil)) tdNil))) tdNil)) (tdC (.int 2147483647)))))
  (tdRet ([], []) (tdLst (tdCons (tdB rdList (tdCons (tdV 0) tdNil)) (tdCons (tdC (.int 0)) (tdCons (tdC (.int 0)) (tdCons (tdV 1) tdNil))))))))
def t_law_draw : TDS := (tdSeq (tdIfS (tdTest (tdBin rdEq (tdBin rdIx (tdV 0) (tdC (.int 2))) (tdC (.int 0)))) (tdSeq (tdSetD 2 (tdBin rdIx (tdV 0) (tdC (.int 1))))
  (tdSeq (tdSetD 3 (tdC (.int 0)))
  (tdSeq (tdIfS (tdTest (tdBin (rdCmp fun i j => decide (i < j)) (tdV 2) (tdB rdLen (tdCons (tdBin rdIx (tdV 0) (tdC (.int 0))) tdNil)))) (tdSetD 3 (tdB rdAbs (tdCons (tdB rdInt (tdCons (tdBin rdIx (tdBin rdIx (tdV 0) (tdC (.int 0))) (tdV 2)) tdNil)) tdNil))) (tdSeq (tdSetIx 0 (tdC (.int 3)) (tdBin rdMod (tdB rdInt (tdCons (tdBin rdAdd (tdBin rdAdd (tdBin rdMul (tdBin rdIx (tdV 0) (tdC (.int 3))) (tdC (.int 48271))) (tdV 2)) (tdC (.int 1))) tdNil)) (tdC (.int 2147483647))))
  (tdSetD 3 (tdBin rdIx (tdV 0) (tdC (.int 3))))))
  (tdSeq (tdSetIx 0 (tdC (.int 1)) (tdBin rdAdd (tdV 2) (tdC (.int 1))))
  (tdSeq (tdIfS (tdTest (tdBin (rdCmp fun i j => decide (i < j)) (tdV 3) (tdBin rdPow (tdC (.int 10)) (tdC (.int 18))))) (tdSeq (tdSetD 3 (tdBin rdMod (tdB rdInt (tdCons (tdBin rdAdd (tdBin rdAdd (tdBin rdMul (tdV 3) (tdC (.int 48271))) (tdBin rdMul (tdV 2) (tdC (.int 69621)))) (tdC (.int 5))) tdNil)) (tdC (.int 2147483647))))
  (tdSeq (tdSetD 3 (tdBin rdMod (tdB rdInt (tdCons (tdBin rdMul (tdV 3) (tdC (.int 69621))) tdNil)) (tdC (.int 2147483629))))
  (tdRet ([0], []) (tdBin rdMod (tdB rdInt (tdCons (tdV 3) tdNil)) (tdB rdMax2 (tdCons (tdV 1) (tdCons (tdC (.int 1)) tdNil))))))) tdNext)
  (tdSetIx 0 (tdC (.int 2)) (tdV 3))))))) tdNext)
  (tdSeq (tdSetD 3 (tdBin rdIx (tdV 0) (tdC (.int 2))))
  (tdSeq (tdSetIx 0 (tdC (.int 2)) (tdBin rdDiv (tdV 3) (tdB rdMax2 (tdCons (tdV 1) (tdCons (tdC (.int 2)) tdNil)))))
  (tdRet ([0], []) (tdBin rdMod (tdB rdInt (tdCons (tdV 3) tdNil)) (tdB rdMax2 (tdCons (tdV 1) (tdCons (tdC (.int 1)) tdNil))))))))
def t_law_s_gcd : TDS := (tdSeq (tdWhile (tdTest (tdBin rdNe (tdV 1) (tdC (.int 0)))) (tdSeq (tdSetD 2 (tdBin rdMod (tdB rdInt (tdCons (tdV 0) tdNil)) (tdB rdInt (tdCons (tdV 1) tdNil))))
  (tdSeq (tdSetD 0 (tdV 1))
  (tdSetD 1 (tdV 2)))))
  (tdRet ([], []) (tdB rdAbs (tdCons (tdV 0) tdNil))))
def t_law_s_holds : TDS := (tdSeq (tdSetD 4 (tdB rdSumA (tdCons (tdLc (tdIt (tdV 1)) (gcName 5) tdYes (tdBin rdIx (tdV 5) (tdC (.int 0))) [5]) tdNil)))
  (tdSeq (tdSetD 6 (tdB rdSumA (tdCons (tdLc (tdRng1 (tdCons (tdB rdLen (tdCons (tdV 1) tdNil)) tdNil)) (gcName 7) (tdTest (tdBin rdEq (tdB rdLen (tdCons (tdBin rdIx (tdBin rdIx (tdV 1) (tdV 7)) (tdC (.int 1))) tdNil)) (tdC (.int 0)))) (tdBin rdIx (tdV 2) (tdV 7)) [7]) tdNil)))
  (tdSeq (tdSetD 8 (tdB rdSumA (tdCons (tdLc (tdRng1 (tdCons (tdB rdLen (tdCons (tdV 1) tdNil)) tdNil)) (gcName 7) (tdTest (tdBin rdIn (tdV 3) (tdBin rdIx (tdBin rdIx (tdV 1) (tdV 7)) (tdC (.int 1))))) (tdBin rdMulW (tdBin rdIx (tdV 2) (tdV 7)) (tdBin rdDivP (tdC (.int 27720)) (tdB rdLen (tdCons (tdBin rdIx (tdBin rdIx (tdV 1) (tdV 7)) (tdC (.int 1))) tdNil)))) [7]) tdNil)))
  (tdSeq (tdSetD 9 (tdBin rdAdd (tdBin rdMulW (tdBin rdSub (tdBin rdIx (tdV 0) (tdC (.int 1))) (tdBin rdIx (tdV 0) (tdC (.int 0)))) (tdB rdSumA (tdCons (tdV 2) tdNil))) (tdBin rdMulW (tdBin rdIx (tdV 0) (tdC (.int 0))) (tdV 6))))
  (tdRet ([], []) (tdBin rdEq (tdBin rdMulW (tdBin rdMulW (tdBin rdMulW (tdBin rdIx (tdV 0) (tdC (.int 1))) (tdV 4)) (tdC (.int 27720))) (tdBin rdIx (tdV 2) (tdV 3))) (tdBin rdAdd (tdBin rdMulW (tdBin rdMulW (tdBin rdIx (tdV 0) (tdC (.int 0))) (tdV 4)) (tdV 8)) (tdBin rdMulW (tdBin rdMulW (tdBin rdIx (tdBin rdIx (tdV 1) (tdV 3)) (tdC (.int 0))) (tdC (.int 27720))) (tdV 9)))))))))
def t_law_last_two : TDS := (tdRet ([], []) (tdBin rdAdd (tdBin rdAdd (tdSl (tdV 0) tdNoPart (tdPart (tdNeg (tdC (.int 2))))) (tdB rdTuple (tdCons (tdLc (tdIt (tdSl (tdV 0) (tdPart (tdNeg (tdC (.int 2)))) (tdPart (tdNeg (tdC (.int 1)))))) (gcName 1) tdYes (tdBin rdAdd (tdV 1) (tdC (.int 1))) [1]) tdNil))) (tdTup (tdCons (tdB rdMax2 (tdCons (tdC (.int 1)) (tdCons (tdBin rdSub (tdBin rdIx (tdV 0) (tdNeg (tdC (.int 1)))) (tdC (.int 1))) tdNil))) tdNil))))
def t_arriving : TDS := (tdRet ([], []) (tdB rdSumA (tdCons (tdLc (tdIt (tdCall ([], []) 2 sp_leading_to (tdCons (tdV 0) (tdCons (tdV 3) tdNil)))) (gcName 4) tdYes (tdBin rdMulW (tdBin rdDivP (tdV 2) (tdB rdLen (tdCons (tdBin rdIx (tdBin rdIx (tdV 0) (tdV 4)) (tdC (.int 1))) tdNil))) (tdBin rdIx (tdV 1) (tdV 4))) [4]) tdNil)))
def t_law_pick : TDS := (tdRet ([0], []) (tdBin rdIx (tdV 1) (tdCall ([0], []) 2 sp_law_draw (tdCons (tdV 0) (tdCons (tdB rdLen (tdCons (tdV 1) tdNil)) tdNil)))))
def t_law_turns : TDS := (tdSeq (tdSet 2 (tdListRg (tdV 1)))
  (tdSeq (tdSet 3 (tdLst tdNil))
  (tdSeq (tdFor (tdRng1 (tdCons (tdV 1) tdNil)) (gdName 4) (tdDrop (tdM 3 rdAppend (tdCons (tdM 2 rdPopAt (tdCons (tdCall ([0], []) 2 sp_law_draw (tdCons (tdV 0) (tdCons (tdB rdLen (tdCons (tdV 2) tdNil)) tdNil))) tdNil)) tdNil))))
  (tdRet ([0], []) (tdSl (tdV 3) tdNoPart (tdPart (tdBin rdIx (tdLst (tdCons (tdV 1) (tdCons (tdV 1) (tdCons (tdC (.int 1)) tdNil)))) (tdCall ([0], []) 2 sp_law_draw (tdCons (tdV 0) (tdCons (tdC (.int 3)) tdNil))))))))))
def t_law_s_lowest : TDS := (tdSeq (tdSetD 2 (tdCall ([], []) 2 sp_law_s_gcd (tdCons (tdV 0) (tdCons (tdV 1) tdNil))))
  (tdRet ([], []) (tdTup (tdCons (tdBin rdDivP (tdV 0) (tdV 2)) (tdCons (tdBin rdDivP (tdV 1) (tdV 2)) tdNil)))))
def t_law_s_parts : TDS := (tdSeq (tdSetD 2 (tdB rdLen (tdCons (tdV 1) tdNil)))
  (tdSeq (tdSetD 3 (tdLc (tdIt (tdV 1)) (gcName 4) tdYes (tdB rdMax2 (tdCons (tdC (.int 1)) (tdCons (tdB rdLen (tdCons (tdBin rdIx (tdV 4) (tdC (.int 1))) tdNil)) tdNil))) [4]))
  (tdSeq (tdSet 5 (tdLst tdNil))
  (tdSeq (tdFor (tdRng1 (tdCons (tdV 2) tdNil)) (gdName 6) (tdSeq (tdSet 7 (tdLc (tdIt (tdV 1)) (gcName 4) tdYes (tdBin rdMulW (tdNeg (tdBin rdIx (tdV 0) (tdC (.int 0)))) (tdB rdInt (tdCons (tdBin rdIn (tdV 6) (tdBin rdIx (tdV 4) (tdC (.int 1)))) tdNil))) [4]))
  (tdSeq (tdSetIx 7 (tdV 6) (tdBin rdMulW (tdBin rdIx (tdV 0) (tdC (.int 1))) (tdBin rdIx (tdV 3) (tdV 6))))
  (tdDrop (tdM 5 rdAppend (tdCons (tdBin rdAdd (tdV 7) (tdLst (tdCons (tdBin rdIx (tdBin rdIx (tdV 1) (tdV 6)) (tdC (.int 0))) tdNil))) tdNil))))))
  (tdSeq (tdSetD 8 (tdC (.int 1)))
  (tdSeq (tdFor (tdRng1 (tdCons (tdV 2) tdNil)) (gdName 9) (tdSeq (tdSetD 10 (tdBin rdIx (tdV 5) (tdV 9)))
  (tdSeq (tdFor (tdRng1 (tdCons (tdV 2) tdNil)) (gdName 11) (tdSeq (tdSet 7 (tdBin rdIx (tdV 5) (tdV 11)))
  (tdIfS (tdTest (tdBin rdNe (tdV 11) (tdV 9))) (tdSetIx 5 (tdV 11) (tdLc (tdRng1 (tdCons (tdBin rdAdd (tdV 2) (tdC (.int 1))) tdNil)) (gcName 6) tdYes (tdBin rdDivP (tdBin rdSub (tdBin rdMulW (tdBin rdIx (tdV 7) (tdV 6)) (tdBin rdIx (tdV 10) (tdV 9))) (tdBin rdMulW (tdBin rdIx (tdV 7) (tdV 9)) (tdBin rdIx (tdV 10) (tdV 6)))) (tdV 8)) [6])) tdNext)))
  (tdSetD 8 (tdBin rdIx (tdV 10) (tdV 9))))))
  (tdSeq (tdSetD 12 (tdLc (tdRng1 (tdCons (tdV 2) tdNil)) (gcName 6) tdYes (tdBin rdMulW (tdBin rdIx (tdV 3) (tdV 6)) (tdBin rdIx (tdBin rdIx (tdV 5) (tdV 6)) (tdV 2))) [6]))
  (tdSeq (tdSetD 13 (tdC (.int 0)))
  (tdSeq (tdFor (tdIt (tdV 12)) (gdName 14) (tdSetD 13 (tdCall ([], []) 2 sp_law_s_gcd (tdCons (tdV 13) (tdCons (tdV 14) tdNil)))))
  (tdRet ([], []) (tdB rdTuple (tdCons (tdLc (tdIt (tdV 12)) (gcName 14) tdYes (tdBin rdDivP (tdV 14) (tdV 13)) [14]) tdNil))))))))))))
def t_law_s_fault : TDS := (tdSeq (tdFor (tdRng1 (tdCons (tdB rdLen (tdCons (tdV 1) tdNil)) tdNil)) (gdName 3) (tdIfS (tdTest (tdBin rdEq (tdBin rdIx (tdV 2) (tdV 3)) (tdC (.int 0)))) (tdRet ([], []) (tdTup (tdCons (tdC (.str ("zero" : Str))) (tdCons (tdV 3) tdNil)))) tdNext))
  (tdSeq (tdFor (tdRng1 (tdCons (tdB rdLen (tdCons (tdV 1) tdNil)) tdNil)) (gdName 3) (tdIfS (tdNot (tdTest (tdCall ([], []) 4 sp_law_s_holds (tdCons (tdV 0) (tdCons (tdV 1) (tdCons (tdV 2) (tdCons (tdV 3) tdNil))))))) (tdRet ([], []) (tdTup (tdCons (tdC (.str ("steady" : Str))) (tdCons (tdV 3) tdNil)))) tdNext))
  (tdSeq (tdSetD 4 (tdC (.int 0)))
  (tdSeq (tdFor (tdIt (tdV 2)) (gdName 5) (tdSetD 4 (tdCall ([], []) 2 sp_law_s_gcd (tdCons (tdV 4) (tdCons (tdV 5) tdNil)))))
  (tdSeq (tdIfS (tdTest (tdBin (rdCmp fun i j => decide (j < i)) (tdV 4) (tdC (.int 1)))) (tdRet ([], []) (tdTup (tdCons (tdC (.str ("common" : Str))) (tdCons (tdV 4) tdNil)))) tdNext)
  (tdRet ([], []) (tdC .none)))))))
def t_law_b_changed : TDS := (tdSeq (tdSetD 2 (tdCall ([0], []) 2 sp_law_draw (tdCons (tdV 0) (tdCons (tdB rdLen (tdCons (tdV 1) tdNil)) tdNil))))
  (tdSeq (tdSetD 3 (tdCall ([0], []) 2 sp_law_draw (tdCons (tdV 0) (tdCons (tdB rdLen (tdCons (tdV 1) tdNil)) tdNil))))
  (tdSeq (tdAsg (tdBin rdIx (tdV 1) (tdV 2)) (gdTup 2 (gdCons (gdName 4) (gdCons (gdName 5) gdNil))))
  (tdSeq (tdIfS (tdOr (tdTest (tdBin rdEq (tdV 3) (tdV 2))) (tdTest (tdBin rdEq (tdCall ([0], []) 2 sp_law_draw (tdCons (tdV 0) (tdCons (tdC (.int 4)) tdNil))) (tdC (.int 0))))) (tdSetD 4 (tdBin rdAdd (tdC (.int 1)) (tdBin rdMod (tdB rdInt (tdCons (tdBin rdAdd (tdV 4) (tdCall ([0], []) 2 sp_law_draw (tdCons (tdV 0) (tdCons (tdC (.int 8)) tdNil)))) tdNil)) (tdC (.int 9))))) (tdIfS (tdTest (tdBin rdIn (tdV 3) (tdV 5))) (tdSetD 5 (tdB rdTuple (tdCons (tdLc (tdIt (tdV 5)) (gcName 6) (tdTest (tdBin rdNe (tdV 6) (tdV 3))) (tdV 6) [6]) tdNil))) (tdSetD 5 (tdB rdTuple (tdCons (tdB rdSorted (tdCons (tdBin rdAdd (tdB rdList (tdCons (tdV 5) tdNil)) (tdLst (tdCons (tdV 3) tdNil))) tdNil)) tdNil)))))
  (tdRet ([0], []) (tdBin rdAdd (tdBin rdAdd (tdSl (tdV 1) tdNoPart (tdPart (tdV 2))) (tdTup (tdCons (tdTup (tdCons (tdV 4) (tdCons (tdV 5) tdNil))) tdNil))) (tdSl (tdV 1) (tdPart (tdBin rdAdd (tdV 2) (tdC (.int 1)))) tdNoPart)))))))
def t_law_few_links : TDS := (tdSeq (tdSetD 1 (tdBin rdAdd (tdC (.int 9)) (tdCall ([0], []) 2 sp_law_draw (tdCons (tdV 0) (tdCons (tdC (.int 4)) tdNil)))))
  (tdSeq (tdSet 2 (tdLst tdNil))
  (tdSeq (tdFor (tdRng1 (tdCons (tdV 1) tdNil)) (gdName 3) (tdSeq (tdSetD 4 (tdSortSet (tdCons (tdLc (tdRng1 (tdCons (tdCall ([0], []) 2 sp_law_draw (tdCons (tdV 0) (tdCons (tdC (.int 4)) tdNil))) tdNil)) (gcName 5) tdYes (tdCall ([0], []) 2 sp_law_draw (tdCons (tdV 0) (tdCons (tdV 1) tdNil))) [5]) tdNil)))
  (tdDrop (tdM 2 rdAppend (tdCons (tdTup (tdCons (tdBin rdAdd (tdC (.int 1)) (tdCall ([0], []) 2 sp_law_draw (tdCons (tdV 0) (tdCons (tdC (.int 3)) tdNil)))) (tdCons (tdB rdTuple (tdCons (tdLc (tdIt (tdV 4)) (gcName 6) (tdTest (tdBin rdNe (tdV 6) (tdV 3))) (tdV 6) [6]) tdNil)) tdNil))) tdNil)))))
  (tdRet ([0], []) (tdB rdTuple (tdCons (tdV 2) tdNil))))))
def t_law_moved : TDS := (tdSeq (tdSet 2 (tdB rdList (tdCons (tdV 1) tdNil)))
  (tdSeq (tdSetD 3 (tdCall ([0], []) 2 sp_law_draw (tdCons (tdV 0) (tdCons (tdB rdLen (tdCons (tdV 2) tdNil)) tdNil))))
  (tdSeq (tdSetIx 2 (tdV 3) (tdBin rdAdd (tdBin rdIx (tdV 2) (tdV 3)) (tdC (.int 1))))
  (tdSeq (tdSetD 3 (tdCall ([0], []) 2 sp_law_draw (tdCons (tdV 0) (tdCons (tdB rdLen (tdCons (tdV 2) tdNil)) tdNil))))
  (tdSeq (tdIfS (tdTest (tdBin (rdCmp fun i j => decide (j < i)) (tdBin rdIx (tdV 2) (tdV 3)) (tdC (.int 0)))) (tdSetIx 2 (tdV 3) (tdBin rdSub (tdBin rdIx (tdV 2) (tdV 3)) (tdC (.int 1)))) tdNext)
  (tdRet ([0], []) (tdB rdTuple (tdCons (tdV 2) tdNil))))))))
def t_holds : TDS := (tdSeq (tdAsg (tdV 0) (gdTup 2 (gdCons (gdName 4) (gdCons (gdName 5) gdNil))))
  (tdSeq (tdPar 6 7 (tdCons (tdCall ([], []) 1 sp_start_sum (tdCons (tdV 1) tdNil)) (tdCons (tdCall ([], []) 1 sp_common_multiple (tdCons (tdV 1) tdNil)) tdNil)))
  (tdSeq (tdSetD 8 (tdB rdSumA (tdCons (tdLc (tdIt (tdCall ([], []) 1 sp_dead_ends (tdCons (tdV 1) tdNil))) (gcName 9) tdYes (tdBin rdIx (tdV 2) (tdV 9)) [9]) tdNil)))
  (tdSeq (tdSetD 10 (tdBin rdMulW (tdBin rdMulW (tdBin rdIx (tdBin rdIx (tdV 1) (tdV 3)) (tdC (.int 0))) (tdV 7)) (tdBin rdAdd (tdBin rdMulW (tdBin rdSub (tdV 5) (tdV 4)) (tdB rdSumA (tdCons (tdV 2) tdNil))) (tdBin rdMulW (tdV 4) (tdV 8)))))
  (tdSeq (tdSetD 11 (tdBin rdMulW (tdBin rdMulW (tdV 4) (tdV 6)) (tdCall ([], []) 4 sp_arriving (tdCons (tdV 1) (tdCons (tdV 2) (tdCons (tdV 7) (tdCons (tdV 3) tdNil)))))))
  (tdRet ([], []) (tdBin rdEq (tdBin rdMulW (tdBin rdMulW (tdBin rdMulW (tdV 5) (tdV 6)) (tdV 7)) (tdBin rdIx (tdV 2) (tdV 3))) (tdBin rdAdd (tdV 11) (tdV 10)))))))))
def t_law_b_follow : TDS := (tdSeq (tdSetD 1 (tdCall ([0], []) 2 sp_law_pick (tdCons (tdV 0) (tdCons (tdLst (tdCons (tdC (.int 2)) (tdCons (tdC (.int 2)) (tdCons (tdC (.int 3)) (tdCons (tdC (.int 4)) (tdCons (tdC (.int 20)) (tdCons (tdBin rdAdd (tdC (.int 2)) (tdCall ([0], []) 2 sp_law_draw (tdCons (tdV 0) (tdCons (tdC (.int 19)) tdNil)))) tdNil))))))) tdNil))))
  (tdRet ([0], []) (tdCall ([], []) 2 sp_law_s_lowest (tdCons (tdBin rdAdd (tdC (.int 1)) (tdCall ([0], []) 2 sp_law_draw (tdCons (tdV 0) (tdCons (tdBin rdSub (tdV 1) (tdC (.int 1))) tdNil)))) (tdCons (tdV 1) tdNil)))))
def t_law_b_web : TDS := (tdSeq (tdSetD 2 (tdCall ([0], []) 2 sp_law_draw (tdCons (tdV 0) (tdCons (tdC (.int 9)) tdNil))))
  (tdSeq (tdSetD 3 (tdCall ([0], []) 2 sp_law_pick (tdCons (tdV 0) (tdCons (tdLst (tdCons (tdC (.int 1)) (tdCons (tdC (.int 1)) (tdCons (tdC (.int 3)) (tdCons (tdC (.int 9)) tdNil))))) tdNil))))
  (tdSeq (tdSetD 4 (tdCall ([0], []) 2 sp_law_draw (tdCons (tdV 0) (tdCons (tdV 1) tdNil))))
  (tdSeq (tdSet 5 (tdLst tdNil))
  (tdSeq (tdFor (tdRng1 (tdCons (tdV 1) tdNil)) (gdName 6) (tdSeq (tdSetD 7 (tdLc (tdRng1 (tdCons (tdV 1) tdNil)) (gcName 8) (tdTest (tdBin rdNe (tdV 8) (tdV 6))) (tdV 8) [8]))
  (tdSeq (tdSetD 9 (tdLc (tdIt (tdV 7)) (gcName 8) (tdTest (tdBin rdEq (tdCall ([0], []) 2 sp_law_draw (tdCons (tdV 0) (tdCons (tdC (.int 3)) tdNil))) (tdC (.int 0)))) (tdV 8) [8]))
  (tdSeq (tdIfS (tdTest (tdBin rdEq (tdV 2) (tdC (.int 0)))) (tdSetD 9 (tdLc (tdIt (tdV 7)) (gcName 8) (tdTest (tdBin rdEq (tdV 8) (tdBin rdMod (tdB rdInt (tdCons (tdBin rdAdd (tdV 6) (tdC (.int 1))) tdNil)) (tdV 1)))) (tdV 8) [8])) (tdIfS (tdAnd (tdTest (tdBin rdEq (tdV 2) (tdC (.int 1)))) (tdTest (tdBin rdNe (tdV 6) (tdV 4)))) (tdSetD 9 (tdLst (tdCons (tdV 4) tdNil))) (tdIfS (tdTest (tdBin rdEq (tdV 2) (tdC (.int 2)))) (tdSetD 9 (tdV 7)) (tdIfS (tdTest (tdBin rdEq (tdV 2) (tdC (.int 3)))) (tdSetD 9 (tdLc (tdIt (tdV 7)) (gcName 8) (tdTest (tdBin rdEq (tdBin rdDivP (tdV 8) (tdC (.int 2))) (tdBin rdDivP (tdV 6) (tdC (.int 2))))) (tdV 8) [8])) (tdIfS (tdTest (tdBin rdEq (tdV 2) (tdC (.int 4)))) (tdSetD 9 (tdLc (tdIt (tdV 9)) (gcName 8) (tdTest (tdBin rdNe (tdV 8) (tdV 4))) (tdV 8) [8])) tdNext)))))
  (tdSeq (tdIfS (tdAnd (tdTest (tdBin rdIn (tdV 2) (tdLst (tdCons (tdC (.int 4)) (tdCons (tdC (.int 5)) (tdCons (tdC (.int 6)) tdNil)))))) (tdTest (tdBin rdEq (tdB rdLen (tdCons (tdV 9) tdNil)) (tdC (.int 0))))) (tdSetD 9 (tdSl (tdLc (tdIt (tdV 7)) (gcName 8) (tdOr (tdTest (tdBin rdNe (tdV 8) (tdV 4))) (tdTest (tdBin (rdCmp fun i j => decide (j < i)) (tdV 2) (tdC (.int 4))))) (tdV 8) [8]) tdNoPart (tdPart (tdC (.int 1))))) tdNext)
  (tdDrop (tdM 5 rdAppend (tdCons (tdTup (tdCons (tdBin rdAdd (tdC (.int 1)) (tdCall ([0], []) 2 sp_law_draw (tdCons (tdV 0) (tdCons (tdV 3) tdNil)))) (tdCons (tdB rdTuple (tdCons (tdV 9) tdNil)) tdNil))) tdNil))))))))
  (tdRet ([0], []) (tdB rdTuple (tdCons (tdV 5) tdNil))))))))
def t_law_bent : TDS := (tdSeq (tdSetD 2 (tdB rdLen (tdCons (tdV 1) tdNil)))
  (tdSeq (tdSetD 3 (tdCall ([0], []) 2 sp_law_pick (tdCons (tdV 0) (tdCons (tdLst (tdCons (tdC (.int 2)) (tdCons (tdC (.int 3)) (tdCons (tdC (.int 7)) (tdCons (tdC (.int 10)) tdNil))))) tdNil))))
  (tdSeq (tdSetD 4 (tdB rdTuple (tdCons (tdLc (tdIt (tdV 1)) (gcName 5) tdYes (tdBin rdMulW (tdV 5) (tdV 3)) [5]) tdNil)))
  (tdSeq (tdSet 6 (tdLst (tdCons (tdV 1) (tdCons (tdV 4) (tdCons (tdCall ([0], []) 2 sp_law_moved (tdCons (tdV 0) (tdCons (tdV 1) tdNil))) (tdCons (tdCall ([], []) 1 sp_law_last_two (tdCons (tdV 1) tdNil)) (tdCons (tdCall ([], []) 1 sp_law_last_two (tdCons (tdV 4) tdNil)) (tdCons (tdCall ([0], []) 2 sp_law_moved (tdCons (tdV 0) (tdCons (tdV 4) tdNil))) tdNil))))))))
  (tdSeq (tdFor (tdIt (tdLst (tdCons (tdC (.int 1)) (tdCons (tdNeg (tdC (.int 1))) tdNil)))) (gdName 7) (tdSeq (tdSetD 8 (tdCall ([0], []) 2 sp_law_draw (tdCons (tdV 0) (tdCons (tdV 2) tdNil))))
  (tdDrop (tdM 6 rdAppend (tdCons (tdBin rdAdd (tdBin rdAdd (tdSl (tdV 1) tdNoPart (tdPart (tdV 8))) (tdTup (tdCons (tdBin rdAdd (tdBin rdIx (tdV 1) (tdV 8)) (tdV 7)) tdNil))) (tdSl (tdV 1) (tdPart (tdBin rdAdd (tdV 8) (tdC (.int 1)))) tdNoPart)) tdNil)))))
  (tdSeq (tdSet 9 (tdB rdList (tdCons (tdV 1) tdNil)))
  (tdSeq (tdSetD 10 (tdCall ([0], []) 2 sp_law_draw (tdCons (tdV 0) (tdCons (tdV 2) tdNil))))
  (tdSeq (tdSetD 11 (tdCall ([0], []) 2 sp_law_draw (tdCons (tdV 0) (tdCons (tdV 2) tdNil))))
  (tdSeq (tdSwap 9 10 11 (tdTup (tdCons (tdBin rdIx (tdV 1) (tdV 11)) (tdCons (tdBin rdIx (tdV 1) (tdV 10)) tdNil))))
  (tdSeq (tdSet 6 (tdBin rdAdd (tdV 6) (tdLst (tdCons (tdB rdTuple (tdCons (tdV 9) tdNil)) (tdCons (tdBin rdAdd (tdBin rdAdd (tdSl (tdV 1) tdNoPart (tdPart (tdV 11))) (tdTup (tdCons (tdC (.int 0)) tdNil))) (tdSl (tdV 1) (tdPart (tdBin rdAdd (tdV 11) (tdC (.int 1)))) tdNoPart)) tdNil)))))
  (tdSeq (tdDrop (tdM 6 rdAppend (tdCons (tdB rdTuple (tdCons (tdLc (tdIt (tdV 4)) (gcName 5) tdYes (tdBin rdMulW (tdV 5) (tdB rdInt (tdCons (tdBin (rdCmp fun i j => decide (j < i)) (tdCall ([0], []) 2 sp_law_draw (tdCons (tdV 0) (tdCons (tdC (.int 3)) tdNil))) (tdC (.int 0))) tdNil))) [5]) tdNil)) tdNil)))
  (tdRet ([0], []) (tdBin rdAdd (tdV 6) (tdLst (tdCons (tdB rdTuple (tdCons (tdRepV (tdCons (tdC (.int 0)) tdNil) 2) tdNil)) (tdCons (tdB rdTuple (tdCons (tdRepV (tdCons (tdC (.int 1)) tdNil) 2) tdNil)) tdNil))))))))))))))))
def t_law_cases : TDS := (tdRet ([], []) (tdLc (tdIt (tdV 2)) (gcName 3) tdYes (tdTup (tdCons (tdV 0) (tdCons (tdV 1) (tdCons (tdV 3) (tdCons (tdCall ([], []) 3 sp_law_s_fault (tdCons (tdV 0) (tdCons (tdV 1) (tdCons (tdV 3) tdNil)))) tdNil))))) [3]))
def t_judge : TDS := (tdSeq (tdFor (tdEnum2 (tdCons (tdV 2) tdNil)) (gdTup 2 (gdCons (gdName 3) (gdCons (gdName 4) gdNil))) (tdIfS (tdTest (tdBin rdEq (tdV 4) (tdC (.int 0)))) (tdRet ([], []) (tdTup (tdCons (tdC (.str ("zero" : Str))) (tdCons (tdV 3) tdNil)))) tdNext))
  (tdSeq (tdFor (tdRng1 (tdCons (tdB rdLen (tdCons (tdV 1) tdNil)) tdNil)) (gdName 3) (tdIfS (tdNot (tdTest (tdCall ([], []) 4 sp_holds (tdCons (tdV 0) (tdCons (tdV 1) (tdCons (tdV 2) (tdCons (tdV 3) tdNil))))))) (tdRet ([], []) (tdTup (tdCons (tdC (.str ("steady" : Str))) (tdCons (tdV 3) tdNil)))) tdNext))
  (tdSeq (tdSetD 5 (tdCall ([], []) 1 sp_common_divisor (tdCons (tdV 2) tdNil)))
  (tdSeq (tdIfS (tdTest (tdBin (rdCmp fun i j => decide (j < i)) (tdV 5) (tdC (.int 1)))) (tdRet ([], []) (tdTup (tdCons (tdC (.str ("common" : Str))) (tdCons (tdV 5) tdNil)))) tdNext)
  (tdRet ([], []) (tdC .none))))))
def t_law_same (sp_law_same : FD) : TDS := (tdSeq (tdIfS (tdTest (tdIsi "tuple" (tdV 1))) (tdSeq (tdIfS (tdOr (tdNot (tdTest (tdIsi "tuple" (tdV 0)))) (tdTest (tdBin rdNe (tdB rdLen (tdCons (tdV 0) tdNil)) (tdB rdLen (tdCons (tdV 1) tdNil))))) (tdRet ([], []) (tdC (.bool false))) tdNext)
  (tdSeq (tdFor (tdRng1 (tdCons (tdB rdLen (tdCons (tdV 1) tdNil)) tdNil)) (gdName 2) (tdIfS (tdNot (tdTest (tdCall ([], []) 2 sp_law_same (tdCons (tdBin rdIx (tdV 0) (tdV 2)) (tdCons (tdBin rdIx (tdV 1) (tdV 2)) tdNil))))) (tdRet ([], []) (tdC (.bool false))) tdNext))
  (tdRet ([], []) (tdC (.bool true))))) tdNext)
  (tdSeq (tdIfS (tdOr (tdTest (tdIsN (tdV 1))) (tdTest (tdIsN (tdV 0)))) (tdRet ([], []) (tdAndV (tdIsN (tdV 1)) (tdIsN (tdV 0)))) tdNext)
  (tdSeq (tdIfS (tdTest (tdIsi "str" (tdV 1))) (tdRet ([], []) (tdAndV (tdIsi "str" (tdV 0)) (tdBin rdEq (tdV 0) (tdV 1)))) tdNext)
  (tdSeq (tdIfS (tdOr (tdTest (tdBin rdNe (tdIsi "bool" (tdV 0)) (tdIsi "bool" (tdV 1)))) (tdNot (tdTest (tdIsi "int" (tdV 0))))) (tdRet ([], []) (tdC (.bool false))) tdNext)
  (tdRet ([], []) (tdBin rdEq (tdV 0) (tdV 1)))))))
def t_law : TDS := (tdSeq (tdSet 1 (tdCall ([], []) 1 sp_law_tape (tdCons (tdV 0) tdNil)))
  (tdSeq (tdSetD 2 (tdCall ([0], []) 1 sp_law_b_follow (tdCons (tdV 1) tdNil)))
  (tdSeq (tdSetD 3 (tdCall ([0], []) 1 sp_law_b_follow (tdCons (tdV 1) tdNil)))
  (tdSeq (tdSetD 4 (tdCall ([0], []) 2 sp_law_b_web (tdCons (tdV 1) (tdCons (tdCall ([0], []) 2 sp_law_pick (tdCons (tdV 1) (tdCons (tdLst (tdCons (tdC (.int 1)) (tdCons (tdC (.int 2)) (tdCons (tdC (.int 3)) (tdCons (tdC (.int 4)) (tdCons (tdC (.int 5)) (tdCons (tdC (.int 6)) (tdCons (tdC (.int 7)) (tdCons (tdC (.int 8)) tdNil))))))))) tdNil))) tdNil))))
  (tdSeq (tdIfS (tdTest (tdBin rdEq (tdCall ([0], []) 2 sp_law_draw (tdCons (tdV 1) (tdCons (tdC (.int 8)) tdNil))) (tdC (.int 0)))) (tdSeq (tdSetD 4 (tdCall ([0], []) 1 sp_law_few_links (tdCons (tdV 1) tdNil)))
  (tdSeq (tdSetD 2 (tdCall ([0], []) 2 sp_law_pick (tdCons (tdV 1) (tdCons (tdLst (tdCons (tdTup (tdCons (tdC (.int 1)) (tdCons (tdC (.int 2)) tdNil))) (tdCons (tdTup (tdCons (tdC (.int 2)) (tdCons (tdC (.int 3)) tdNil))) (tdCons (tdTup (tdCons (tdC (.int 3)) (tdCons (tdC (.int 4)) tdNil))) tdNil)))) tdNil))))
  (tdSetD 3 (tdTup (tdCons (tdC (.int 1)) (tdCons (tdC (.int 3)) tdNil)))))) tdNext)
  (tdSeq (tdIfS (tdAnd (tdTest (tdBin (rdCmp fun i j => decide (j < i)) (tdB rdLen (tdCons (tdV 4) tdNil)) (tdC (.int 2)))) (tdTest (tdBin rdEq (tdCall ([0], []) 2 sp_law_draw (tdCons (tdV 1) (tdCons (tdC (.int 3)) tdNil))) (tdC (.int 0))))) (tdSetD 4 (tdBin rdAdd (tdSl (tdV 4) tdNoPart (tdPart (tdNeg (tdC (.int 2))))) (tdB rdTuple (tdCons (tdLc (tdIt (tdSl (tdV 4) (tdPart (tdNeg (tdC (.int 2)))) tdNoPart)) (gcName 5) tdYes (tdTup (tdCons (tdBin rdIx (tdV 5) (tdC (.int 0))) (tdCons (tdTup tdNil) tdNil))) [5]) tdNil)))) tdNext)
  (tdSeq (tdSetD 6 (tdCall ([0], []) 2 sp_law_b_changed (tdCons (tdV 1) (tdCons (tdV 4) tdNil))))
  (tdSeq (tdSetD 7 (tdCall ([], []) 2 sp_law_s_parts (tdCons (tdV 2) (tdCons (tdV 4) tdNil))))
  (tdSeq (tdSetD 8 (tdCall ([], []) 3 sp_law_cases (tdCons (tdV 2) (tdCons (tdV 4) (tdCons (tdBin rdAdd (tdCall ([0], []) 2 sp_law_bent (tdCons (tdV 1) (tdCons (tdV 7) tdNil))) (tdLst (tdCons (tdCall ([], []) 2 sp_law_s_parts (tdCons (tdV 2) (tdCons (tdV 6) tdNil))) (tdCons (tdCall ([], []) 2 sp_law_s_parts (tdCons (tdV 3) (tdCons (tdV 4) tdNil))) tdNil)))) tdNil)))))
  (tdSeq (tdSetD 9 (tdBin rdAdd (tdCall ([], []) 3 sp_law_cases (tdCons (tdV 2) (tdCons (tdV 6) (tdCons (tdLst (tdCons (tdV 7) (tdCons (tdBin rdIx (tdBin rdIx (tdV 8) (tdC (.int 2))) (tdC (.int 2))) (tdCons (tdBin rdIx (tdBin rdIx (tdV 8) (tdNeg (tdC (.int 2)))) (tdC (.int 2))) tdNil)))) tdNil)))) (tdCall ([], []) 3 sp_law_cases (tdCons (tdV 3) (tdCons (tdV 4) (tdCons (tdLst (tdCons (tdV 7) (tdCons (tdBin rdIx (tdBin rdIx (tdV 8) (tdNeg (tdC (.int 1)))) (tdC (.int 2))) tdNil))) tdNil))))))
  (tdSeq (tdFor (tdIt (tdCall ([0], []) 2 sp_law_turns (tdCons (tdV 1) (tdCons (tdB rdLen (tdCons (tdV 8) tdNil)) tdNil)))) (gdName 10) (tdIfS (tdNot (tdTest (tdCall ([], []) 2 sp_law_same (tdCons (tdCall ([], []) 3 sp_judge (tdCons (tdBin rdIx (tdBin rdIx (tdV 8) (tdV 10)) (tdC (.int 0))) (tdCons (tdBin rdIx (tdBin rdIx (tdV 8) (tdV 10)) (tdC (.int 1))) (tdCons (tdBin rdIx (tdBin rdIx (tdV 8) (tdV 10)) (tdC (.int 2))) tdNil)))) (tdCons (tdBin rdIx (tdBin rdIx (tdV 8) (tdV 10)) (tdC (.int 3))) tdNil))))) (tdRet ([], []) (tdC (.bool false))) tdNext))
  (tdSeq (tdFor (tdIt (tdBin rdAdd (tdV 9) (tdV 8))) (gdName 11) (tdIfS (tdNot (tdTest (tdCall ([], []) 2 sp_law_same (tdCons (tdCall ([], []) 3 sp_judge (tdCons (tdBin rdIx (tdV 11) (tdC (.int 0))) (tdCons (tdBin rdIx (tdV 11) (tdC (.int 1))) (tdCons (tdBin rdIx (tdV 11) (tdC (.int 2))) tdNil)))) (tdCons (tdBin rdIx (tdV 11) (tdC (.int 3))) tdNil))))) (tdRet ([], []) (tdC (.bool false))) tdNext))
  (tdRet ([], []) (tdIsN (tdBin rdIx (tdBin rdIx (tdV 8) (tdC (.int 0))) (tdC (.int 3)))))))))))))))))
end Dlk24

set_option Elab.async false
set_option linter.all false
set_option maxRecDepth 100000
set_option maxHeartbeats 0
set_option autoImplicit false
namespace Dlk24
open PySem PySem.Spec L2 DL
def topS (i : Nat) : Stmt := PySem.Challenge.pw_gatherhouse_k24_the_judge_takes_the_part.main.body.getD i (.Pass ⟨0, 0, 0, 0⟩)
abbrev s_common_divisor : Stmt := topS 2
abbrev n_common_divisor : List Str := ["numbers", "divisor", "number"]
abbrev p_common_divisor : List Str := ["numbers"]
theorem sc_common_divisor : FnScope n_common_divisor p_common_divisor (defScope s_common_divisor) := ⟨rfl, rfl, rfl, by decide +kernel, rfl, by decide +kernel, by decide +kernel⟩
abbrev s_start_sum : Stmt := topS 4
abbrev n_start_sum : List Str := ["table", "start", "leads"]
abbrev p_start_sum : List Str := ["table"]
theorem sc_start_sum : FnScope n_start_sum p_start_sum (defScope s_start_sum) := ⟨rfl, rfl, rfl, by decide +kernel, rfl, by decide +kernel, by decide +kernel⟩
abbrev s_leading_to : Stmt := topS 5
abbrev n_leading_to : List Str := ["table", "place", "other", "start", "leads"]
abbrev p_leading_to : List Str := ["table", "place"]
theorem sc_leading_to : FnScope n_leading_to p_leading_to (defScope s_leading_to) := ⟨rfl, rfl, rfl, by decide +kernel, rfl, by decide +kernel, by decide +kernel⟩
abbrev s_dead_ends : Stmt := topS 6
abbrev n_dead_ends : List Str := ["table", "place", "start", "leads"]
abbrev p_dead_ends : List Str := ["table"]
theorem sc_dead_ends : FnScope n_dead_ends p_dead_ends (defScope s_dead_ends) := ⟨rfl, rfl, rfl, by decide +kernel, rfl, by decide +kernel, by decide +kernel⟩
abbrev s_common_multiple : Stmt := topS 8
abbrev n_common_multiple : List Str := ["table", "multiple", "start", "leads"]
abbrev p_common_multiple : List Str := ["table"]
theorem sc_common_multiple : FnScope n_common_multiple p_common_multiple (defScope s_common_multiple) := ⟨rfl, rfl, rfl, by decide +kernel, rfl, by decide +kernel, by decide +kernel⟩
abbrev s_law_tape : Stmt := topS 13
abbrev n_law_tape : List Str := ["script", "mixed", "cell"]
abbrev p_law_tape : List Str := ["script"]
theorem sc_law_tape : FnScope n_law_tape p_law_tape (defScope s_law_tape) := ⟨rfl, rfl, rfl, by decide +kernel, rfl, by decide +kernel, by decide +kernel⟩
abbrev s_law_draw : Stmt := topS 14
abbrev n_law_draw : List Str := ["tape", "many", "place", "number"]
abbrev p_law_draw : List Str := ["tape", "many"]
theorem sc_law_draw : FnScope n_law_draw p_law_draw (defScope s_law_draw) := ⟨rfl, rfl, rfl, by decide +kernel, rfl, by decide +kernel, by decide +kernel⟩
abbrev s_law_s_gcd : Stmt := topS 18
abbrev n_law_s_gcd : List Str := ["one", "other", "rest"]
abbrev p_law_s_gcd : List Str := ["one", "other"]
theorem sc_law_s_gcd : FnScope n_law_s_gcd p_law_s_gcd (defScope s_law_s_gcd) := ⟨rfl, rfl, rfl, by decide +kernel, rfl, by decide +kernel, by decide +kernel⟩
abbrev s_law_s_holds : Stmt := topS 21
abbrev n_law_s_holds : List Str := ["follow", "table", "numbers", "j", "starts", "line", "ends", "i", "brought", "fresh"]
abbrev p_law_s_holds : List Str := ["follow", "table", "numbers", "j"]
theorem sc_law_s_holds : FnScope n_law_s_holds p_law_s_holds (defScope s_law_s_holds) := ⟨rfl, rfl, rfl, by decide +kernel, rfl, by decide +kernel, by decide +kernel⟩
abbrev s_law_last_two : Stmt := topS 28
abbrev n_law_last_two : List Str := ["numbers", "number"]
abbrev p_law_last_two : List Str := ["numbers"]
theorem sc_law_last_two : FnScope n_law_last_two p_law_last_two (defScope s_law_last_two) := ⟨rfl, rfl, rfl, by decide +kernel, rfl, by decide +kernel, by decide +kernel⟩
abbrev s_arriving : Stmt := topS 9
abbrev n_arriving : List Str := ["table", "numbers", "multiple", "place", "other"]
abbrev p_arriving : List Str := ["table", "numbers", "multiple", "place"]
theorem sc_arriving : FnScope n_arriving p_arriving (defScope s_arriving) := ⟨rfl, rfl, rfl, by decide +kernel, rfl, by decide +kernel, by decide +kernel⟩
abbrev s_law_pick : Stmt := topS 15
abbrev n_law_pick : List Str := ["tape", "menu"]
abbrev p_law_pick : List Str := ["tape", "menu"]
theorem sc_law_pick : FnScope n_law_pick p_law_pick (defScope s_law_pick) := ⟨rfl, rfl, rfl, by decide +kernel, rfl, by decide +kernel, by decide +kernel⟩
abbrev s_law_turns : Stmt := topS 16
abbrev n_law_turns : List Str := ["tape", "many", "held", "turns", "k"]
abbrev p_law_turns : List Str := ["tape", "many"]
theorem sc_law_turns : FnScope n_law_turns p_law_turns (defScope s_law_turns) := ⟨rfl, rfl, rfl, by decide +kernel, rfl, by decide +kernel, by decide +kernel⟩
abbrev s_law_s_lowest : Stmt := topS 19
abbrev n_law_s_lowest : List Str := ["n", "d", "part"]
abbrev p_law_s_lowest : List Str := ["n", "d"]
theorem sc_law_s_lowest : FnScope n_law_s_lowest p_law_s_lowest (defScope s_law_s_lowest) := ⟨rfl, rfl, rfl, by decide +kernel, rfl, by decide +kernel, by decide +kernel⟩
abbrev s_law_s_parts : Stmt := topS 20
abbrev n_law_s_parts : List Str := ["follow", "table", "many", "outs", "line", "square", "j", "row", "last", "k", "lead", "i", "numbers", "part", "number"]
abbrev p_law_s_parts : List Str := ["follow", "table"]
theorem sc_law_s_parts : FnScope n_law_s_parts p_law_s_parts (defScope s_law_s_parts) := ⟨rfl, rfl, rfl, by decide +kernel, rfl, by decide +kernel, by decide +kernel⟩
abbrev s_law_s_fault : Stmt := topS 22
abbrev n_law_s_fault : List Str := ["follow", "table", "numbers", "j", "part", "number"]
abbrev p_law_s_fault : List Str := ["follow", "table", "numbers"]
theorem sc_law_s_fault : FnScope n_law_s_fault p_law_s_fault (defScope s_law_s_fault) := ⟨rfl, rfl, rfl, by decide +kernel, rfl, by decide +kernel, by decide +kernel⟩
abbrev s_law_b_changed : Stmt := topS 25
abbrev n_law_b_changed : List Str := ["tape", "table", "i", "j", "start", "leads", "k"]
abbrev p_law_b_changed : List Str := ["tape", "table"]
theorem sc_law_b_changed : FnScope n_law_b_changed p_law_b_changed (defScope s_law_b_changed) := ⟨rfl, rfl, rfl, by decide +kernel, rfl, by decide +kernel, by decide +kernel⟩
abbrev s_law_few_links : Stmt := topS 26
abbrev n_law_few_links : List Str := ["tape", "many", "table", "i", "leads", "k", "j"]
abbrev p_law_few_links : List Str := ["tape"]
theorem sc_law_few_links : FnScope n_law_few_links p_law_few_links (defScope s_law_few_links) := ⟨rfl, rfl, rfl, by decide +kernel, rfl, by decide +kernel, by decide +kernel⟩
abbrev s_law_moved : Stmt := topS 27
abbrev n_law_moved : List Str := ["tape", "numbers", "row", "k"]
abbrev p_law_moved : List Str := ["tape", "numbers"]
theorem sc_law_moved : FnScope n_law_moved p_law_moved (defScope s_law_moved) := ⟨rfl, rfl, rfl, by decide +kernel, rfl, by decide +kernel, by decide +kernel⟩
abbrev s_holds : Stmt := topS 10
abbrev n_holds : List Str := ["follow", "table", "numbers", "place", "a", "b", "starts", "multiple", "ended", "other", "started", "arrived"]
abbrev p_holds : List Str := ["follow", "table", "numbers", "place"]
theorem sc_holds : FnScope n_holds p_holds (defScope s_holds) := ⟨rfl, rfl, rfl, by decide +kernel, rfl, by decide +kernel, by decide +kernel⟩
abbrev s_law_b_follow : Stmt := topS 23
abbrev n_law_b_follow : List Str := ["tape", "most"]
abbrev p_law_b_follow : List Str := ["tape"]
theorem sc_law_b_follow : FnScope n_law_b_follow p_law_b_follow (defScope s_law_b_follow) := ⟨rfl, rfl, rfl, by decide +kernel, rfl, by decide +kernel, by decide +kernel⟩
abbrev s_law_b_web : Stmt := topS 24
abbrev n_law_b_web : List Str := ["tape", "many", "shape", "heavy", "goal", "table", "i", "others", "j", "leads"]
abbrev p_law_b_web : List Str := ["tape", "many"]
theorem sc_law_b_web : FnScope n_law_b_web p_law_b_web (defScope s_law_b_web) := ⟨rfl, rfl, rfl, by decide +kernel, rfl, by decide +kernel, by decide +kernel⟩
abbrev s_law_bent : Stmt := topS 29
abbrev n_law_bent : List Str := ["tape", "numbers", "many", "by", "great", "number", "bent", "step", "k", "turned", "i", "j"]
abbrev p_law_bent : List Str := ["tape", "numbers"]
theorem sc_law_bent : FnScope n_law_bent p_law_bent (defScope s_law_bent) := ⟨rfl, rfl, rfl, by decide +kernel, rfl, by decide +kernel, by decide +kernel⟩
abbrev s_law_cases : Stmt := topS 30
abbrev n_law_cases : List Str := ["follow", "table", "told", "numbers"]
abbrev p_law_cases : List Str := ["follow", "table", "told"]
theorem sc_law_cases : FnScope n_law_cases p_law_cases (defScope s_law_cases) := ⟨rfl, rfl, rfl, by decide +kernel, rfl, by decide +kernel, by decide +kernel⟩
abbrev s_judge : Stmt := topS 11
abbrev n_judge : List Str := ["follow", "table", "numbers", "place", "number", "divisor"]
abbrev p_judge : List Str := ["follow", "table", "numbers"]
theorem sc_judge : FnScope n_judge p_judge (defScope s_judge) := ⟨rfl, rfl, rfl, by decide +kernel, rfl, by decide +kernel, by decide +kernel⟩
abbrev s_law_same : Stmt := topS 17
abbrev n_law_same : List Str := ["told", "wanted", "k"]
abbrev p_law_same : List Str := ["told", "wanted"]
theorem sc_law_same : FnScope n_law_same p_law_same (defScope s_law_same) := ⟨rfl, rfl, rfl, by decide +kernel, rfl, by decide +kernel, by decide +kernel⟩
abbrev s_law : Stmt := topS 31
abbrev n_law : List Str := ["script", "tape", "follow", "other", "table", "line", "changed", "numbers", "cases", "later", "k", "case"]
abbrev p_law : List Str := ["script"]
theorem sc_law : FnScope n_law p_law (defScope s_law) := ⟨rfl, rfl, rfl, by decide +kernel, rfl, by decide +kernel, by decide +kernel⟩
structure Tx (K : PySem.W.Frag) (mg : Str → Option Value) where
  f_common_divisor : Addr
  d_common_divisor : FuncData
  D_common_divisor : Fun K "common_divisor" "common_divisor" s_common_divisor f_common_divisor d_common_divisor
  g_common_divisor : mg "common_divisor" = some (.ref f_common_divisor)
  b_common_divisor : Binds K d_common_divisor p_common_divisor []
  f_start_sum : Addr
  d_start_sum : FuncData
  D_start_sum : Fun K "start_sum" "start_sum" s_start_sum f_start_sum d_start_sum
  g_start_sum : mg "start_sum" = some (.ref f_start_sum)
  b_start_sum : Binds K d_start_sum p_start_sum []
  f_leading_to : Addr
  d_leading_to : FuncData
  D_leading_to : Fun K "leading_to" "leading_to" s_leading_to f_leading_to d_leading_to
  g_leading_to : mg "leading_to" = some (.ref f_leading_to)
  b_leading_to : Binds K d_leading_to p_leading_to []
  f_dead_ends : Addr
  d_dead_ends : FuncData
  D_dead_ends : Fun K "dead_ends" "dead_ends" s_dead_ends f_dead_ends d_dead_ends
  g_dead_ends : mg "dead_ends" = some (.ref f_dead_ends)
  b_dead_ends : Binds K d_dead_ends p_dead_ends []
  f_common_multiple : Addr
  d_common_multiple : FuncData
  D_common_multiple : Fun K "common_multiple" "common_multiple" s_common_multiple f_common_multiple d_common_multiple
  g_common_multiple : mg "common_multiple" = some (.ref f_common_multiple)
  b_common_multiple : Binds K d_common_multiple p_common_multiple []
  f_law_tape : Addr
  d_law_tape : FuncData
  D_law_tape : Fun K "_law_tape" "_law_tape" s_law_tape f_law_tape d_law_tape
  g_law_tape : mg "_law_tape" = some (.ref f_law_tape)
  b_law_tape : Binds K d_law_tape p_law_tape []
  f_law_draw : Addr
  d_law_draw : FuncData
  D_law_draw : Fun K "_law_draw" "_law_draw" s_law_draw f_law_draw d_law_draw
  g_law_draw : mg "_law_draw" = some (.ref f_law_draw)
  b_law_draw : Binds K d_law_draw p_law_draw []
  f_law_s_gcd : Addr
  d_law_s_gcd : FuncData
  D_law_s_gcd : Fun K "_law_s_gcd" "_law_s_gcd" s_law_s_gcd f_law_s_gcd d_law_s_gcd
  g_law_s_gcd : mg "_law_s_gcd" = some (.ref f_law_s_gcd)
  b_law_s_gcd : Binds K d_law_s_gcd p_law_s_gcd []
  f_law_s_holds : Addr
  d_law_s_holds : FuncData
  D_law_s_holds : Fun K "_law_s_holds" "_law_s_holds" s_law_s_holds f_law_s_holds d_law_s_holds
  g_law_s_holds : mg "_law_s_holds" = some (.ref f_law_s_holds)
  b_law_s_holds : Binds K d_law_s_holds p_law_s_holds []
  f_law_last_two : Addr
  d_law_last_two : FuncData
  D_law_last_two : Fun K "_law_last_two" "_law_last_two" s_law_last_two f_law_last_two d_law_last_two
  g_law_last_two : mg "_law_last_two" = some (.ref f_law_last_two)
  b_law_last_two : Binds K d_law_last_two p_law_last_two []
  f_arriving : Addr
  d_arriving : FuncData
  D_arriving : Fun K "arriving" "arriving" s_arriving f_arriving d_arriving
  g_arriving : mg "arriving" = some (.ref f_arriving)
  b_arriving : Binds K d_arriving p_arriving []
  f_law_pick : Addr
  d_law_pick : FuncData
  D_law_pick : Fun K "_law_pick" "_law_pick" s_law_pick f_law_pick d_law_pick
  g_law_pick : mg "_law_pick" = some (.ref f_law_pick)
  b_law_pick : Binds K d_law_pick p_law_pick []
  f_law_turns : Addr
  d_law_turns : FuncData
  D_law_turns : Fun K "_law_turns" "_law_turns" s_law_turns f_law_turns d_law_turns
  g_law_turns : mg "_law_turns" = some (.ref f_law_turns)
  b_law_turns : Binds K d_law_turns p_law_turns []
  f_law_s_lowest : Addr
  d_law_s_lowest : FuncData
  D_law_s_lowest : Fun K "_law_s_lowest" "_law_s_lowest" s_law_s_lowest f_law_s_lowest d_law_s_lowest
  g_law_s_lowest : mg "_law_s_lowest" = some (.ref f_law_s_lowest)
  b_law_s_lowest : Binds K d_law_s_lowest p_law_s_lowest []
  f_law_s_parts : Addr
  d_law_s_parts : FuncData
  D_law_s_parts : Fun K "_law_s_parts" "_law_s_parts" s_law_s_parts f_law_s_parts d_law_s_parts
  g_law_s_parts : mg "_law_s_parts" = some (.ref f_law_s_parts)
  b_law_s_parts : Binds K d_law_s_parts p_law_s_parts []
  f_law_s_fault : Addr
  d_law_s_fault : FuncData
  D_law_s_fault : Fun K "_law_s_fault" "_law_s_fault" s_law_s_fault f_law_s_fault d_law_s_fault
  g_law_s_fault : mg "_law_s_fault" = some (.ref f_law_s_fault)
  b_law_s_fault : Binds K d_law_s_fault p_law_s_fault []
  f_law_b_changed : Addr
  d_law_b_changed : FuncData
  D_law_b_changed : Fun K "_law_b_changed" "_law_b_changed" s_law_b_changed f_law_b_changed d_law_b_changed
  g_law_b_changed : mg "_law_b_changed" = some (.ref f_law_b_changed)
  b_law_b_changed : Binds K d_law_b_changed p_law_b_changed []
  f_law_few_links : Addr
  d_law_few_links : FuncData
  D_law_few_links : Fun K "_law_few_links" "_law_few_links" s_law_few_links f_law_few_links d_law_few_links
  g_law_few_links : mg "_law_few_links" = some (.ref f_law_few_links)
  b_law_few_links : Binds K d_law_few_links p_law_few_links []
  f_law_moved : Addr
  d_law_moved : FuncData
  D_law_moved : Fun K "_law_moved" "_law_moved" s_law_moved f_law_moved d_law_moved
  g_law_moved : mg "_law_moved" = some (.ref f_law_moved)
  b_law_moved : Binds K d_law_moved p_law_moved []
  f_holds : Addr
  d_holds : FuncData
  D_holds : Fun K "holds" "holds" s_holds f_holds d_holds
  g_holds : mg "holds" = some (.ref f_holds)
  b_holds : Binds K d_holds p_holds []
  f_law_b_follow : Addr
  d_law_b_follow : FuncData
  D_law_b_follow : Fun K "_law_b_follow" "_law_b_follow" s_law_b_follow f_law_b_follow d_law_b_follow
  g_law_b_follow : mg "_law_b_follow" = some (.ref f_law_b_follow)
  b_law_b_follow : Binds K d_law_b_follow p_law_b_follow []
  f_law_b_web : Addr
  d_law_b_web : FuncData
  D_law_b_web : Fun K "_law_b_web" "_law_b_web" s_law_b_web f_law_b_web d_law_b_web
  g_law_b_web : mg "_law_b_web" = some (.ref f_law_b_web)
  b_law_b_web : Binds K d_law_b_web p_law_b_web []
  f_law_bent : Addr
  d_law_bent : FuncData
  D_law_bent : Fun K "_law_bent" "_law_bent" s_law_bent f_law_bent d_law_bent
  g_law_bent : mg "_law_bent" = some (.ref f_law_bent)
  b_law_bent : Binds K d_law_bent p_law_bent []
  f_law_cases : Addr
  d_law_cases : FuncData
  D_law_cases : Fun K "_law_cases" "_law_cases" s_law_cases f_law_cases d_law_cases
  g_law_cases : mg "_law_cases" = some (.ref f_law_cases)
  b_law_cases : Binds K d_law_cases p_law_cases []
  f_judge : Addr
  d_judge : FuncData
  D_judge : Fun K "judge" "judge" s_judge f_judge d_judge
  g_judge : mg "judge" = some (.ref f_judge)
  b_judge : Binds K d_judge p_judge []
  f_law_same : Addr
  d_law_same : FuncData
  D_law_same : Fun K "_law_same" "_law_same" s_law_same f_law_same d_law_same
  g_law_same : mg "_law_same" = some (.ref f_law_same)
  b_law_same : Binds K d_law_same p_law_same []
  f_law : Addr
  d_law : FuncData
  D_law : Fun K "law" "law" s_law f_law d_law
  g_law : mg "law" = some (.ref f_law)
  b_law : Binds K d_law p_law []
  n_abs : mg "abs" = none
  n_bool : mg "bool" = none
  n_enumerate : mg "enumerate" = none
  n_gcd : mg "gcd" = some (.builtin "math.gcd")
  n_int : mg "int" = none
  n_isinstance : mg "isinstance" = none
  n_lcm : mg "lcm" = some (.builtin "math.lcm")
  n_len : mg "len" = none
  n_list : mg "list" = none
  n_max : mg "max" = none
  n_range : mg "range" = none
  n_set : mg "set" = none
  n_sorted : mg "sorted" = none
  n_str : mg "str" = none
  n_sum : mg "sum" = none
  n_tuple : mg "tuple" = none
section
variable {P : Program} {w : World} {K : PySem.W.Frag} {mg : Str → Option Value} {base : Heap}
theorem ok_common_divisor (T : Tx K mg) (h : ∀ (args : List Sl) (Q : Sl → (Nat → Option Sl) → Prop), args.length = 1 → sp_common_divisor args Q → t_common_divisor { nx := fun env => Q (.d .none) (osOf env), rt := fun r env => Q r (osOf env) } (startE 3 args)) : FnOk P w K mg base CX0 1 T.f_common_divisor T.d_common_divisor p_common_divisor (spD K ([], []) 1 sp_common_divisor) := by
  refine fnd T.D_common_divisor sc_common_divisor rfl fun cdv A outer s H E hr => ⟨t_common_divisor, ?_, h⟩
  have nd := sc_common_divisor.nd
  exact (psds_cons (psd_setD (i := 1) nd rfl (by first | exact Or.inl rfl | exact Or.inr rfl) pd_int)
      (psds_cons (psd_for PassesOwn.never rfl (pdi_seq (pdv 0)) (pdg_name (i := 2) nd rfl (by first | exact Or.inl rfl | exact Or.inr rfl)) (psds_one (psd_setD (i := 1) nd rfl (by first | exact Or.inl rfl | exact Or.inr rfl) (pd_callF bd_gcd rfl T.n_gcd (pda_cons (pdv 1) (pda_cons (pdv 2) pda_nil))))))
      (psds_one (psd_ret (pdv 1)))))
theorem ok_start_sum (T : Tx K mg) (h : ∀ (args : List Sl) (Q : Sl → (Nat → Option Sl) → Prop), args.length = 1 → sp_start_sum args Q → t_start_sum { nx := fun env => Q (.d .none) (osOf env), rt := fun r env => Q r (osOf env) } (startE 3 args)) : FnOk P w K mg base CX0 1 T.f_start_sum T.d_start_sum p_start_sum (spD K ([], []) 1 sp_start_sum) := by
  refine fnd T.D_start_sum sc_start_sum rfl fun cdv A outer s H E hr => ⟨t_start_sum, ?_, h⟩
  have nd := sc_start_sum.nd
  exact (psds_one (psd_ret (pd_callB (bd_sumA rfl) rfl T.n_sum bt_sum (pda_cons (pd_lcV [("start", 1), ("leads", 2)] rfl rfl nd (pdi_seq (pdv 0)) (blkOk_by (own := [("start", 1), ("leads", 2)]) (N := n_start_sum) (sc := defScope s_start_sum) (by decide +kernel)) (fun _ _ _ _ _ => (pdc_tup rfl (pdcs_cons (pdc_name (i := 1) (pg_name nd rfl (by first | exact Or.inl rfl | exact Or.inr rfl))) (pdcs_cons (pdc_name (i := 2) (pg_name nd rfl (by first | exact Or.inl rfl | exact Or.inr rfl))) pdcs_nil)))) (fun _ _ _ _ _ => pdts_nil) (fun _ _ _ _ _ => (pdv 1))) pda_nil))))
theorem ok_leading_to (T : Tx K mg) (h : ∀ (args : List Sl) (Q : Sl → (Nat → Option Sl) → Prop), args.length = 2 → sp_leading_to args Q → t_leading_to { nx := fun env => Q (.d .none) (osOf env), rt := fun r env => Q r (osOf env) } (startE 5 args)) : FnOk P w K mg base CX0 1 T.f_leading_to T.d_leading_to p_leading_to (spD K ([], []) 2 sp_leading_to) := by
  refine fnd T.D_leading_to sc_leading_to rfl fun cdv A outer s H E hr => ⟨t_leading_to, ?_, h⟩
  have nd := sc_leading_to.nd
  exact (psds_one (psd_ret (pd_callTy bd_tuple rfl T.n_tuple bt_tuple (pda_cons (pd_lcV [("other", 2), ("start", 3), ("leads", 4)] rfl rfl nd (pdi_enum2 rfl T.n_enumerate (pda_cons (pdv 0) pda_nil)) (blkOk_by (own := [("other", 2), ("start", 3), ("leads", 4)]) (N := n_leading_to) (sc := defScope s_leading_to) (by decide +kernel)) (fun _ _ _ _ _ => (pdc_tup rfl (pdcs_cons (pdc_name (i := 2) (pg_name nd rfl (by first | exact Or.inl rfl | exact Or.inr rfl))) (pdcs_cons (pdc_tup rfl (pdcs_cons (pdc_name (i := 3) (pg_name nd rfl (by first | exact Or.inl rfl | exact Or.inr rfl))) (pdcs_cons (pdc_name (i := 4) (pg_name nd rfl (by first | exact Or.inl rfl | exact Or.inr rfl))) pdcs_nil))) pdcs_nil)))) (fun _ _ _ _ _ => (pdts_one (pdt_cmp (od_in (u65 hr)) (pdv 1) (pdv 4)))) (fun _ _ _ _ _ => (pdv 2))) pda_nil))))
theorem ok_dead_ends (T : Tx K mg) (h : ∀ (args : List Sl) (Q : Sl → (Nat → Option Sl) → Prop), args.length = 1 → sp_dead_ends args Q → t_dead_ends { nx := fun env => Q (.d .none) (osOf env), rt := fun r env => Q r (osOf env) } (startE 4 args)) : FnOk P w K mg base CX0 1 T.f_dead_ends T.d_dead_ends p_dead_ends (spD K ([], []) 1 sp_dead_ends) := by
  refine fnd T.D_dead_ends sc_dead_ends rfl fun cdv A outer s H E hr => ⟨t_dead_ends, ?_, h⟩
  have nd := sc_dead_ends.nd
  exact (psds_one (psd_ret (pd_callTy bd_tuple rfl T.n_tuple bt_tuple (pda_cons (pd_lcV [("place", 1), ("start", 2), ("leads", 3)] rfl rfl nd (pdi_enum2 rfl T.n_enumerate (pda_cons (pdv 0) pda_nil)) (blkOk_by (own := [("place", 1), ("start", 2), ("leads", 3)]) (N := n_dead_ends) (sc := defScope s_dead_ends) (by decide +kernel)) (fun _ _ _ _ _ => (pdc_tup rfl (pdcs_cons (pdc_name (i := 1) (pg_name nd rfl (by first | exact Or.inl rfl | exact Or.inr rfl))) (pdcs_cons (pdc_tup rfl (pdcs_cons (pdc_name (i := 2) (pg_name nd rfl (by first | exact Or.inl rfl | exact Or.inr rfl))) (pdcs_cons (pdc_name (i := 3) (pg_name nd rfl (by first | exact Or.inl rfl | exact Or.inr rfl))) pdcs_nil))) pdcs_nil)))) (fun _ _ _ _ _ => (pdts_one (pdt_cmp (od_eq (u64 hr)) (pdv 3) (pd_tup pda_nil)))) (fun _ _ _ _ _ => (pdv 1))) pda_nil))))
theorem ok_common_multiple (T : Tx K mg) (h : ∀ (args : List Sl) (Q : Sl → (Nat → Option Sl) → Prop), args.length = 1 → sp_common_multiple args Q → t_common_multiple { nx := fun env => Q (.d .none) (osOf env), rt := fun r env => Q r (osOf env) } (startE 4 args)) : FnOk P w K mg base CX0 1 T.f_common_multiple T.d_common_multiple p_common_multiple (spD K ([], []) 1 sp_common_multiple) := by
  refine fnd T.D_common_multiple sc_common_multiple rfl fun cdv A outer s H E hr => ⟨t_common_multiple, ?_, h⟩
  have nd := sc_common_multiple.nd
  exact (psds_cons (psd_setD (i := 1) nd rfl (by first | exact Or.inl rfl | exact Or.inr rfl) pd_int)
      (psds_cons (psd_for PassesOwn.never rfl (pdi_seq (pdv 0)) (pdg_tup rfl (pdgs_cons (pdg_name (i := 2) nd rfl (by first | exact Or.inl rfl | exact Or.inr rfl)) (pdgs_cons (pdg_name (i := 3) nd rfl (by first | exact Or.inl rfl | exact Or.inr rfl)) pdgs_nil))) (psds_one (psd_if (pdt_cmp (od_ne (u64 hr)) (pdv 3) (pd_tup pda_nil)) (psds_one (psd_setD (i := 1) nd rfl (by first | exact Or.inl rfl | exact Or.inr rfl) (pd_callF bd_lcm rfl T.n_lcm (pda_cons (pdv 1) (pda_cons (pd_callB bd_len rfl T.n_len bt_len (pda_cons (pdv 3) pda_nil)) pda_nil))))) psds_nil)))
      (psds_one (psd_ret (pdv 1)))))
theorem ok_law_tape (T : Tx K mg) (h : ∀ (args : List Sl) (Q : Sl → (Nat → Option Sl) → Prop), args.length = 1 → sp_law_tape args Q → t_law_tape { nx := fun env => Q (.d .none) (osOf env), rt := fun r env => Q r (osOf env) } (startE 3 args)) : FnOk P w K mg base CX0 1 T.f_law_tape T.d_law_tape p_law_tape (spD K ([], []) 1 sp_law_tape) := by
  refine fnd T.D_law_tape sc_law_tape rfl fun cdv A outer s H E hr => ⟨t_law_tape, ?_, h⟩
  have nd := sc_law_tape.nd
  exact (psds_cons (psd_setD (i := 1) nd rfl (by first | exact Or.inl rfl | exact Or.inr rfl) pd_int)
      (psds_cons (psd_for PassesOwn.never rfl (pdi_seq (pdv 0)) (pdg_name (i := 2) nd rfl (by first | exact Or.inl rfl | exact Or.inr rfl)) (psds_one (psd_setD (i := 1) nd rfl (by first | exact Or.inl rfl | exact Or.inr rfl) (pd_op od_mod (pd_callTy bd_int rfl T.n_int bt_int (pda_cons (pd_op od_add (pd_op od_mul (pdv 1) pd_int) (pd_callB bd_abs rfl T.n_abs bt_abs (pda_cons (pd_callTy bd_int rfl T.n_int bt_int (pda_cons (pdv 2) pda_nil)) pda_nil))) pda_nil)) pd_int))))
      (psds_one (psd_ret (pd_lst (pda_cons (pd_callTy bd_list rfl T.n_list bt_list (pda_cons (pdv 0) pda_nil)) (pda_cons pd_int (pda_cons pd_int (pda_cons (pdv 1) pda_nil)))))))))
theorem ok_law_draw (T : Tx K mg) (h : ∀ (args : List Sl) (Q : Sl → (Nat → Option Sl) → Prop), args.length = 2 → sp_law_draw args Q → t_law_draw { nx := fun env => Q (.d .none) (osOf env), rt := fun r env => Q r (osOf env) } (startE 4 args)) : FnOk P w K mg base CX0 1 T.f_law_draw T.d_law_draw p_law_draw (spD K ([0], []) 2 sp_law_draw) := by
  refine fnd T.D_law_draw sc_law_draw rfl fun cdv A outer s H E hr => ⟨t_law_draw, ?_, h⟩
  have nd := sc_law_draw.nd
  exact (psds_cons (psd_if (pdt_cmp (od_eq (u64 hr)) (pd_ix (pdv 0) pd_int) pd_int) (psds_cons (psd_setD (i := 2) nd rfl (by first | exact Or.inl rfl | exact Or.inr rfl) (pd_ix (pdv 0) pd_int))
      (psds_cons (psd_setD (i := 3) nd rfl (by first | exact Or.inl rfl | exact Or.inr rfl) pd_int)
      (psds_cons (psd_if (pdt_cmp od_lt (pdv 2) (pd_callB bd_len rfl T.n_len bt_len (pda_cons (pd_ix (pdv 0) pd_int) pda_nil))) (psds_one (psd_setD (i := 3) nd rfl (by first | exact Or.inl rfl | exact Or.inr rfl) (pd_callB bd_abs rfl T.n_abs bt_abs (pda_cons (pd_callTy bd_int rfl T.n_int bt_int (pda_cons (pd_ix (pd_ix (pdv 0) pd_int) (pdv 2)) pda_nil)) pda_nil)))) (psds_cons (psd_setIx (pv 0) pd_int (pd_op od_mod (pd_callTy bd_int rfl T.n_int bt_int (pda_cons (pd_op od_add (pd_op od_add (pd_op od_mul (pd_ix (pdv 0) pd_int) pd_int) (pdv 2)) pd_int) pda_nil)) pd_int))
      (psds_one (psd_setD (i := 3) nd rfl (by first | exact Or.inl rfl | exact Or.inr rfl) (pd_ix (pdv 0) pd_int)))))
      (psds_cons (psd_setIx (pv 0) pd_int (pd_op od_add (pdv 2) pd_int))
      (psds_cons (psd_if (pdt_cmp od_lt (pdv 3) (pd_op od_pow pd_int pd_int)) (psds_cons (psd_setD (i := 3) nd rfl (by first | exact Or.inl rfl | exact Or.inr rfl) (pd_op od_mod (pd_callTy bd_int rfl T.n_int bt_int (pda_cons (pd_op od_add (pd_op od_add (pd_op od_mul (pdv 3) pd_int) (pd_op od_mul (pdv 2) pd_int)) pd_int) pda_nil)) pd_int))
      (psds_cons (psd_setD (i := 3) nd rfl (by first | exact Or.inl rfl | exact Or.inr rfl) (pd_op od_mod (pd_callTy bd_int rfl T.n_int bt_int (pda_cons (pd_op od_mul (pdv 3) pd_int) pda_nil)) pd_int))
      (psds_one (psd_ret (pd_op od_mod (pd_callTy bd_int rfl T.n_int bt_int (pda_cons (pdv 3) pda_nil)) (pd_callB (bd_max2 rfl) rfl T.n_max bt_max (pda_cons (pdv 1) (pda_cons pd_int pda_nil)))))))) psds_nil)
      (psds_one (psd_setIx (pv 0) pd_int (pdv 3)))))))) psds_nil)
      (psds_cons (psd_setD (i := 3) nd rfl (by first | exact Or.inl rfl | exact Or.inr rfl) (pd_ix (pdv 0) pd_int))
      (psds_cons (psd_setIx (pv 0) pd_int (pd_op od_div (pdv 3) (pd_callB (bd_max2 rfl) rfl T.n_max bt_max (pda_cons (pdv 1) (pda_cons pd_int pda_nil)))))
      (psds_one (psd_ret (pd_op od_mod (pd_callTy bd_int rfl T.n_int bt_int (pda_cons (pdv 3) pda_nil)) (pd_callB (bd_max2 rfl) rfl T.n_max bt_max (pda_cons (pdv 1) (pda_cons pd_int pda_nil)))))))))
theorem ok_law_s_gcd (T : Tx K mg) (h : ∀ (args : List Sl) (Q : Sl → (Nat → Option Sl) → Prop), args.length = 2 → sp_law_s_gcd args Q → t_law_s_gcd { nx := fun env => Q (.d .none) (osOf env), rt := fun r env => Q r (osOf env) } (startE 3 args)) : FnOk P w K mg base CX0 1 T.f_law_s_gcd T.d_law_s_gcd p_law_s_gcd (spD K ([], []) 2 sp_law_s_gcd) := by
  refine fnd T.D_law_s_gcd sc_law_s_gcd rfl fun cdv A outer s H E hr => ⟨t_law_s_gcd, ?_, h⟩
  have nd := sc_law_s_gcd.nd
  exact (psds_cons (psd_while PassesOwn.never (pdt_cmp (od_ne (u64 hr)) (pdv 1) pd_int) (psds_cons (psd_setD (i := 2) nd rfl (by first | exact Or.inl rfl | exact Or.inr rfl) (pd_op od_mod (pd_callTy bd_int rfl T.n_int bt_int (pda_cons (pdv 0) pda_nil)) (pd_callTy bd_int rfl T.n_int bt_int (pda_cons (pdv 1) pda_nil))))
      (psds_cons (psd_setD (i := 0) nd rfl (by first | exact Or.inl rfl | exact Or.inr rfl) (pdv 1))
      (psds_one (psd_setD (i := 1) nd rfl (by first | exact Or.inl rfl | exact Or.inr rfl) (pdv 2))))))
      (psds_one (psd_ret (pd_callB bd_abs rfl T.n_abs bt_abs (pda_cons (pdv 0) pda_nil)))))
theorem ok_law_s_holds (T : Tx K mg) (h : ∀ (args : List Sl) (Q : Sl → (Nat → Option Sl) → Prop), args.length = 4 → sp_law_s_holds args Q → t_law_s_holds { nx := fun env => Q (.d .none) (osOf env), rt := fun r env => Q r (osOf env) } (startE 10 args)) : FnOk P w K mg base CX0 1 T.f_law_s_holds T.d_law_s_holds p_law_s_holds (spD K ([], []) 4 sp_law_s_holds) := by
  refine fnd T.D_law_s_holds sc_law_s_holds rfl fun cdv A outer s H E hr => ⟨t_law_s_holds, ?_, h⟩
  have nd := sc_law_s_holds.nd
  exact (psds_cons (psd_setD (i := 4) nd rfl (by first | exact Or.inl rfl | exact Or.inr rfl) (pd_callB (bd_sumA rfl) rfl T.n_sum bt_sum (pda_cons (pd_lcV [("line", 5)] rfl rfl nd (pdi_seq (pdv 1)) (blkOk_by (own := [("line", 5)]) (N := n_law_s_holds) (sc := defScope s_law_s_holds) (by decide +kernel)) (fun _ _ _ _ _ => (pdc_name (i := 5) (pg_name nd rfl (by first | exact Or.inl rfl | exact Or.inr rfl)))) (fun _ _ _ _ _ => pdts_nil) (fun _ _ _ _ _ => (pd_ix (pdv 5) pd_int))) pda_nil)))
      (psds_cons (psd_setD (i := 6) nd rfl (by first | exact Or.inl rfl | exact Or.inr rfl) (pd_callB (bd_sumA rfl) rfl T.n_sum bt_sum (pda_cons (pd_lcV [("i", 7)] rfl rfl nd (pdi_rng1 rfl T.n_range (pda_cons (pd_callB bd_len rfl T.n_len bt_len (pda_cons (pdv 1) pda_nil)) pda_nil)) (blkOk_by (own := [("i", 7)]) (N := n_law_s_holds) (sc := defScope s_law_s_holds) (by decide +kernel)) (fun _ _ _ _ _ => (pdc_name (i := 7) (pg_name nd rfl (by first | exact Or.inl rfl | exact Or.inr rfl)))) (fun _ _ _ _ _ => (pdts_one (pdt_cmp (od_eq (u64 hr)) (pd_callB bd_len rfl T.n_len bt_len (pda_cons (pd_ix (pd_ix (pdv 1) (pdv 7)) pd_int) pda_nil)) pd_int))) (fun _ _ _ _ _ => (pd_ix (pdv 2) (pdv 7)))) pda_nil)))
      (psds_cons (psd_setD (i := 8) nd rfl (by first | exact Or.inl rfl | exact Or.inr rfl) (pd_callB (bd_sumA rfl) rfl T.n_sum bt_sum (pda_cons (pd_lcV [("i", 7)] rfl rfl nd (pdi_rng1 rfl T.n_range (pda_cons (pd_callB bd_len rfl T.n_len bt_len (pda_cons (pdv 1) pda_nil)) pda_nil)) (blkOk_by (own := [("i", 7)]) (N := n_law_s_holds) (sc := defScope s_law_s_holds) (by decide +kernel)) (fun _ _ _ _ _ => (pdc_name (i := 7) (pg_name nd rfl (by first | exact Or.inl rfl | exact Or.inr rfl)))) (fun _ _ _ _ _ => (pdts_one (pdt_cmp (od_in (u65 hr)) (pdv 3) (pd_ix (pd_ix (pdv 1) (pdv 7)) pd_int)))) (fun _ _ _ _ _ => (pd_op od_mulW (pd_ix (pdv 2) (pdv 7)) (pd_op od_divP pd_int (pd_callB bd_len rfl T.n_len bt_len (pda_cons (pd_ix (pd_ix (pdv 1) (pdv 7)) pd_int) pda_nil)))))) pda_nil)))
      (psds_cons (psd_setD (i := 9) nd rfl (by first | exact Or.inl rfl | exact Or.inr rfl) (pd_op od_add (pd_op od_mulW (pd_op od_sub (pd_ix (pdv 0) pd_int) (pd_ix (pdv 0) pd_int)) (pd_callB (bd_sumA rfl) rfl T.n_sum bt_sum (pda_cons (pdv 2) pda_nil))) (pd_op od_mulW (pd_ix (pdv 0) pd_int) (pdv 6))))
      (psds_one (psd_ret (pd_cmp (od_eq (u64 hr)) (pd_op od_mulW (pd_op od_mulW (pd_op od_mulW (pd_ix (pdv 0) pd_int) (pdv 4)) pd_int) (pd_ix (pdv 2) (pdv 3))) (pd_op od_add (pd_op od_mulW (pd_op od_mulW (pd_ix (pdv 0) pd_int) (pdv 4)) (pdv 8)) (pd_op od_mulW (pd_op od_mulW (pd_ix (pd_ix (pdv 1) (pdv 3)) pd_int) pd_int) (pdv 9))))))))))
theorem ok_law_last_two (T : Tx K mg) (h : ∀ (args : List Sl) (Q : Sl → (Nat → Option Sl) → Prop), args.length = 1 → sp_law_last_two args Q → t_law_last_two { nx := fun env => Q (.d .none) (osOf env), rt := fun r env => Q r (osOf env) } (startE 2 args)) : FnOk P w K mg base CX0 1 T.f_law_last_two T.d_law_last_two p_law_last_two (spD K ([], []) 1 sp_law_last_two) := by
  refine fnd T.D_law_last_two sc_law_last_two rfl fun cdv A outer s H E hr => ⟨t_law_last_two, ?_, h⟩
  have nd := sc_law_last_two.nd
  exact (psds_one (psd_ret (pd_op od_add (pd_op od_add (pd_slice (pdv 0) pdo_none (pdo_some (pd_neg pd_int))) (pd_callTy bd_tuple rfl T.n_tuple bt_tuple (pda_cons (pd_lcV [("number", 1)] rfl rfl nd (pdi_seq (pd_slice (pdv 0) (pdo_some (pd_neg pd_int)) (pdo_some (pd_neg pd_int)))) (blkOk_by (own := [("number", 1)]) (N := n_law_last_two) (sc := defScope s_law_last_two) (by decide +kernel)) (fun _ _ _ _ _ => (pdc_name (i := 1) (pg_name nd rfl (by first | exact Or.inl rfl | exact Or.inr rfl)))) (fun _ _ _ _ _ => pdts_nil) (fun _ _ _ _ _ => (pd_op od_add (pdv 1) pd_int))) pda_nil))) (pd_tup (pda_cons (pd_callB (bd_max2 rfl) rfl T.n_max bt_max (pda_cons pd_int (pda_cons (pd_op od_sub (pd_ix (pdv 0) (pd_neg pd_int)) pd_int) pda_nil))) pda_nil)))))
theorem ok_arriving (T : Tx K mg) (G_leading_to : FnOk P w K mg base CX0 1 T.f_leading_to T.d_leading_to p_leading_to (spD K ([], []) 2 sp_leading_to)) (h : ∀ (args : List Sl) (Q : Sl → (Nat → Option Sl) → Prop), args.length = 4 → sp_arriving args Q → t_arriving { nx := fun env => Q (.d .none) (osOf env), rt := fun r env => Q r (osOf env) } (startE 5 args)) : FnOk P w K mg base CX0 2 T.f_arriving T.d_arriving p_arriving (spD K ([], []) 4 sp_arriving) := by
  refine fnd T.D_arriving sc_arriving rfl fun cdv A outer s H E hr => ⟨t_arriving, ?_, h⟩
  have nd := sc_arriving.nd
  exact (psds_one (psd_ret (pd_callB (bd_sumA rfl) rfl T.n_sum bt_sum (pda_cons (pd_lcV [("other", 4)] rfl rfl nd (pdi_seq (pd_call G_leading_to (hr.mono (by decide)) (by rfl) T.g_leading_to T.D_leading_to.kp T.b_leading_to (pda_cons (pdv 0) (pda_cons (pdv 3) pda_nil)))) (blkOk_by (own := [("other", 4)]) (N := n_arriving) (sc := defScope s_arriving) (by decide +kernel)) (fun _ _ _ _ _ => (pdc_name (i := 4) (pg_name nd rfl (by first | exact Or.inl rfl | exact Or.inr rfl)))) (fun _ _ _ _ _ => pdts_nil) (fun _ _ _ _ _ => (pd_op od_mulW (pd_op od_divP (pdv 2) (pd_callB bd_len rfl T.n_len bt_len (pda_cons (pd_ix (pd_ix (pdv 0) (pdv 4)) pd_int) pda_nil))) (pd_ix (pdv 1) (pdv 4))))) pda_nil))))
theorem ok_law_pick (T : Tx K mg) (G_law_draw : FnOk P w K mg base CX0 1 T.f_law_draw T.d_law_draw p_law_draw (spD K ([0], []) 2 sp_law_draw)) (h : ∀ (args : List Sl) (Q : Sl → (Nat → Option Sl) → Prop), args.length = 2 → sp_law_pick args Q → t_law_pick { nx := fun env => Q (.d .none) (osOf env), rt := fun r env => Q r (osOf env) } (startE 2 args)) : FnOk P w K mg base CX0 2 T.f_law_pick T.d_law_pick p_law_pick (spD K ([0], []) 2 sp_law_pick) := by
  refine fnd T.D_law_pick sc_law_pick rfl fun cdv A outer s H E hr => ⟨t_law_pick, ?_, h⟩
  have nd := sc_law_pick.nd
  exact (psds_one (psd_ret (pd_ix (pdv 1) (pd_call G_law_draw (hr.mono (by decide)) (by rfl) T.g_law_draw T.D_law_draw.kp T.b_law_draw (pda_cons (pdv 0) (pda_cons (pd_callB bd_len rfl T.n_len bt_len (pda_cons (pdv 1) pda_nil)) pda_nil))))))
theorem ok_law_turns (T : Tx K mg) (G_law_draw : FnOk P w K mg base CX0 1 T.f_law_draw T.d_law_draw p_law_draw (spD K ([0], []) 2 sp_law_draw)) (h : ∀ (args : List Sl) (Q : Sl → (Nat → Option Sl) → Prop), args.length = 2 → sp_law_turns args Q → t_law_turns { nx := fun env => Q (.d .none) (osOf env), rt := fun r env => Q r (osOf env) } (startE 5 args)) : FnOk P w K mg base CX0 2 T.f_law_turns T.d_law_turns p_law_turns (spD K ([0], []) 2 sp_law_turns) := by
  refine fnd T.D_law_turns sc_law_turns rfl fun cdv A outer s H E hr => ⟨t_law_turns, ?_, h⟩
  have nd := sc_law_turns.nd
  exact (psds_cons (psd_set (i := 2) nd rfl (by first | exact Or.inl rfl | exact Or.inr rfl) (pd_listRg rfl rfl T.n_list rfl T.n_range (pdv 1)))
      (psds_cons (psd_set (i := 3) nd rfl (by first | exact Or.inl rfl | exact Or.inr rfl) (pd_lst pda_nil))
      (psds_cons (psd_for PassesOwn.never rfl (pdi_rng1 rfl T.n_range (pda_cons (pdv 1) pda_nil)) (pdg_name (i := 4) nd rfl (by first | exact Or.inl rfl | exact Or.inr rfl)) (psds_one (psd_expr (pd_m PySem.F.plainAttrs_list PySem.F.slot_list_append PySem.F.type_list_append md_append (pv 3) (pda_cons (pd_m PySem.F.plainAttrs_list PySem.F.slot_list_pop PySem.F.type_list_pop md_popAt (pv 2) (pda_cons (pd_call G_law_draw (hr.mono (by decide)) (by rfl) T.g_law_draw T.D_law_draw.kp T.b_law_draw (pda_cons (pdv 0) (pda_cons (pd_callB bd_len rfl T.n_len bt_len (pda_cons (pdv 2) pda_nil)) pda_nil))) pda_nil)) pda_nil)))))
      (psds_one (psd_ret (pd_slice (pdv 3) pdo_none (pdo_some (pd_ix (pd_lst (pda_cons (pdv 1) (pda_cons (pdv 1) (pda_cons pd_int pda_nil)))) (pd_call G_law_draw (hr.mono (by decide)) (by rfl) T.g_law_draw T.D_law_draw.kp T.b_law_draw (pda_cons (pdv 0) (pda_cons pd_int pda_nil)))))))))))
theorem ok_law_s_lowest (T : Tx K mg) (G_law_s_gcd : FnOk P w K mg base CX0 1 T.f_law_s_gcd T.d_law_s_gcd p_law_s_gcd (spD K ([], []) 2 sp_law_s_gcd)) (h : ∀ (args : List Sl) (Q : Sl → (Nat → Option Sl) → Prop), args.length = 2 → sp_law_s_lowest args Q → t_law_s_lowest { nx := fun env => Q (.d .none) (osOf env), rt := fun r env => Q r (osOf env) } (startE 3 args)) : FnOk P w K mg base CX0 2 T.f_law_s_lowest T.d_law_s_lowest p_law_s_lowest (spD K ([], []) 2 sp_law_s_lowest) := by
  refine fnd T.D_law_s_lowest sc_law_s_lowest rfl fun cdv A outer s H E hr => ⟨t_law_s_lowest, ?_, h⟩
  have nd := sc_law_s_lowest.nd
  exact (psds_cons (psd_setD (i := 2) nd rfl (by first | exact Or.inl rfl | exact Or.inr rfl) (pd_call G_law_s_gcd (hr.mono (by decide)) (by rfl) T.g_law_s_gcd T.D_law_s_gcd.kp T.b_law_s_gcd (pda_cons (pdv 0) (pda_cons (pdv 1) pda_nil))))
      (psds_one (psd_ret (pd_tup (pda_cons (pd_op od_divP (pdv 0) (pdv 2)) (pda_cons (pd_op od_divP (pdv 1) (pdv 2)) pda_nil))))))
theorem ok_law_s_parts (T : Tx K mg) (G_law_s_gcd : FnOk P w K mg base CX0 1 T.f_law_s_gcd T.d_law_s_gcd p_law_s_gcd (spD K ([], []) 2 sp_law_s_gcd)) (h : ∀ (args : List Sl) (Q : Sl → (Nat → Option Sl) → Prop), args.length = 2 → sp_law_s_parts args Q → t_law_s_parts { nx := fun env => Q (.d .none) (osOf env), rt := fun r env => Q r (osOf env) } (startE 15 args)) : FnOk P w K mg base CX0 2 T.f_law_s_parts T.d_law_s_parts p_law_s_parts (spD K ([], []) 2 sp_law_s_parts) := by
  refine fnd T.D_law_s_parts sc_law_s_parts rfl fun cdv A outer s H E hr => ⟨t_law_s_parts, ?_, h⟩
  have nd := sc_law_s_parts.nd
  exact (psds_cons (psd_setD (i := 2) nd rfl (by first | exact Or.inl rfl | exact Or.inr rfl) (pd_callB bd_len rfl T.n_len bt_len (pda_cons (pdv 1) pda_nil)))
      (psds_cons (psd_setD (i := 3) nd rfl (by first | exact Or.inl rfl | exact Or.inr rfl) (pd_lcV [("line", 4)] rfl rfl nd (pdi_seq (pdv 1)) (blkOk_by (own := [("line", 4)]) (N := n_law_s_parts) (sc := defScope s_law_s_parts) (by decide +kernel)) (fun _ _ _ _ _ => (pdc_name (i := 4) (pg_name nd rfl (by first | exact Or.inl rfl | exact Or.inr rfl)))) (fun _ _ _ _ _ => pdts_nil) (fun _ _ _ _ _ => (pd_callB (bd_max2 rfl) rfl T.n_max bt_max (pda_cons pd_int (pda_cons (pd_callB bd_len rfl T.n_len bt_len (pda_cons (pd_ix (pdv 4) pd_int) pda_nil)) pda_nil))))))
      (psds_cons (psd_set (i := 5) nd rfl (by first | exact Or.inl rfl | exact Or.inr rfl) (pd_lst pda_nil))
      (psds_cons (psd_for PassesOwn.never rfl (pdi_rng1 rfl T.n_range (pda_cons (pdv 2) pda_nil)) (pdg_name (i := 6) nd rfl (by first | exact Or.inl rfl | exact Or.inr rfl)) (psds_cons (psd_set (i := 7) nd rfl (by first | exact Or.inl rfl | exact Or.inr rfl) (pd_lcV [("line", 4)] rfl rfl nd (pdi_seq (pdv 1)) (blkOk_by (own := [("line", 4)]) (N := n_law_s_parts) (sc := defScope s_law_s_parts) (by decide +kernel)) (fun _ _ _ _ _ => (pdc_name (i := 4) (pg_name nd rfl (by first | exact Or.inl rfl | exact Or.inr rfl)))) (fun _ _ _ _ _ => pdts_nil) (fun _ _ _ _ _ => (pd_op od_mulW (pd_neg (pd_ix (pdv 0) pd_int)) (pd_callTy bd_int rfl T.n_int bt_int (pda_cons (pd_cmp (od_in (u65 hr)) (pdv 6) (pd_ix (pdv 4) pd_int)) pda_nil))))))
      (psds_cons (psd_setIx (pv 7) (pdv 6) (pd_op od_mulW (pd_ix (pdv 0) pd_int) (pd_ix (pdv 3) (pdv 6))))
      (psds_one (psd_expr (pd_m PySem.F.plainAttrs_list PySem.F.slot_list_append PySem.F.type_list_append md_append (pv 5) (pda_cons (pd_op od_add (pdv 7) (pd_lst (pda_cons (pd_ix (pd_ix (pdv 1) (pdv 6)) pd_int) pda_nil))) pda_nil)))))))
      (psds_cons (psd_setD (i := 8) nd rfl (by first | exact Or.inl rfl | exact Or.inr rfl) pd_int)
      (psds_cons (psd_for PassesOwn.never rfl (pdi_rng1 rfl T.n_range (pda_cons (pdv 2) pda_nil)) (pdg_name (i := 9) nd rfl (by first | exact Or.inl rfl | exact Or.inr rfl)) (psds_cons (psd_setD (i := 10) nd rfl (by first | exact Or.inl rfl | exact Or.inr rfl) (pd_ix (pdv 5) (pdv 9)))
      (psds_cons (psd_for PassesOwn.never rfl (pdi_rng1 rfl T.n_range (pda_cons (pdv 2) pda_nil)) (pdg_name (i := 11) nd rfl (by first | exact Or.inl rfl | exact Or.inr rfl)) (psds_cons (psd_set (i := 7) nd rfl (by first | exact Or.inl rfl | exact Or.inr rfl) (pd_ix (pdv 5) (pdv 11)))
      (psds_one (psd_if (pdt_cmp (od_ne (u64 hr)) (pdv 11) (pdv 9)) (psds_one (psd_setIx (pv 5) (pdv 11) (pd_lcV [("j", 6)] rfl rfl nd (pdi_rng1 rfl T.n_range (pda_cons (pd_op od_add (pdv 2) pd_int) pda_nil)) (blkOk_by (own := [("j", 6)]) (N := n_law_s_parts) (sc := defScope s_law_s_parts) (by decide +kernel)) (fun _ _ _ _ _ => (pdc_name (i := 6) (pg_name nd rfl (by first | exact Or.inl rfl | exact Or.inr rfl)))) (fun _ _ _ _ _ => pdts_nil) (fun _ _ _ _ _ => (pd_op od_divP (pd_op od_sub (pd_op od_mulW (pd_ix (pdv 7) (pdv 6)) (pd_ix (pdv 10) (pdv 9))) (pd_op od_mulW (pd_ix (pdv 7) (pdv 9)) (pd_ix (pdv 10) (pdv 6)))) (pdv 8)))))) psds_nil))))
      (psds_one (psd_setD (i := 8) nd rfl (by first | exact Or.inl rfl | exact Or.inr rfl) (pd_ix (pdv 10) (pdv 9)))))))
      (psds_cons (psd_setLcD (i := 12) [("j", 6)] rfl rfl nd rfl rfl (sw_true rfl rfl rfl (by decide +kernel)) (pdi_rng1 rfl T.n_range (pda_cons (pdv 2) pda_nil)) (blkOk_by (own := [("j", 6)]) (N := n_law_s_parts) (sc := defScope s_law_s_parts) (by decide +kernel)) (fun _ _ _ _ _ => (pdc_name (i := 6) (pg_name nd rfl (by first | exact Or.inl rfl | exact Or.inr rfl)))) (fun _ _ _ _ _ => pdts_nil) (fun _ _ _ _ _ => (pd_op od_mulW (pd_ix (pdv 3) (pdv 6)) (pd_ix (pd_ix (pdv 5) (pdv 6)) (pdv 2)))))
      (psds_cons (psd_setD (i := 13) nd rfl (by first | exact Or.inl rfl | exact Or.inr rfl) pd_int)
      (psds_cons (psd_for PassesOwn.never rfl (pdi_seq (pdv 12)) (pdg_name (i := 14) nd rfl (by first | exact Or.inl rfl | exact Or.inr rfl)) (psds_one (psd_setD (i := 13) nd rfl (by first | exact Or.inl rfl | exact Or.inr rfl) (pd_call G_law_s_gcd (hr.mono (by decide)) (by rfl) T.g_law_s_gcd T.D_law_s_gcd.kp T.b_law_s_gcd (pda_cons (pdv 13) (pda_cons (pdv 14) pda_nil))))))
      (psds_one (psd_ret (pd_callTy bd_tuple rfl T.n_tuple bt_tuple (pda_cons (pd_lcV [("number", 14)] rfl rfl nd (pdi_seq (pdv 12)) (blkOk_by (own := [("number", 14)]) (N := n_law_s_parts) (sc := defScope s_law_s_parts) (by decide +kernel)) (fun _ _ _ _ _ => (pdc_name (i := 14) (pg_name nd rfl (by first | exact Or.inl rfl | exact Or.inr rfl)))) (fun _ _ _ _ _ => pdts_nil) (fun _ _ _ _ _ => (pd_op od_divP (pdv 14) (pdv 13)))) pda_nil)))))))))))))
theorem ok_law_s_fault (T : Tx K mg) (G_law_s_gcd : FnOk P w K mg base CX0 1 T.f_law_s_gcd T.d_law_s_gcd p_law_s_gcd (spD K ([], []) 2 sp_law_s_gcd)) (G_law_s_holds : FnOk P w K mg base CX0 1 T.f_law_s_holds T.d_law_s_holds p_law_s_holds (spD K ([], []) 4 sp_law_s_holds)) (h : ∀ (args : List Sl) (Q : Sl → (Nat → Option Sl) → Prop), args.length = 3 → sp_law_s_fault args Q → t_law_s_fault { nx := fun env => Q (.d .none) (osOf env), rt := fun r env => Q r (osOf env) } (startE 6 args)) : FnOk P w K mg base CX0 2 T.f_law_s_fault T.d_law_s_fault p_law_s_fault (spD K ([], []) 3 sp_law_s_fault) := by
  refine fnd T.D_law_s_fault sc_law_s_fault rfl fun cdv A outer s H E hr => ⟨t_law_s_fault, ?_, h⟩
  have nd := sc_law_s_fault.nd
  exact (psds_cons (psd_for PassesOwn.never rfl (pdi_rng1 rfl T.n_range (pda_cons (pd_callB bd_len rfl T.n_len bt_len (pda_cons (pdv 1) pda_nil)) pda_nil)) (pdg_name (i := 3) nd rfl (by first | exact Or.inl rfl | exact Or.inr rfl)) (psds_one (psd_if (pdt_cmp (od_eq (u64 hr)) (pd_ix (pdv 2) (pdv 3)) pd_int) (psds_one (psd_ret (pd_tup (pda_cons pd_str (pda_cons (pdv 3) pda_nil))))) psds_nil)))
      (psds_cons (psd_for PassesOwn.never rfl (pdi_rng1 rfl T.n_range (pda_cons (pd_callB bd_len rfl T.n_len bt_len (pda_cons (pdv 1) pda_nil)) pda_nil)) (pdg_name (i := 3) nd rfl (by first | exact Or.inl rfl | exact Or.inr rfl)) (psds_one (psd_if (pdt_not (pdt_val (pd_call G_law_s_holds (hr.mono (by decide)) (by rfl) T.g_law_s_holds T.D_law_s_holds.kp T.b_law_s_holds (pda_cons (pdv 0) (pda_cons (pdv 1) (pda_cons (pdv 2) (pda_cons (pdv 3) pda_nil))))))) (psds_one (psd_ret (pd_tup (pda_cons pd_str (pda_cons (pdv 3) pda_nil))))) psds_nil)))
      (psds_cons (psd_setD (i := 4) nd rfl (by first | exact Or.inl rfl | exact Or.inr rfl) pd_int)
      (psds_cons (psd_for PassesOwn.never rfl (pdi_seq (pdv 2)) (pdg_name (i := 5) nd rfl (by first | exact Or.inl rfl | exact Or.inr rfl)) (psds_one (psd_setD (i := 4) nd rfl (by first | exact Or.inl rfl | exact Or.inr rfl) (pd_call G_law_s_gcd (hr.mono (by decide)) (by rfl) T.g_law_s_gcd T.D_law_s_gcd.kp T.b_law_s_gcd (pda_cons (pdv 4) (pda_cons (pdv 5) pda_nil))))))
      (psds_cons (psd_if (pdt_cmp od_gt (pdv 4) pd_int) (psds_one (psd_ret (pd_tup (pda_cons pd_str (pda_cons (pdv 4) pda_nil))))) psds_nil)
      (psds_one (psd_ret pd_non)))))))
theorem ok_law_b_changed (T : Tx K mg) (G_law_draw : FnOk P w K mg base CX0 1 T.f_law_draw T.d_law_draw p_law_draw (spD K ([0], []) 2 sp_law_draw)) (h : ∀ (args : List Sl) (Q : Sl → (Nat → Option Sl) → Prop), args.length = 2 → sp_law_b_changed args Q → t_law_b_changed { nx := fun env => Q (.d .none) (osOf env), rt := fun r env => Q r (osOf env) } (startE 7 args)) : FnOk P w K mg base CX0 2 T.f_law_b_changed T.d_law_b_changed p_law_b_changed (spD K ([0], []) 2 sp_law_b_changed) := by
  refine fnd T.D_law_b_changed sc_law_b_changed rfl fun cdv A outer s H E hr => ⟨t_law_b_changed, ?_, h⟩
  have nd := sc_law_b_changed.nd
  exact (psds_cons (psd_setD (i := 2) nd rfl (by first | exact Or.inl rfl | exact Or.inr rfl) (pd_call G_law_draw (hr.mono (by decide)) (by rfl) T.g_law_draw T.D_law_draw.kp T.b_law_draw (pda_cons (pdv 0) (pda_cons (pd_callB bd_len rfl T.n_len bt_len (pda_cons (pdv 1) pda_nil)) pda_nil))))
      (psds_cons (psd_setD (i := 3) nd rfl (by first | exact Or.inl rfl | exact Or.inr rfl) (pd_call G_law_draw (hr.mono (by decide)) (by rfl) T.g_law_draw T.D_law_draw.kp T.b_law_draw (pda_cons (pdv 0) (pda_cons (pd_callB bd_len rfl T.n_len bt_len (pda_cons (pdv 1) pda_nil)) pda_nil))))
      (psds_cons (psd_asg (pd_ix (pdv 1) (pdv 2)) (pdg_tup rfl (pdgs_cons (pdg_name (i := 4) nd rfl (by first | exact Or.inl rfl | exact Or.inr rfl)) (pdgs_cons (pdg_name (i := 5) nd rfl (by first | exact Or.inl rfl | exact Or.inr rfl)) pdgs_nil))))
      (psds_cons (psd_if (PDW.pt (pdw_or (pdt_cmp (od_eq (u64 hr)) (pdv 3) (pdv 2)) (pdw_or1 (pdt_cmp (od_eq (u64 hr)) (pd_call G_law_draw (hr.mono (by decide)) (by rfl) T.g_law_draw T.D_law_draw.kp T.b_law_draw (pda_cons (pdv 0) (pda_cons pd_int pda_nil))) pd_int)))) (psds_one (psd_setD (i := 4) nd rfl (by first | exact Or.inl rfl | exact Or.inr rfl) (pd_op od_add pd_int (pd_op od_mod (pd_callTy bd_int rfl T.n_int bt_int (pda_cons (pd_op od_add (pdv 4) (pd_call G_law_draw (hr.mono (by decide)) (by rfl) T.g_law_draw T.D_law_draw.kp T.b_law_draw (pda_cons (pdv 0) (pda_cons pd_int pda_nil)))) pda_nil)) pd_int)))) (psds_one (psd_if (pdt_cmp (od_in (u65 hr)) (pdv 3) (pdv 5)) (psds_one (psd_setD (i := 5) nd rfl (by first | exact Or.inl rfl | exact Or.inr rfl) (pd_callTy bd_tuple rfl T.n_tuple bt_tuple (pda_cons (pd_lcV [("k", 6)] rfl rfl nd (pdi_seq (pdv 5)) (blkOk_by (own := [("k", 6)]) (N := n_law_b_changed) (sc := defScope s_law_b_changed) (by decide +kernel)) (fun _ _ _ _ _ => (pdc_name (i := 6) (pg_name nd rfl (by first | exact Or.inl rfl | exact Or.inr rfl)))) (fun _ _ _ _ _ => (pdts_one (pdt_cmp (od_ne (u64 hr)) (pdv 6) (pdv 3)))) (fun _ _ _ _ _ => (pdv 6))) pda_nil)))) (psds_one (psd_setD (i := 5) nd rfl (by first | exact Or.inl rfl | exact Or.inr rfl) (pd_callTy bd_tuple rfl T.n_tuple bt_tuple (pda_cons (pd_callB bd_sorted rfl T.n_sorted bt_sorted (pda_cons (pd_op od_add (pd_callTy bd_list rfl T.n_list bt_list (pda_cons (pdv 5) pda_nil)) (pd_lst (pda_cons (pdv 3) pda_nil))) pda_nil)) pda_nil)))))))
      (psds_one (psd_ret (pd_op od_add (pd_op od_add (pd_slice (pdv 1) pdo_none (pdo_some (pdv 2))) (pd_tup (pda_cons (pd_tup (pda_cons (pdv 4) (pda_cons (pdv 5) pda_nil))) pda_nil))) (pd_slice (pdv 1) (pdo_some (pd_op od_add (pdv 2) pd_int)) pdo_none))))))))
theorem ok_law_few_links (T : Tx K mg) (G_law_draw : FnOk P w K mg base CX0 1 T.f_law_draw T.d_law_draw p_law_draw (spD K ([0], []) 2 sp_law_draw)) (h : ∀ (args : List Sl) (Q : Sl → (Nat → Option Sl) → Prop), args.length = 1 → sp_law_few_links args Q → t_law_few_links { nx := fun env => Q (.d .none) (osOf env), rt := fun r env => Q r (osOf env) } (startE 7 args)) : FnOk P w K mg base CX0 2 T.f_law_few_links T.d_law_few_links p_law_few_links (spD K ([0], []) 1 sp_law_few_links) := by
  refine fnd T.D_law_few_links sc_law_few_links rfl fun cdv A outer s H E hr => ⟨t_law_few_links, ?_, h⟩
  have nd := sc_law_few_links.nd
  exact (psds_cons (psd_setD (i := 1) nd rfl (by first | exact Or.inl rfl | exact Or.inr rfl) (pd_op od_add pd_int (pd_call G_law_draw (hr.mono (by decide)) (by rfl) T.g_law_draw T.D_law_draw.kp T.b_law_draw (pda_cons (pdv 0) (pda_cons pd_int pda_nil)))))
      (psds_cons (psd_set (i := 2) nd rfl (by first | exact Or.inl rfl | exact Or.inr rfl) (pd_lst pda_nil))
      (psds_cons (psd_for PassesOwn.never rfl (pdi_rng1 rfl T.n_range (pda_cons (pdv 1) pda_nil)) (pdg_name (i := 3) nd rfl (by first | exact Or.inl rfl | exact Or.inr rfl)) (psds_cons (psd_setD (i := 4) nd rfl (by first | exact Or.inl rfl | exact Or.inr rfl) (pd_sortSet rfl rfl T.n_sorted rfl T.n_set (pda_cons (pd_lcV [("k", 5)] rfl rfl nd (pdi_rng1 rfl T.n_range (pda_cons (pd_call G_law_draw (hr.mono (by decide)) (by rfl) T.g_law_draw T.D_law_draw.kp T.b_law_draw (pda_cons (pdv 0) (pda_cons pd_int pda_nil))) pda_nil)) (blkOk_by (own := [("k", 5)]) (N := n_law_few_links) (sc := defScope s_law_few_links) (by decide +kernel)) (fun _ _ _ _ _ => (pdc_name (i := 5) (pg_name nd rfl (by first | exact Or.inl rfl | exact Or.inr rfl)))) (fun _ _ _ _ _ => pdts_nil) (fun _ _ _ _ _ => (pd_call G_law_draw (hr.mono (by decide)) (by rfl) T.g_law_draw T.D_law_draw.kp T.b_law_draw (pda_cons (pdv 0) (pda_cons (pdv 1) pda_nil))))) pda_nil)))
      (psds_one (psd_expr (pd_m PySem.F.plainAttrs_list PySem.F.slot_list_append PySem.F.type_list_append md_append (pv 2) (pda_cons (pd_tup (pda_cons (pd_op od_add pd_int (pd_call G_law_draw (hr.mono (by decide)) (by rfl) T.g_law_draw T.D_law_draw.kp T.b_law_draw (pda_cons (pdv 0) (pda_cons pd_int pda_nil)))) (pda_cons (pd_callTy bd_tuple rfl T.n_tuple bt_tuple (pda_cons (pd_lcV [("j", 6)] rfl rfl nd (pdi_seq (pdv 4)) (blkOk_by (own := [("j", 6)]) (N := n_law_few_links) (sc := defScope s_law_few_links) (by decide +kernel)) (fun _ _ _ _ _ => (pdc_name (i := 6) (pg_name nd rfl (by first | exact Or.inl rfl | exact Or.inr rfl)))) (fun _ _ _ _ _ => (pdts_one (pdt_cmp (od_ne (u64 hr)) (pdv 6) (pdv 3)))) (fun _ _ _ _ _ => (pdv 6))) pda_nil)) pda_nil))) pda_nil))))))
      (psds_one (psd_ret (pd_callTy bd_tuple rfl T.n_tuple bt_tuple (pda_cons (pdv 2) pda_nil)))))))
theorem ok_law_moved (T : Tx K mg) (G_law_draw : FnOk P w K mg base CX0 1 T.f_law_draw T.d_law_draw p_law_draw (spD K ([0], []) 2 sp_law_draw)) (h : ∀ (args : List Sl) (Q : Sl → (Nat → Option Sl) → Prop), args.length = 2 → sp_law_moved args Q → t_law_moved { nx := fun env => Q (.d .none) (osOf env), rt := fun r env => Q r (osOf env) } (startE 4 args)) : FnOk P w K mg base CX0 2 T.f_law_moved T.d_law_moved p_law_moved (spD K ([0], []) 2 sp_law_moved) := by
  refine fnd T.D_law_moved sc_law_moved rfl fun cdv A outer s H E hr => ⟨t_law_moved, ?_, h⟩
  have nd := sc_law_moved.nd
  exact (psds_cons (psd_set (i := 2) nd rfl (by first | exact Or.inl rfl | exact Or.inr rfl) (pd_callTy bd_list rfl T.n_list bt_list (pda_cons (pdv 1) pda_nil)))
      (psds_cons (psd_setD (i := 3) nd rfl (by first | exact Or.inl rfl | exact Or.inr rfl) (pd_call G_law_draw (hr.mono (by decide)) (by rfl) T.g_law_draw T.D_law_draw.kp T.b_law_draw (pda_cons (pdv 0) (pda_cons (pd_callB bd_len rfl T.n_len bt_len (pda_cons (pdv 2) pda_nil)) pda_nil))))
      (psds_cons (psd_setIx (pv 2) (pdv 3) (pd_op od_add (pd_ix (pdv 2) (pdv 3)) pd_int))
      (psds_cons (psd_setD (i := 3) nd rfl (by first | exact Or.inl rfl | exact Or.inr rfl) (pd_call G_law_draw (hr.mono (by decide)) (by rfl) T.g_law_draw T.D_law_draw.kp T.b_law_draw (pda_cons (pdv 0) (pda_cons (pd_callB bd_len rfl T.n_len bt_len (pda_cons (pdv 2) pda_nil)) pda_nil))))
      (psds_cons (psd_if (pdt_cmp od_gt (pd_ix (pdv 2) (pdv 3)) pd_int) (psds_one (psd_setIx (pv 2) (pdv 3) (pd_op od_sub (pd_ix (pdv 2) (pdv 3)) pd_int))) psds_nil)
      (psds_one (psd_ret (pd_callTy bd_tuple rfl T.n_tuple bt_tuple (pda_cons (pdv 2) pda_nil)))))))))
theorem ok_holds (T : Tx K mg) (G_start_sum : FnOk P w K mg base CX0 1 T.f_start_sum T.d_start_sum p_start_sum (spD K ([], []) 1 sp_start_sum)) (G_dead_ends : FnOk P w K mg base CX0 1 T.f_dead_ends T.d_dead_ends p_dead_ends (spD K ([], []) 1 sp_dead_ends)) (G_common_multiple : FnOk P w K mg base CX0 1 T.f_common_multiple T.d_common_multiple p_common_multiple (spD K ([], []) 1 sp_common_multiple)) (G_arriving : FnOk P w K mg base CX0 2 T.f_arriving T.d_arriving p_arriving (spD K ([], []) 4 sp_arriving)) (h : ∀ (args : List Sl) (Q : Sl → (Nat → Option Sl) → Prop), args.length = 4 → sp_holds args Q → t_holds { nx := fun env => Q (.d .none) (osOf env), rt := fun r env => Q r (osOf env) } (startE 12 args)) : FnOk P w K mg base CX0 3 T.f_holds T.d_holds p_holds (spD K ([], []) 4 sp_holds) := by
  refine fnd T.D_holds sc_holds rfl fun cdv A outer s H E hr => ⟨t_holds, ?_, h⟩
  have nd := sc_holds.nd
  exact (psds_cons (psd_asg (pdv 0) (pdg_tup rfl (pdgs_cons (pdg_name (i := 4) nd rfl (by first | exact Or.inl rfl | exact Or.inr rfl)) (pdgs_cons (pdg_name (i := 5) nd rfl (by first | exact Or.inl rfl | exact Or.inr rfl)) pdgs_nil))))
      (psds_cons (psd_par (i := 6) (j := 7) rfl nd rfl rfl rfl rfl (pda_cons (pd_call G_start_sum (hr.mono (by decide)) (by rfl) T.g_start_sum T.D_start_sum.kp T.b_start_sum (pda_cons (pdv 1) pda_nil)) (pda_cons (pd_call G_common_multiple (hr.mono (by decide)) (by rfl) T.g_common_multiple T.D_common_multiple.kp T.b_common_multiple (pda_cons (pdv 1) pda_nil)) pda_nil)))
      (psds_cons (psd_setD (i := 8) nd rfl (by first | exact Or.inl rfl | exact Or.inr rfl) (pd_callB (bd_sumA rfl) rfl T.n_sum bt_sum (pda_cons (pd_lcV [("other", 9)] rfl rfl nd (pdi_seq (pd_call G_dead_ends (hr.mono (by decide)) (by rfl) T.g_dead_ends T.D_dead_ends.kp T.b_dead_ends (pda_cons (pdv 1) pda_nil))) (blkOk_by (own := [("other", 9)]) (N := n_holds) (sc := defScope s_holds) (by decide +kernel)) (fun _ _ _ _ _ => (pdc_name (i := 9) (pg_name nd rfl (by first | exact Or.inl rfl | exact Or.inr rfl)))) (fun _ _ _ _ _ => pdts_nil) (fun _ _ _ _ _ => (pd_ix (pdv 2) (pdv 9)))) pda_nil)))
      (psds_cons (psd_setD (i := 10) nd rfl (by first | exact Or.inl rfl | exact Or.inr rfl) (pd_op od_mulW (pd_op od_mulW (pd_ix (pd_ix (pdv 1) (pdv 3)) pd_int) (pdv 7)) (pd_op od_add (pd_op od_mulW (pd_op od_sub (pdv 5) (pdv 4)) (pd_callB (bd_sumA rfl) rfl T.n_sum bt_sum (pda_cons (pdv 2) pda_nil))) (pd_op od_mulW (pdv 4) (pdv 8)))))
      (psds_cons (psd_setD (i := 11) nd rfl (by first | exact Or.inl rfl | exact Or.inr rfl) (pd_op od_mulW (pd_op od_mulW (pdv 4) (pdv 6)) (pd_call G_arriving (hr.mono (by decide)) (by rfl) T.g_arriving T.D_arriving.kp T.b_arriving (pda_cons (pdv 1) (pda_cons (pdv 2) (pda_cons (pdv 7) (pda_cons (pdv 3) pda_nil)))))))
      (psds_one (psd_ret (pd_cmp (od_eq (u64 hr)) (pd_op od_mulW (pd_op od_mulW (pd_op od_mulW (pdv 5) (pdv 6)) (pdv 7)) (pd_ix (pdv 2) (pdv 3))) (pd_op od_add (pdv 11) (pdv 10))))))))))
theorem ok_law_b_follow (T : Tx K mg) (G_law_draw : FnOk P w K mg base CX0 1 T.f_law_draw T.d_law_draw p_law_draw (spD K ([0], []) 2 sp_law_draw)) (G_law_pick : FnOk P w K mg base CX0 2 T.f_law_pick T.d_law_pick p_law_pick (spD K ([0], []) 2 sp_law_pick)) (G_law_s_lowest : FnOk P w K mg base CX0 2 T.f_law_s_lowest T.d_law_s_lowest p_law_s_lowest (spD K ([], []) 2 sp_law_s_lowest)) (h : ∀ (args : List Sl) (Q : Sl → (Nat → Option Sl) → Prop), args.length = 1 → sp_law_b_follow args Q → t_law_b_follow { nx := fun env => Q (.d .none) (osOf env), rt := fun r env => Q r (osOf env) } (startE 2 args)) : FnOk P w K mg base CX0 3 T.f_law_b_follow T.d_law_b_follow p_law_b_follow (spD K ([0], []) 1 sp_law_b_follow) := by
  refine fnd T.D_law_b_follow sc_law_b_follow rfl fun cdv A outer s H E hr => ⟨t_law_b_follow, ?_, h⟩
  have nd := sc_law_b_follow.nd
  exact (psds_cons (psd_setD (i := 1) nd rfl (by first | exact Or.inl rfl | exact Or.inr rfl) (pd_call G_law_pick (hr.mono (by decide)) (by rfl) T.g_law_pick T.D_law_pick.kp T.b_law_pick (pda_cons (pdv 0) (pda_cons (pd_lst (pda_cons pd_int (pda_cons pd_int (pda_cons pd_int (pda_cons pd_int (pda_cons pd_int (pda_cons (pd_op od_add pd_int (pd_call G_law_draw (hr.mono (by decide)) (by rfl) T.g_law_draw T.D_law_draw.kp T.b_law_draw (pda_cons (pdv 0) (pda_cons pd_int pda_nil)))) pda_nil))))))) pda_nil))))
      (psds_one (psd_ret (pd_call G_law_s_lowest (hr.mono (by decide)) (by rfl) T.g_law_s_lowest T.D_law_s_lowest.kp T.b_law_s_lowest (pda_cons (pd_op od_add pd_int (pd_call G_law_draw (hr.mono (by decide)) (by rfl) T.g_law_draw T.D_law_draw.kp T.b_law_draw (pda_cons (pdv 0) (pda_cons (pd_op od_sub (pdv 1) pd_int) pda_nil)))) (pda_cons (pdv 1) pda_nil))))))
theorem ok_law_b_web (T : Tx K mg) (G_law_draw : FnOk P w K mg base CX0 1 T.f_law_draw T.d_law_draw p_law_draw (spD K ([0], []) 2 sp_law_draw)) (G_law_pick : FnOk P w K mg base CX0 2 T.f_law_pick T.d_law_pick p_law_pick (spD K ([0], []) 2 sp_law_pick)) (h : ∀ (args : List Sl) (Q : Sl → (Nat → Option Sl) → Prop), args.length = 2 → sp_law_b_web args Q → t_law_b_web { nx := fun env => Q (.d .none) (osOf env), rt := fun r env => Q r (osOf env) } (startE 10 args)) : FnOk P w K mg base CX0 3 T.f_law_b_web T.d_law_b_web p_law_b_web (spD K ([0], []) 2 sp_law_b_web) := by
  refine fnd T.D_law_b_web sc_law_b_web rfl fun cdv A outer s H E hr => ⟨t_law_b_web, ?_, h⟩
  have nd := sc_law_b_web.nd
  exact (psds_cons (psd_setD (i := 2) nd rfl (by first | exact Or.inl rfl | exact Or.inr rfl) (pd_call G_law_draw (hr.mono (by decide)) (by rfl) T.g_law_draw T.D_law_draw.kp T.b_law_draw (pda_cons (pdv 0) (pda_cons pd_int pda_nil))))
      (psds_cons (psd_setD (i := 3) nd rfl (by first | exact Or.inl rfl | exact Or.inr rfl) (pd_call G_law_pick (hr.mono (by decide)) (by rfl) T.g_law_pick T.D_law_pick.kp T.b_law_pick (pda_cons (pdv 0) (pda_cons (pd_lst (pda_cons pd_int (pda_cons pd_int (pda_cons pd_int (pda_cons pd_int pda_nil))))) pda_nil))))
      (psds_cons (psd_setD (i := 4) nd rfl (by first | exact Or.inl rfl | exact Or.inr rfl) (pd_call G_law_draw (hr.mono (by decide)) (by rfl) T.g_law_draw T.D_law_draw.kp T.b_law_draw (pda_cons (pdv 0) (pda_cons (pdv 1) pda_nil))))
      (psds_cons (psd_set (i := 5) nd rfl (by first | exact Or.inl rfl | exact Or.inr rfl) (pd_lst pda_nil))
      (psds_cons (psd_for PassesOwn.never rfl (pdi_rng1 rfl T.n_range (pda_cons (pdv 1) pda_nil)) (pdg_name (i := 6) nd rfl (by first | exact Or.inl rfl | exact Or.inr rfl)) (psds_cons (psd_setLcD (i := 7) [("j", 8)] rfl rfl nd rfl rfl (sw_true rfl rfl rfl (by decide +kernel)) (pdi_rng1 rfl T.n_range (pda_cons (pdv 1) pda_nil)) (blkOk_by (own := [("j", 8)]) (N := n_law_b_web) (sc := defScope s_law_b_web) (by decide +kernel)) (fun _ _ _ _ _ => (pdc_name (i := 8) (pg_name nd rfl (by first | exact Or.inl rfl | exact Or.inr rfl)))) (fun _ _ _ _ _ => (pdts_one (pdt_cmp (od_ne (u64 hr)) (pdv 8) (pdv 6)))) (fun _ _ _ _ _ => (pdv 8)))
      (psds_cons (psd_setLcD (i := 9) [("j", 8)] rfl rfl nd rfl rfl (sw_true rfl rfl rfl (by decide +kernel)) (pdi_seq (pdv 7)) (blkOk_by (own := [("j", 8)]) (N := n_law_b_web) (sc := defScope s_law_b_web) (by decide +kernel)) (fun _ _ _ _ _ => (pdc_name (i := 8) (pg_name nd rfl (by first | exact Or.inl rfl | exact Or.inr rfl)))) (fun _ _ _ _ _ => (pdts_one (pdt_cmp (od_eq (u64 hr)) (pd_call G_law_draw (hr.mono (by decide)) (by rfl) T.g_law_draw T.D_law_draw.kp T.b_law_draw (pda_cons (pdv 0) (pda_cons pd_int pda_nil))) pd_int))) (fun _ _ _ _ _ => (pdv 8)))
      (psds_cons (psd_if (pdt_cmp (od_eq (u64 hr)) (pdv 2) pd_int) (psds_one (psd_setLcD (i := 9) [("j", 8)] rfl rfl nd rfl rfl (sw_true rfl rfl rfl (by decide +kernel)) (pdi_seq (pdv 7)) (blkOk_by (own := [("j", 8)]) (N := n_law_b_web) (sc := defScope s_law_b_web) (by decide +kernel)) (fun _ _ _ _ _ => (pdc_name (i := 8) (pg_name nd rfl (by first | exact Or.inl rfl | exact Or.inr rfl)))) (fun _ _ _ _ _ => (pdts_one (pdt_cmp (od_eq (u64 hr)) (pdv 8) (pd_op od_mod (pd_callTy bd_int rfl T.n_int bt_int (pda_cons (pd_op od_add (pdv 6) pd_int) pda_nil)) (pdv 1))))) (fun _ _ _ _ _ => (pdv 8)))) (psds_one (psd_if (PDW.pt (pdw_and (pdt_cmp (od_eq (u64 hr)) (pdv 2) pd_int) (pdw_and1 (pdt_cmp (od_ne (u64 hr)) (pdv 6) (pdv 4))))) (psds_one (psd_setD (i := 9) nd rfl (by first | exact Or.inl rfl | exact Or.inr rfl) (pd_lst (pda_cons (pdv 4) pda_nil)))) (psds_one (psd_if (pdt_cmp (od_eq (u64 hr)) (pdv 2) pd_int) (psds_one (psd_setD (i := 9) nd rfl (by first | exact Or.inl rfl | exact Or.inr rfl) (pdv 7))) (psds_one (psd_if (pdt_cmp (od_eq (u64 hr)) (pdv 2) pd_int) (psds_one (psd_setLcD (i := 9) [("j", 8)] rfl rfl nd rfl rfl (sw_true rfl rfl rfl (by decide +kernel)) (pdi_seq (pdv 7)) (blkOk_by (own := [("j", 8)]) (N := n_law_b_web) (sc := defScope s_law_b_web) (by decide +kernel)) (fun _ _ _ _ _ => (pdc_name (i := 8) (pg_name nd rfl (by first | exact Or.inl rfl | exact Or.inr rfl)))) (fun _ _ _ _ _ => (pdts_one (pdt_cmp (od_eq (u64 hr)) (pd_op od_divP (pdv 8) pd_int) (pd_op od_divP (pdv 6) pd_int)))) (fun _ _ _ _ _ => (pdv 8)))) (psds_one (psd_if (pdt_cmp (od_eq (u64 hr)) (pdv 2) pd_int) (psds_one (psd_setLcD (i := 9) [("j", 8)] rfl rfl nd rfl rfl (sw_true rfl rfl rfl (by decide +kernel)) (pdi_seq (pdv 9)) (blkOk_by (own := [("j", 8)]) (N := n_law_b_web) (sc := defScope s_law_b_web) (by decide +kernel)) (fun _ _ _ _ _ => (pdc_name (i := 8) (pg_name nd rfl (by first | exact Or.inl rfl | exact Or.inr rfl)))) (fun _ _ _ _ _ => (pdts_one (pdt_cmp (od_ne (u64 hr)) (pdv 8) (pdv 4)))) (fun _ _ _ _ _ => (pdv 8)))) psds_nil)))))))))
      (psds_cons (psd_if (PDW.pt (pdw_and (pdt_cmp (od_in (u65 hr)) (pdv 2) (pd_lst (pda_cons pd_int (pda_cons pd_int (pda_cons pd_int pda_nil))))) (pdw_and1 (pdt_cmp (od_eq (u64 hr)) (pd_callB bd_len rfl T.n_len bt_len (pda_cons (pdv 9) pda_nil)) pd_int)))) (psds_one (psd_setD (i := 9) nd rfl (by first | exact Or.inl rfl | exact Or.inr rfl) (pd_slice (pd_lcV [("j", 8)] rfl rfl nd (pdi_seq (pdv 7)) (blkOk_by (own := [("j", 8)]) (N := n_law_b_web) (sc := defScope s_law_b_web) (by decide +kernel)) (fun _ _ _ _ _ => (pdc_name (i := 8) (pg_name nd rfl (by first | exact Or.inl rfl | exact Or.inr rfl)))) (fun _ _ _ _ _ => (pdts_one (PDW.pt (pdw_or (pdt_cmp (od_ne (u64 hr)) (pdv 8) (pdv 4)) (pdw_or1 (pdt_cmp od_gt (pdv 2) pd_int)))))) (fun _ _ _ _ _ => (pdv 8))) pdo_none (pdo_some pd_int)))) psds_nil)
      (psds_one (psd_expr (pd_m PySem.F.plainAttrs_list PySem.F.slot_list_append PySem.F.type_list_append md_append (pv 5) (pda_cons (pd_tup (pda_cons (pd_op od_add pd_int (pd_call G_law_draw (hr.mono (by decide)) (by rfl) T.g_law_draw T.D_law_draw.kp T.b_law_draw (pda_cons (pdv 0) (pda_cons (pdv 3) pda_nil)))) (pda_cons (pd_callTy bd_tuple rfl T.n_tuple bt_tuple (pda_cons (pdv 9) pda_nil)) pda_nil))) pda_nil)))))))))
      (psds_one (psd_ret (pd_callTy bd_tuple rfl T.n_tuple bt_tuple (pda_cons (pdv 5) pda_nil)))))))))
theorem ok_law_bent (T : Tx K mg) (G_law_draw : FnOk P w K mg base CX0 1 T.f_law_draw T.d_law_draw p_law_draw (spD K ([0], []) 2 sp_law_draw)) (G_law_pick : FnOk P w K mg base CX0 2 T.f_law_pick T.d_law_pick p_law_pick (spD K ([0], []) 2 sp_law_pick)) (G_law_moved : FnOk P w K mg base CX0 2 T.f_law_moved T.d_law_moved p_law_moved (spD K ([0], []) 2 sp_law_moved)) (G_law_last_two : FnOk P w K mg base CX0 1 T.f_law_last_two T.d_law_last_two p_law_last_two (spD K ([], []) 1 sp_law_last_two)) (h : ∀ (args : List Sl) (Q : Sl → (Nat → Option Sl) → Prop), args.length = 2 → sp_law_bent args Q → t_law_bent { nx := fun env => Q (.d .none) (osOf env), rt := fun r env => Q r (osOf env) } (startE 12 args)) : FnOk P w K mg base CX0 3 T.f_law_bent T.d_law_bent p_law_bent (spD K ([0], []) 2 sp_law_bent) := by
  refine fnd T.D_law_bent sc_law_bent rfl fun cdv A outer s H E hr => ⟨t_law_bent, ?_, h⟩
  have nd := sc_law_bent.nd
  exact (psds_cons (psd_setD (i := 2) nd rfl (by first | exact Or.inl rfl | exact Or.inr rfl) (pd_callB bd_len rfl T.n_len bt_len (pda_cons (pdv 1) pda_nil)))
      (psds_cons (psd_setD (i := 3) nd rfl (by first | exact Or.inl rfl | exact Or.inr rfl) (pd_call G_law_pick (hr.mono (by decide)) (by rfl) T.g_law_pick T.D_law_pick.kp T.b_law_pick (pda_cons (pdv 0) (pda_cons (pd_lst (pda_cons pd_int (pda_cons pd_int (pda_cons pd_int (pda_cons pd_int pda_nil))))) pda_nil))))
      (psds_cons (psd_setD (i := 4) nd rfl (by first | exact Or.inl rfl | exact Or.inr rfl) (pd_callTy bd_tuple rfl T.n_tuple bt_tuple (pda_cons (pd_lcV [("number", 5)] rfl rfl nd (pdi_seq (pdv 1)) (blkOk_by (own := [("number", 5)]) (N := n_law_bent) (sc := defScope s_law_bent) (by decide +kernel)) (fun _ _ _ _ _ => (pdc_name (i := 5) (pg_name nd rfl (by first | exact Or.inl rfl | exact Or.inr rfl)))) (fun _ _ _ _ _ => pdts_nil) (fun _ _ _ _ _ => (pd_op od_mulW (pdv 5) (pdv 3)))) pda_nil)))
      (psds_cons (psd_set (i := 6) nd rfl (by first | exact Or.inl rfl | exact Or.inr rfl) (pd_lst (pda_cons (pdv 1) (pda_cons (pdv 4) (pda_cons (pd_call G_law_moved (hr.mono (by decide)) (by rfl) T.g_law_moved T.D_law_moved.kp T.b_law_moved (pda_cons (pdv 0) (pda_cons (pdv 1) pda_nil))) (pda_cons (pd_call G_law_last_two (hr.mono (by decide)) (by rfl) T.g_law_last_two T.D_law_last_two.kp T.b_law_last_two (pda_cons (pdv 1) pda_nil)) (pda_cons (pd_call G_law_last_two (hr.mono (by decide)) (by rfl) T.g_law_last_two T.D_law_last_two.kp T.b_law_last_two (pda_cons (pdv 4) pda_nil)) (pda_cons (pd_call G_law_moved (hr.mono (by decide)) (by rfl) T.g_law_moved T.D_law_moved.kp T.b_law_moved (pda_cons (pdv 0) (pda_cons (pdv 4) pda_nil))) pda_nil))))))))
      (psds_cons (psd_for PassesOwn.never rfl (pdi_seq (pd_lst (pda_cons pd_int (pda_cons (pd_neg pd_int) pda_nil)))) (pdg_name (i := 7) nd rfl (by first | exact Or.inl rfl | exact Or.inr rfl)) (psds_cons (psd_setD (i := 8) nd rfl (by first | exact Or.inl rfl | exact Or.inr rfl) (pd_call G_law_draw (hr.mono (by decide)) (by rfl) T.g_law_draw T.D_law_draw.kp T.b_law_draw (pda_cons (pdv 0) (pda_cons (pdv 2) pda_nil))))
      (psds_one (psd_expr (pd_m PySem.F.plainAttrs_list PySem.F.slot_list_append PySem.F.type_list_append md_append (pv 6) (pda_cons (pd_op od_add (pd_op od_add (pd_slice (pdv 1) pdo_none (pdo_some (pdv 8))) (pd_tup (pda_cons (pd_op od_add (pd_ix (pdv 1) (pdv 8)) (pdv 7)) pda_nil))) (pd_slice (pdv 1) (pdo_some (pd_op od_add (pdv 8) pd_int)) pdo_none)) pda_nil))))))
      (psds_cons (psd_set (i := 9) nd rfl (by first | exact Or.inl rfl | exact Or.inr rfl) (pd_callTy bd_list rfl T.n_list bt_list (pda_cons (pdv 1) pda_nil)))
      (psds_cons (psd_setD (i := 10) nd rfl (by first | exact Or.inl rfl | exact Or.inr rfl) (pd_call G_law_draw (hr.mono (by decide)) (by rfl) T.g_law_draw T.D_law_draw.kp T.b_law_draw (pda_cons (pdv 0) (pda_cons (pdv 2) pda_nil))))
      (psds_cons (psd_setD (i := 11) nd rfl (by first | exact Or.inl rfl | exact Or.inr rfl) (pd_call G_law_draw (hr.mono (by decide)) (by rfl) T.g_law_draw T.D_law_draw.kp T.b_law_draw (pda_cons (pdv 0) (pda_cons (pdv 2) pda_nil))))
      (psds_cons (psd_swap rfl (pv 9) (pv 9) (pv 10) (pv 11) (pd_tup (pda_cons (pd_ix (pdv 1) (pdv 11)) (pda_cons (pd_ix (pdv 1) (pdv 10)) pda_nil))))
      (psds_cons (psd_set (i := 6) nd rfl (by first | exact Or.inl rfl | exact Or.inr rfl) (pd_op od_add (pdv 6) (pd_lst (pda_cons (pd_callTy bd_tuple rfl T.n_tuple bt_tuple (pda_cons (pdv 9) pda_nil)) (pda_cons (pd_op od_add (pd_op od_add (pd_slice (pdv 1) pdo_none (pdo_some (pdv 11))) (pd_tup (pda_cons pd_int pda_nil))) (pd_slice (pdv 1) (pdo_some (pd_op od_add (pdv 11) pd_int)) pdo_none)) pda_nil)))))
      (psds_cons (psd_expr (pd_m PySem.F.plainAttrs_list PySem.F.slot_list_append PySem.F.type_list_append md_append (pv 6) (pda_cons (pd_callTy bd_tuple rfl T.n_tuple bt_tuple (pda_cons (pd_lcV [("number", 5)] rfl rfl nd (pdi_seq (pdv 4)) (blkOk_by (own := [("number", 5)]) (N := n_law_bent) (sc := defScope s_law_bent) (by decide +kernel)) (fun _ _ _ _ _ => (pdc_name (i := 5) (pg_name nd rfl (by first | exact Or.inl rfl | exact Or.inr rfl)))) (fun _ _ _ _ _ => pdts_nil) (fun _ _ _ _ _ => (pd_op od_mulW (pdv 5) (pd_callTy bd_int rfl T.n_int bt_int (pda_cons (pd_cmp od_gt (pd_call G_law_draw (hr.mono (by decide)) (by rfl) T.g_law_draw T.D_law_draw.kp T.b_law_draw (pda_cons (pdv 0) (pda_cons pd_int pda_nil))) pd_int) pda_nil))))) pda_nil)) pda_nil)))
      (psds_one (psd_ret (pd_op od_add (pdv 6) (pd_lst (pda_cons (pd_callTy bd_tuple rfl T.n_tuple bt_tuple (pda_cons (pd_repV (pda_cons pd_int pda_nil) (pv 2)) pda_nil)) (pda_cons (pd_callTy bd_tuple rfl T.n_tuple bt_tuple (pda_cons (pd_repV (pda_cons pd_int pda_nil) (pv 2)) pda_nil)) pda_nil)))))))))))))))))
theorem ok_law_cases (T : Tx K mg) (G_law_s_fault : FnOk P w K mg base CX0 2 T.f_law_s_fault T.d_law_s_fault p_law_s_fault (spD K ([], []) 3 sp_law_s_fault)) (h : ∀ (args : List Sl) (Q : Sl → (Nat → Option Sl) → Prop), args.length = 3 → sp_law_cases args Q → t_law_cases { nx := fun env => Q (.d .none) (osOf env), rt := fun r env => Q r (osOf env) } (startE 4 args)) : FnOk P w K mg base CX0 3 T.f_law_cases T.d_law_cases p_law_cases (spD K ([], []) 3 sp_law_cases) := by
  refine fnd T.D_law_cases sc_law_cases rfl fun cdv A outer s H E hr => ⟨t_law_cases, ?_, h⟩
  have nd := sc_law_cases.nd
  exact (psds_one (psd_ret (pd_lcV [("numbers", 3)] rfl rfl nd (pdi_seq (pdv 2)) (blkOk_by (own := [("numbers", 3)]) (N := n_law_cases) (sc := defScope s_law_cases) (by decide +kernel)) (fun _ _ _ _ _ => (pdc_name (i := 3) (pg_name nd rfl (by first | exact Or.inl rfl | exact Or.inr rfl)))) (fun _ _ _ _ _ => pdts_nil) (fun _ _ _ _ _ => (pd_tup (pda_cons (pdv 0) (pda_cons (pdv 1) (pda_cons (pdv 3) (pda_cons (pd_call G_law_s_fault (hr.mono (by decide)) (by rfl) T.g_law_s_fault T.D_law_s_fault.kp T.b_law_s_fault (pda_cons (pdv 0) (pda_cons (pdv 1) (pda_cons (pdv 3) pda_nil)))) pda_nil)))))))))
theorem ok_judge (T : Tx K mg) (G_common_divisor : FnOk P w K mg base CX0 1 T.f_common_divisor T.d_common_divisor p_common_divisor (spD K ([], []) 1 sp_common_divisor)) (G_holds : FnOk P w K mg base CX0 3 T.f_holds T.d_holds p_holds (spD K ([], []) 4 sp_holds)) (h : ∀ (args : List Sl) (Q : Sl → (Nat → Option Sl) → Prop), args.length = 3 → sp_judge args Q → t_judge { nx := fun env => Q (.d .none) (osOf env), rt := fun r env => Q r (osOf env) } (startE 6 args)) : FnOk P w K mg base CX0 4 T.f_judge T.d_judge p_judge (spD K ([], []) 3 sp_judge) := by
  refine fnd T.D_judge sc_judge rfl fun cdv A outer s H E hr => ⟨t_judge, ?_, h⟩
  have nd := sc_judge.nd
  exact (psds_cons (psd_for PassesOwn.never rfl (pdi_enum2 rfl T.n_enumerate (pda_cons (pdv 2) pda_nil)) (pdg_tup rfl (pdgs_cons (pdg_name (i := 3) nd rfl (by first | exact Or.inl rfl | exact Or.inr rfl)) (pdgs_cons (pdg_name (i := 4) nd rfl (by first | exact Or.inl rfl | exact Or.inr rfl)) pdgs_nil))) (psds_one (psd_if (pdt_cmp (od_eq (u64 hr)) (pdv 4) pd_int) (psds_one (psd_ret (pd_tup (pda_cons pd_str (pda_cons (pdv 3) pda_nil))))) psds_nil)))
      (psds_cons (psd_for PassesOwn.never rfl (pdi_rng1 rfl T.n_range (pda_cons (pd_callB bd_len rfl T.n_len bt_len (pda_cons (pdv 1) pda_nil)) pda_nil)) (pdg_name (i := 3) nd rfl (by first | exact Or.inl rfl | exact Or.inr rfl)) (psds_one (psd_if (pdt_not (pdt_val (pd_call G_holds (hr.mono (by decide)) (by rfl) T.g_holds T.D_holds.kp T.b_holds (pda_cons (pdv 0) (pda_cons (pdv 1) (pda_cons (pdv 2) (pda_cons (pdv 3) pda_nil))))))) (psds_one (psd_ret (pd_tup (pda_cons pd_str (pda_cons (pdv 3) pda_nil))))) psds_nil)))
      (psds_cons (psd_setD (i := 5) nd rfl (by first | exact Or.inl rfl | exact Or.inr rfl) (pd_call G_common_divisor (hr.mono (by decide)) (by rfl) T.g_common_divisor T.D_common_divisor.kp T.b_common_divisor (pda_cons (pdv 2) pda_nil)))
      (psds_cons (psd_if (pdt_cmp od_gt (pdv 5) pd_int) (psds_one (psd_ret (pd_tup (pda_cons pd_str (pda_cons (pdv 5) pda_nil))))) psds_nil)
      (psds_one (psd_ret pd_non))))))
theorem ok_law_same (T : Tx K mg) {j : Nat} {sp_law_same sp : FD} (G_law_same : FnOk P w K mg base CX0 j T.f_law_same T.d_law_same p_law_same (spD K ([], []) 2 sp_law_same)) (h : ∀ (args : List Sl) (Q : Sl → (Nat → Option Sl) → Prop), args.length = 2 → sp args Q → t_law_same sp_law_same { nx := fun env => Q (.d .none) (osOf env), rt := fun r env => Q r (osOf env) } (startE 3 args)) : FnOk P w K mg base CX0 (j + 1) T.f_law_same T.d_law_same p_law_same (spD K ([], []) 2 sp) := by
  refine fnd T.D_law_same sc_law_same rfl fun cdv A outer s H E hr => ⟨t_law_same sp_law_same, ?_, h⟩
  have nd := sc_law_same.nd
  exact (psds_cons (psd_if (pdt_val (pd_isi isTy_tuple rfl T.n_isinstance rfl T.n_tuple bt_tuple (pdv 1))) (psds_cons (psd_if (PDW.pt (pdw_or (pdt_not (pdt_val (pd_isi isTy_tuple rfl T.n_isinstance rfl T.n_tuple bt_tuple (pdv 0)))) (pdw_or1 (pdt_cmp (od_ne (u64 hr)) (pd_callB bd_len rfl T.n_len bt_len (pda_cons (pdv 0) pda_nil)) (pd_callB bd_len rfl T.n_len bt_len (pda_cons (pdv 1) pda_nil)))))) (psds_one (psd_ret pd_bl)) psds_nil)
      (psds_cons (psd_for PassesOwn.never rfl (pdi_rng1 rfl T.n_range (pda_cons (pd_callB bd_len rfl T.n_len bt_len (pda_cons (pdv 1) pda_nil)) pda_nil)) (pdg_name (i := 2) nd rfl (by first | exact Or.inl rfl | exact Or.inr rfl)) (psds_one (psd_if (pdt_not (pdt_val (pd_call G_law_same (hr.mono (by omega)) (by rfl) T.g_law_same T.D_law_same.kp T.b_law_same (pda_cons (pd_ix (pdv 0) (pdv 2)) (pda_cons (pd_ix (pdv 1) (pdv 2)) pda_nil))))) (psds_one (psd_ret pd_bl)) psds_nil)))
      (psds_one (psd_ret pd_bl)))) psds_nil)
      (psds_cons (psd_if (PDW.pt (pdw_or (pdt_isN (pdv 1)) (pdw_or1 (pdt_isN (pdv 0))))) (psds_one (psd_ret (pd_and (pd_isN (pdv 1)) (pd_one (pd_isN (pdv 0)))))) psds_nil)
      (psds_cons (psd_if (pdt_val (pd_isi isTy_str rfl T.n_isinstance rfl T.n_str bt_str (pdv 1))) (psds_one (psd_ret (pd_and (pd_isi isTy_str rfl T.n_isinstance rfl T.n_str bt_str (pdv 0)) (pd_one (pd_cmp (od_eq (u64 hr)) (pdv 0) (pdv 1)))))) psds_nil)
      (psds_cons (psd_if (PDW.pt (pdw_or (pdt_cmp (od_ne (u64 hr)) (pd_isi isTy_bool rfl T.n_isinstance rfl T.n_bool bt_bool (pdv 0)) (pd_isi isTy_bool rfl T.n_isinstance rfl T.n_bool bt_bool (pdv 1))) (pdw_or1 (pdt_not (pdt_val (pd_isi isTy_int rfl T.n_isinstance rfl T.n_int bt_int (pdv 0))))))) (psds_one (psd_ret pd_bl)) psds_nil)
      (psds_one (psd_ret (pd_cmp (od_eq (u64 hr)) (pdv 0) (pdv 1))))))))
theorem ok_law (T : Tx K mg) (G_judge : FnOk P w K mg base CX0 4 T.f_judge T.d_judge p_judge (spD K ([], []) 3 sp_judge)) (G_law_tape : FnOk P w K mg base CX0 1 T.f_law_tape T.d_law_tape p_law_tape (spD K ([], []) 1 sp_law_tape)) (G_law_draw : FnOk P w K mg base CX0 1 T.f_law_draw T.d_law_draw p_law_draw (spD K ([0], []) 2 sp_law_draw)) (G_law_pick : FnOk P w K mg base CX0 2 T.f_law_pick T.d_law_pick p_law_pick (spD K ([0], []) 2 sp_law_pick)) (G_law_turns : FnOk P w K mg base CX0 2 T.f_law_turns T.d_law_turns p_law_turns (spD K ([0], []) 2 sp_law_turns)) (G_law_same : FnOk P w K mg base CX0 6 T.f_law_same T.d_law_same p_law_same (spD K ([], []) 2 sp_law_same)) (G_law_s_parts : FnOk P w K mg base CX0 2 T.f_law_s_parts T.d_law_s_parts p_law_s_parts (spD K ([], []) 2 sp_law_s_parts)) (G_law_b_follow : FnOk P w K mg base CX0 3 T.f_law_b_follow T.d_law_b_follow p_law_b_follow (spD K ([0], []) 1 sp_law_b_follow)) (G_law_b_web : FnOk P w K mg base CX0 3 T.f_law_b_web T.d_law_b_web p_law_b_web (spD K ([0], []) 2 sp_law_b_web)) (G_law_b_changed : FnOk P w K mg base CX0 2 T.f_law_b_changed T.d_law_b_changed p_law_b_changed (spD K ([0], []) 2 sp_law_b_changed)) (G_law_few_links : FnOk P w K mg base CX0 2 T.f_law_few_links T.d_law_few_links p_law_few_links (spD K ([0], []) 1 sp_law_few_links)) (G_law_bent : FnOk P w K mg base CX0 3 T.f_law_bent T.d_law_bent p_law_bent (spD K ([0], []) 2 sp_law_bent)) (G_law_cases : FnOk P w K mg base CX0 3 T.f_law_cases T.d_law_cases p_law_cases (spD K ([], []) 3 sp_law_cases)) (h : ∀ (args : List Sl) (Q : Sl → (Nat → Option Sl) → Prop), args.length = 1 → sp_law args Q → t_law { nx := fun env => Q (.d .none) (osOf env), rt := fun r env => Q r (osOf env) } (startE 12 args)) : FnOk P w K mg base CX0 7 T.f_law T.d_law p_law (spD K ([], []) 1 sp_law) := by
  refine fnd T.D_law sc_law rfl fun cdv A outer s H E hr => ⟨t_law, ?_, h⟩
  have nd := sc_law.nd
  exact (psds_cons (psd_set (i := 1) nd rfl (by first | exact Or.inl rfl | exact Or.inr rfl) (pd_call G_law_tape (hr.mono (by decide)) (by rfl) T.g_law_tape T.D_law_tape.kp T.b_law_tape (pda_cons (pdv 0) pda_nil)))
      (psds_cons (psd_setD (i := 2) nd rfl (by first | exact Or.inl rfl | exact Or.inr rfl) (pd_call G_law_b_follow (hr.mono (by decide)) (by rfl) T.g_law_b_follow T.D_law_b_follow.kp T.b_law_b_follow (pda_cons (pdv 1) pda_nil)))
      (psds_cons (psd_setD (i := 3) nd rfl (by first | exact Or.inl rfl | exact Or.inr rfl) (pd_call G_law_b_follow (hr.mono (by decide)) (by rfl) T.g_law_b_follow T.D_law_b_follow.kp T.b_law_b_follow (pda_cons (pdv 1) pda_nil)))
      (psds_cons (psd_setD (i := 4) nd rfl (by first | exact Or.inl rfl | exact Or.inr rfl) (pd_call G_law_b_web (hr.mono (by decide)) (by rfl) T.g_law_b_web T.D_law_b_web.kp T.b_law_b_web (pda_cons (pdv 1) (pda_cons (pd_call G_law_pick (hr.mono (by decide)) (by rfl) T.g_law_pick T.D_law_pick.kp T.b_law_pick (pda_cons (pdv 1) (pda_cons (pd_lst (pda_cons pd_int (pda_cons pd_int (pda_cons pd_int (pda_cons pd_int (pda_cons pd_int (pda_cons pd_int (pda_cons pd_int (pda_cons pd_int pda_nil))))))))) pda_nil))) pda_nil))))
      (psds_cons (psd_if (pdt_cmp (od_eq (u64 hr)) (pd_call G_law_draw (hr.mono (by decide)) (by rfl) T.g_law_draw T.D_law_draw.kp T.b_law_draw (pda_cons (pdv 1) (pda_cons pd_int pda_nil))) pd_int) (psds_cons (psd_setD (i := 4) nd rfl (by first | exact Or.inl rfl | exact Or.inr rfl) (pd_call G_law_few_links (hr.mono (by decide)) (by rfl) T.g_law_few_links T.D_law_few_links.kp T.b_law_few_links (pda_cons (pdv 1) pda_nil)))
      (psds_cons (psd_setD (i := 2) nd rfl (by first | exact Or.inl rfl | exact Or.inr rfl) (pd_call G_law_pick (hr.mono (by decide)) (by rfl) T.g_law_pick T.D_law_pick.kp T.b_law_pick (pda_cons (pdv 1) (pda_cons (pd_lst (pda_cons (pd_tup (pda_cons pd_int (pda_cons pd_int pda_nil))) (pda_cons (pd_tup (pda_cons pd_int (pda_cons pd_int pda_nil))) (pda_cons (pd_tup (pda_cons pd_int (pda_cons pd_int pda_nil))) pda_nil)))) pda_nil))))
      (psds_one (psd_setD (i := 3) nd rfl (by first | exact Or.inl rfl | exact Or.inr rfl) (pd_tup (pda_cons pd_int (pda_cons pd_int pda_nil))))))) psds_nil)
      (psds_cons (psd_if (PDW.pt (pdw_and (pdt_cmp od_gt (pd_callB bd_len rfl T.n_len bt_len (pda_cons (pdv 4) pda_nil)) pd_int) (pdw_and1 (pdt_cmp (od_eq (u64 hr)) (pd_call G_law_draw (hr.mono (by decide)) (by rfl) T.g_law_draw T.D_law_draw.kp T.b_law_draw (pda_cons (pdv 1) (pda_cons pd_int pda_nil))) pd_int)))) (psds_one (psd_setD (i := 4) nd rfl (by first | exact Or.inl rfl | exact Or.inr rfl) (pd_op od_add (pd_slice (pdv 4) pdo_none (pdo_some (pd_neg pd_int))) (pd_callTy bd_tuple rfl T.n_tuple bt_tuple (pda_cons (pd_lcV [("line", 5)] rfl rfl nd (pdi_seq (pd_slice (pdv 4) (pdo_some (pd_neg pd_int)) pdo_none)) (blkOk_by (own := [("line", 5)]) (N := n_law) (sc := defScope s_law) (by decide +kernel)) (fun _ _ _ _ _ => (pdc_name (i := 5) (pg_name nd rfl (by first | exact Or.inl rfl | exact Or.inr rfl)))) (fun _ _ _ _ _ => pdts_nil) (fun _ _ _ _ _ => (pd_tup (pda_cons (pd_ix (pdv 5) pd_int) (pda_cons (pd_tup pda_nil) pda_nil))))) pda_nil))))) psds_nil)
      (psds_cons (psd_setD (i := 6) nd rfl (by first | exact Or.inl rfl | exact Or.inr rfl) (pd_call G_law_b_changed (hr.mono (by decide)) (by rfl) T.g_law_b_changed T.D_law_b_changed.kp T.b_law_b_changed (pda_cons (pdv 1) (pda_cons (pdv 4) pda_nil))))
      (psds_cons (psd_setD (i := 7) nd rfl (by first | exact Or.inl rfl | exact Or.inr rfl) (pd_call G_law_s_parts (hr.mono (by decide)) (by rfl) T.g_law_s_parts T.D_law_s_parts.kp T.b_law_s_parts (pda_cons (pdv 2) (pda_cons (pdv 4) pda_nil))))
      (psds_cons (psd_setD (i := 8) nd rfl (by first | exact Or.inl rfl | exact Or.inr rfl) (pd_call G_law_cases (hr.mono (by decide)) (by rfl) T.g_law_cases T.D_law_cases.kp T.b_law_cases (pda_cons (pdv 2) (pda_cons (pdv 4) (pda_cons (pd_op od_add (pd_call G_law_bent (hr.mono (by decide)) (by rfl) T.g_law_bent T.D_law_bent.kp T.b_law_bent (pda_cons (pdv 1) (pda_cons (pdv 7) pda_nil))) (pd_lst (pda_cons (pd_call G_law_s_parts (hr.mono (by decide)) (by rfl) T.g_law_s_parts T.D_law_s_parts.kp T.b_law_s_parts (pda_cons (pdv 2) (pda_cons (pdv 6) pda_nil))) (pda_cons (pd_call G_law_s_parts (hr.mono (by decide)) (by rfl) T.g_law_s_parts T.D_law_s_parts.kp T.b_law_s_parts (pda_cons (pdv 3) (pda_cons (pdv 4) pda_nil))) pda_nil)))) pda_nil)))))
      (psds_cons (psd_setD (i := 9) nd rfl (by first | exact Or.inl rfl | exact Or.inr rfl) (pd_op od_add (pd_call G_law_cases (hr.mono (by decide)) (by rfl) T.g_law_cases T.D_law_cases.kp T.b_law_cases (pda_cons (pdv 2) (pda_cons (pdv 6) (pda_cons (pd_lst (pda_cons (pdv 7) (pda_cons (pd_ix (pd_ix (pdv 8) pd_int) pd_int) (pda_cons (pd_ix (pd_ix (pdv 8) (pd_neg pd_int)) pd_int) pda_nil)))) pda_nil)))) (pd_call G_law_cases (hr.mono (by decide)) (by rfl) T.g_law_cases T.D_law_cases.kp T.b_law_cases (pda_cons (pdv 3) (pda_cons (pdv 4) (pda_cons (pd_lst (pda_cons (pdv 7) (pda_cons (pd_ix (pd_ix (pdv 8) (pd_neg pd_int)) pd_int) pda_nil))) pda_nil))))))
      (psds_cons (psd_for PassesOwn.never rfl (pdi_seq (pd_call G_law_turns (hr.mono (by decide)) (by rfl) T.g_law_turns T.D_law_turns.kp T.b_law_turns (pda_cons (pdv 1) (pda_cons (pd_callB bd_len rfl T.n_len bt_len (pda_cons (pdv 8) pda_nil)) pda_nil)))) (pdg_name (i := 10) nd rfl (by first | exact Or.inl rfl | exact Or.inr rfl)) (psds_one (psd_if (pdt_not (pdt_val (pd_call G_law_same (hr.mono (by decide)) (by rfl) T.g_law_same T.D_law_same.kp T.b_law_same (pda_cons (pd_call G_judge (hr.mono (by decide)) (by rfl) T.g_judge T.D_judge.kp T.b_judge (pda_cons (pd_ix (pd_ix (pdv 8) (pdv 10)) pd_int) (pda_cons (pd_ix (pd_ix (pdv 8) (pdv 10)) pd_int) (pda_cons (pd_ix (pd_ix (pdv 8) (pdv 10)) pd_int) pda_nil)))) (pda_cons (pd_ix (pd_ix (pdv 8) (pdv 10)) pd_int) pda_nil))))) (psds_one (psd_ret pd_bl)) psds_nil)))
      (psds_cons (psd_for PassesOwn.never rfl (pdi_seq (pd_op od_add (pdv 9) (pdv 8))) (pdg_name (i := 11) nd rfl (by first | exact Or.inl rfl | exact Or.inr rfl)) (psds_one (psd_if (pdt_not (pdt_val (pd_call G_law_same (hr.mono (by decide)) (by rfl) T.g_law_same T.D_law_same.kp T.b_law_same (pda_cons (pd_call G_judge (hr.mono (by decide)) (by rfl) T.g_judge T.D_judge.kp T.b_judge (pda_cons (pd_ix (pdv 11) pd_int) (pda_cons (pd_ix (pdv 11) pd_int) (pda_cons (pd_ix (pdv 11) pd_int) pda_nil)))) (pda_cons (pd_ix (pdv 11) pd_int) pda_nil))))) (psds_one (psd_ret pd_bl)) psds_nil)))
      (psds_one (psd_ret (pd_isN (pd_ix (pd_ix (pdv 8) pd_int) pd_int))))))))))))))))
end
end Dlk24

set_option Elab.async false
set_option linter.all false
set_option maxRecDepth 100000
set_option maxHeartbeats 4000000
set_option autoImplicit false
namespace Dlk24
open PySem PySem.Spec L2 DL Dlk23
local macro_rules | `(tactic| walk_at "go") => `(tactic| simp only [outE_i, outE_n, sz0, sz1, sz2, sz3, sz4, sz5, sz6, sz7, sz8, sz9, sz10, sz11, sz12, sz13, sz14, sz15, sz16, ↓tdFr, ↓frE, ↓rdDivmod, ↓rdNotIn, ↓tdTru, ↓rdMulW, ↓rdGcd, ↓rdRgV, ↓tdRgI, ↓tdEnum2, ↓tdZip2, ↓tdPar, ↓tdRevA, ↓tdRevR, ↓rdDivP, ↓tdTupRg, ↓tdSortSet, ↓tdRepV, ↓tdSwap, ↓rdLcm, ↓startE, ↓tdSeq, ↓tdSet, ↓tdSetD, ↓tdDrop, ↓tdRet, ↓tdIfS, ↓tdNext, ↓tdAsg, ↓tdV, ↓tdC, ↓tdBin, ↓tdB, ↓tdCons, ↓tdNil, ↓tdTup, ↓tdLst, ↓tdTest, ↓tdAnd, ↓tdOr, ↓tdNot, ↓tdIf, ↓tdAndV, ↓tdOrV, ↓tdNotV, ↓tdNeg, ↓tdIsN, ↓tdNotN, ↓tdSl, ↓tdPart, ↓tdNoPart, ↓tdM, ↓tdSetIx, ↓tdAug, ↓tdPut, ↓tdGet2, ↓tdIsi, ↓tdListRg, ↓gdName, ↓gdNil, ↓gdCons, ↓gdTup, ↓tdIt, ↓tdRng1, ↓tdRng2, ↓tdCall, ↓tdNew, ↓tdJoin, ↓gcName, ↓gcNil, ↓gcCons, ↓gcTup, ↓tdYes, ↓res, ↓resR, ↓resAll, ↓rvD, ↓rdLen, ↓rdInt, ↓rdAbs, ↓rdMax2, ↓rdMin2, ↓rdOrd, ↓rdTuple, ↓rdList, ↓rdIx, ↓rdAdd, ↓rdSub, ↓rdMul, ↓rdMod, ↓rdDiv, ↓rdPow, ↓rdCmp, ↓rdEq, ↓rdNe, ↓rdIadd, ↓rdIn, ↓rdSorted, ↓rdSl, ↓isT, ↓rdAppend, ↓itemsOf, ↓rvOf, ↓argsOf, ↓argOf, Nat.reduceAdd, Nat.reduceLT, Nat.reduceSub, Int.reduceLT, Int.reduceLE, Int.reduceAdd, Int.reduceEq, Int.reduceNeg, Nat.reduceLeDiff, Nat.zero_add, Nat.reduceEqDiff, Nat.reduceBEq, ix41, ix42, ix43, ix40, List.length_cons, List.length_nil, List.map_cons, List.map_nil, List.replicate, List.cons_append, List.nil_append, List.getElem?_cons_zero, List.getElem?_cons_succ, List.set_cons_zero, List.set_cons_succ, Option.map_some, at0, at1, at2, at3, ix0, ix1, ix2, ix3, sh_int, sh_bl, sh_non, eqv_int, eqv_bl, eqv_str, decide_eq_true_eq, Bool.not_eq_true, Bool.not_true, Bool.not_false, Bool.false_eq_true, true_and, and_true, if_true, if_false, ite_true, ite_false, List.length_map, List.length_set, Sl.isD, List.mem_singleton, List.mem_cons, List.not_mem_nil, not_true_eq_false, not_false_eq_true, or_false])
local macro_rules | `(tactic| nomatch $xs,*) => `(tactic| simp only [$[$xs:term],*, outE_i, outE_n, sz0, sz1, sz2, sz3, sz4, sz5, sz6, sz7, sz8, sz9, sz10, sz11, sz12, sz13, sz14, sz15, sz16, ↓tdFr, ↓frE, ↓rdDivmod, ↓rdNotIn, ↓tdTru, ↓rdMulW, ↓rdGcd, ↓rdRgV, ↓tdRgI, ↓tdEnum2, ↓tdZip2, ↓tdPar, ↓tdRevA, ↓tdRevR, ↓rdDivP, ↓tdTupRg, ↓tdSortSet, ↓tdRepV, ↓tdSwap, ↓rdLcm, ↓startE, ↓tdSeq, ↓tdSet, ↓tdSetD, ↓tdDrop, ↓tdRet, ↓tdIfS, ↓tdNext, ↓tdAsg, ↓tdV, ↓tdC, ↓tdBin, ↓tdB, ↓tdCons, ↓tdNil, ↓tdTup, ↓tdLst, ↓tdTest, ↓tdAnd, ↓tdOr, ↓tdNot, ↓tdIf, ↓tdAndV, ↓tdOrV, ↓tdNotV, ↓tdNeg, ↓tdIsN, ↓tdNotN, ↓tdSl, ↓tdPart, ↓tdNoPart, ↓tdM, ↓tdSetIx, ↓tdAug, ↓tdPut, ↓tdGet2, ↓tdIsi, ↓tdListRg, ↓gdName, ↓gdNil, ↓gdCons, ↓gdTup, ↓tdIt, ↓tdRng1, ↓tdRng2, ↓tdCall, ↓tdNew, ↓tdJoin, ↓gcName, ↓gcNil, ↓gcCons, ↓gcTup, ↓tdYes, ↓res, ↓resR, ↓resAll, ↓rvD, ↓rdLen, ↓rdInt, ↓rdAbs, ↓rdMax2, ↓rdMin2, ↓rdOrd, ↓rdTuple, ↓rdList, ↓rdIx, ↓rdAdd, ↓rdSub, ↓rdMul, ↓rdMod, ↓rdDiv, ↓rdPow, ↓rdCmp, ↓rdEq, ↓rdNe, ↓rdIadd, ↓rdIn, ↓rdSorted, ↓rdSl, ↓isT, ↓rdAppend, ↓itemsOf, ↓rvOf, ↓argsOf, ↓argOf, Nat.reduceAdd, Nat.reduceLT, Nat.reduceSub, Int.reduceLT, Int.reduceLE, Int.reduceAdd, Int.reduceEq, Int.reduceNeg, Nat.reduceLeDiff, Nat.zero_add, Nat.reduceEqDiff, Nat.reduceBEq, ix41, ix42, ix43, ix40, List.length_cons, List.length_nil, List.map_cons, List.map_nil, List.replicate, List.cons_append, List.nil_append, List.getElem?_cons_zero, List.getElem?_cons_succ, List.set_cons_zero, List.set_cons_succ, Option.map_some, at0, at1, at2, at3, ix0, ix1, ix2, ix3, sh_int, sh_bl, sh_non, eqv_int, eqv_bl, eqv_str, decide_eq_true_eq, Bool.not_eq_true, Bool.not_true, Bool.not_false, Bool.false_eq_true, true_and, and_true, if_true, if_false, ite_true, ite_false, List.length_map, List.length_set, Sl.isD, List.mem_singleton, List.mem_cons, List.not_mem_nil, not_true_eq_false, not_false_eq_true, or_false])
theorem at_ld {m : Nat} {tab : Tab} (h : TabOk m tab) {i : Nat} (hi : i < m) : ∃ s, atI (tab.map lnD) (i : Int) = some (.tuple [.int s, .tuple ((ld tab i).map .int)]) := by
  obtain ⟨l, hl, _⟩ := tab_get h hi
  rw [ld_at hl]
  exact ⟨l.1, at_tab hl⟩
theorem Nums.at {n b : Nat} {xs : List Int} (h : Nums n b xs) {i : Nat} (hi : i < n) : xs[i]? = some (nx xs i) ∧ 0 ≤ nx xs i ∧ Sm b (nx xs i) := by
  have h1 : xs[i]? = some (xs[i]'(by rw [h.1]; exact hi)) := List.getElem?_eq_getElem _
  have e : nx xs i = xs[i]'(by rw [h.1]; exact hi) := by unfold nx; rw [h1]; rfl
  rw [e]
  exact ⟨h1, h.2 _ (List.getElem_mem _)⟩
theorem at_nm {n b : Nat} {xs : List Int} (h : Nums n b xs) {i : Nat} (hi : i < n) : atI (xs.map PyData.int) (i : Int) = some (.int (nx xs i)) := atI_nat (by rw [List.getElem?_map, (h.at hi).1]; rfl)
theorem mul_le {tab : Tab} {M : Nat} (h : MulOk tab M) : M ≤ 27720 := Nat.le_of_dvd (by decide) h.2.1
theorem mul_self (m : Nat) (tab : Tab) (h : TabOk m tab) : MulOk tab 27720 := by
  refine ⟨by decide, Nat.dvd_refl _, fun i hi hne => ?_⟩
  have hl := ld_len h (by rw [← h.1]; exact hi)
  have h0 : 0 < (ld tab i).length := List.length_pos_iff.mpr hne
  generalize (ld tab i).length = k at hl h0
  have : ∀ k, k < 13 → 0 < k → k ∣ 27720 := by decide
  exact this k (by omega) h0
theorem sm_num {b : Nat} {x : Int} (h : 0 ≤ x) (h2 : x ≤ 27720) : Sm 16 x := by unfold Sm; omega
theorem sums_sm {b : Nat} {n : Nat} {xs : List Int} (h : Nums n b xs) {S : List Nat} (hS : S.length ≤ 12 ∧ ∀ i ∈ S, i < n) : Sm (b + 4) (S.map (nx xs)).sum := sum_sm (fun x hx => by
  obtain ⟨i, hi, rfl⟩ := List.mem_map.mp hx
  exact (h.at (hS.2 i hi)).2.2) (by rw [List.length_map]; exact hS.1)
theorem tot_sm {b : Nat} {n : Nat} {xs : List Int} (h : Nums n b xs) (hn : n ≤ 12) : Sm (b + 4) xs.sum := sum_sm (fun x hx => (h.2 x hx).2) (by rw [h.1]; exact hn)
theorem lead_ld {tab : Tab} {i j : Nat} (h : i ∈ leadTo tab j) : i < tab.length ∧ ld tab i ≠ [] ∧ (j : Int) ∈ ld tab i := by
  obtain ⟨h1, h2⟩ := List.mem_filter.mp h
  have h3 := of_decide_eq_true h2
  exact ⟨List.mem_range.mp h1, (fun z => by rw [z] at h3; cases h3), h3⟩
theorem term_sm {m b : Nat} {tab : Tab} {xs : List Int} {M i j : Nat} (hT : TabOk m tab) (hx : Nums m b xs) (hM : MulOk tab M) (hi : i ∈ leadTo tab j) : Sm 16 ((M : Int) / ((ld tab i).length : Nat)) ∧ Sm (b + 16) ((M : Int) / ((ld tab i).length : Nat) * nx xs i) := by
  obtain ⟨h1, h2, h3⟩ := lead_ld hi
  have hm := hT.1
  have h4 := mul_le hM
  have h5 := (hx.at (show i < m by omega)).2.2
  have h6 : Sm 16 ((M : Int) / ((ld tab i).length : Nat)) := by
    have e : (M : Int) / ((ld tab i).length : Nat) = ((M / (ld tab i).length : Nat) : Int) := rfl
    rw [e]
    have := Nat.div_le_self M (ld tab i).length
    unfold Sm
    rw [Int.natAbs_natCast]
    omega
  exact ⟨h6, (h6.mul h5).mono (by omega)⟩
theorem arr_sm {m b : Nat} {tab : Tab} {xs : List Int} {M j : Nat} (hT : TabOk m tab) (hx : Nums m b xs) (hM : MulOk tab M) : Sm (b + 20) (arrI tab xs M j) := by
  have hL := lead_ok tab j
  have hl := hL.len
  have hm := hT.1
  have hm2 := hT.2.1
  refine (sum_sm (b := b + 16) (fun x hx2 => ?_) (by rw [List.length_map]; omega)).mono (by omega)
  obtain ⟨i, hi, rfl⟩ := List.mem_map.mp hx2
  exact (term_sm hT hx hM hi).2
theorem sum_scale {c : Int} {g k : Nat → Int} : ∀ {l : List Nat}, (∀ i ∈ l, g i * c = k i) → (l.map g).sum * c = (l.map k).sum
  | [], _ => by simp
  | a :: r, h => by
    rw [List.map_cons, List.map_cons, List.sum_cons, List.sum_cons, Int.add_mul, h a List.mem_cons_self, sum_scale fun i hi => h i (List.mem_cons_of_mem _ hi)]
theorem arr_scale {tab : Tab} {M c : Nat} (xs : List Int) (j : Nat) (hM : MulOk tab M) (hc : M * c = 27720) : arrI tab xs M j * (c : Int) = arrI tab xs 27720 j := by
  refine sum_scale fun i hi => ?_
  obtain ⟨h1, h2, h3⟩ := lead_ld hi
  obtain ⟨q, hq⟩ := hM.2.2 i h1 h2
  have hl : (0 : Int) < ((ld tab i).length : Nat) := len_pos h2
  have e1 : (M : Int) / ((ld tab i).length : Nat) = q := by
    rw [hq, Int.natCast_mul]; exact Int.mul_ediv_cancel_left _ (by omega)
  have e2 : (27720 : Int) / ((ld tab i).length : Nat) = q * c := by
    have : (27720 : Int) = ((ld tab i).length : Nat) * ((q : Int) * c) := by
      have h4 : ((M * c : Nat) : Int) = 27720 := by rw [hc]; rfl
      rw [hq, Int.natCast_mul, Int.natCast_mul] at h4
      rw [← h4, Int.mul_assoc]
    rw [this]; exact Int.mul_ediv_cancel_left _ (by omega)
  rw [e1, e2, Int.mul_right_comm]
theorem holds_scale {f : Rat} {tab : Tab} {M : Nat} {xs : List Int} {j : Nat} (hM : MulOk tab M) : ((f.den : Int) * sumS tab * M * nx xs j = f.num * sumS tab * arrI tab xs M j + stI tab j * M * frI f tab xs) ↔ HoldsP f tab xs j := by
  obtain ⟨c, hc⟩ := hM.2.1
  have hc0 : 0 < c := by
    rcases Nat.eq_zero_or_pos c with q | q
    · rw [q] at hc; simp at hc
    · exact q
  have ec : ((M : Int) * c) = 27720 := by
    have : ((M * c : Nat) : Int) = 27720 := by rw [← hc]; rfl
    rwa [Int.natCast_mul] at this
  have e1 : (f.den : Int) * sumS tab * 27720 * nx xs j = ((f.den : Int) * sumS tab * M * nx xs j) * c := by rw [← ec]; grind
  have e2 : f.num * sumS tab * arrI tab xs 27720 j + stI tab j * 27720 * frI f tab xs = (f.num * sumS tab * arrI tab xs M j + stI tab j * M * frI f tab xs) * c := by
    rw [← arr_scale xs j hM hc.symm, ← ec]; grind
  unfold HoldsP
  rw [e1, e2]
  exact ⟨fun h => by rw [h], fun h => Int.eq_of_mul_eq_mul_right (by omega) h⟩
section
variable {args : List Sl} {Q : Sl → (Nat → Option Sl) → Prop}
theorem h_start_sum (hl : args.length = 1) (h : sp_start_sum args Q) : t_start_sum (KD Q) (startE 3 args) := Dlk23.h_start_sum hl h
theorem h_leading_to (hl : args.length = 2) (h : sp_leading_to args Q) : t_leading_to (KD Q) (startE 5 args) := Dlk23.h_leading_to hl h
theorem h_dead_ends (hl : args.length = 1) (h : sp_dead_ends args Q) : t_dead_ends (KD Q) (startE 4 args) := Dlk23.h_dead_ends hl h
theorem h_law_s_gcd (hl : args.length = 2) (h : sp_law_s_gcd args Q) : t_law_s_gcd (KD Q) (startE 3 args) := Dlk23.h_law_s_gcd hl h
theorem h_law_s_lowest (hl : args.length = 2) (h : sp_law_s_lowest args Q) : t_law_s_lowest (KD Q) (startE 3 args) := Dlk23.h_law_s_lowest hl h
theorem h_law_s_parts (hl : args.length = 2) (h : sp_law_s_parts args Q) : t_law_s_parts (KD Q) (startE 15 args) := Dlk23.h_law_s_parts hl h
theorem h_law_b_follow (hl : args.length = 1) (h : sp_law_b_follow args Q) : t_law_b_follow (KD Q) (startE 2 args) := Dlk23.h_law_b_follow hl h
theorem h_law_b_web (hl : args.length = 2) (h : sp_law_b_web args Q) : t_law_b_web (KD Q) (startE 10 args) := Dlk23.h_law_b_web hl h
theorem h_law_b_changed (hl : args.length = 2) (h : sp_law_b_changed args Q) : t_law_b_changed (KD Q) (startE 7 args) := Dlk23.h_law_b_changed hl h
theorem h_law_tape (hl : args.length = 1) (h : sp_law_tape args Q) : t_law_tape (KD Q) (startE 3 args) := hTape args Q hl h
theorem h_law_draw (hl : args.length = 2) (h : sp_law_draw args Q) : t_law_draw (KD Q) (startE 4 args) := hDraw args Q hl h
theorem h_law_pick (hl : args.length = 2) (h : sp_law_pick args Q) : t_law_pick (KD Q) (startE 2 args) := hPick args Q hl h
theorem h_law_turns (hl : args.length = 2) (h : sp_law_turns args Q) : t_law_turns (KD Q) (startE 5 args) := hTurns args Q hl h
theorem h_common_divisor (hl : args.length = 1) (h : sp_common_divisor args Q) : t_common_divisor (KD Q) (startE 3 args) := by
  obtain ⟨xs, rfl, hn, k⟩ := h
  unfold t_common_divisor
  rw [tupI_eq]
  refine seq_i fun Kc hK => ?_
  walk_at "go"
  subst hK
  refine seq_i fun Kc hK => ?_
  refine for_i fun Kx hKx => ?_
  walk_at "go"
  refine hKx _ _ ⟨fun i env => ∃ x2, env = [some (.d (.tuple (xs.map .int))), some (.d (.int (G (xs.take i) : Nat))), x2], ⟨none, rfl⟩, fun i x env hx2 hP => ?_, fun env hP => ?_⟩
  · obtain ⟨x2, rfl⟩ := hP
    rw [List.getElem?_map] at hx2
    obtain ⟨z, hz, rfl⟩ := Option.map_eq_some_iff.mp hx2
    walk_at "go"
    rw [show xs.take (i + 1) = xs.take i ++ [z] by rw [List.take_add_one, hz]; rfl, G_snoc]
    exact ⟨_, rfl⟩
  · obtain ⟨x2, rfl⟩ := hP
    rw [List.length_map, List.take_length]
    subst hK
    walk_at "go"
    exact k _
theorem h_common_multiple (hl : args.length = 1) (h : sp_common_multiple args Q) : t_common_multiple (KD Q) (startE 4 args) := by
  obtain ⟨m, tab, rfl, hT, k⟩ := h
  have hm2 := hT.2.1
  unfold t_common_multiple
  rw [tbD_eq]
  refine seq_i fun Kc hK => ?_
  walk_at "go"
  subst hK
  refine seq_i fun Kc hK => ?_
  refine for_i fun Kx hKx => ?_
  walk_at "go"
  refine hKx _ _ ⟨fun i env => ∃ (v : Nat) (x2 x3 : Option Sl), (0 < v ∧ v ∣ 27720 ∧ ∀ o, o < i → ld tab o ≠ [] → (ld tab o).length ∣ v) ∧ env = [some (.d (.tuple (tab.map lnD))), some (.d (.int (v))), x2, x3], ⟨1, none, none, ⟨by decide, by decide, fun o ho => by omega⟩, rfl⟩, fun i x env hx2 hP => ?_, fun env hP => ?_⟩
  · obtain ⟨v, x2, x3, ⟨hv0, hv1, hv2⟩, rfl⟩ := hP
    rw [List.getElem?_map] at hx2
    obtain ⟨l, hl2, rfl⟩ := Option.map_eq_some_iff.mp hx2
    have hil := (List.getElem?_eq_some_iff.mp hl2).1
    have hlen := ld_len hT (show i < m by rw [← hT.1]; exact hil)
    have hdv := (mul_self m tab hT).2.2 i hil
    have hvle := Nat.le_of_dvd (by decide) hv1
    rw [ld_at hl2] at hlen hdv
    unfold lnD
    by_cases c : l.2 = []
    · nomatch tupI_eq, eqv_nil, sh_tup, sh_nil, c, decide_true
      refine ⟨v, _, _, ⟨hv0, hv1, fun o ho hne => ?_⟩, rfl⟩
      by_cases c1 : o = i
      · rw [c1, ld_at hl2] at hne; exact absurd c hne
      · exact hv2 o (by omega) hne
    · nomatch tupI_eq, eqv_nil, sh_tup, sh_nil, c, decide_false
      have h0 : 0 < l.2.length := List.length_pos_iff.mpr c
      refine ⟨by omega, by omega, Nat.lcm v l.2.length, _, _, ⟨Nat.lcm_pos hv0 h0, Nat.lcm_dvd hv1 (hdv c), fun o ho hne => ?_⟩, rfl⟩
      by_cases c1 : o = i
      · rw [c1, ld_at hl2]; exact Nat.dvd_lcm_right ..
      · exact Nat.dvd_trans (hv2 o (by omega) hne) (Nat.dvd_lcm_left ..)
  · obtain ⟨v, x2, x3, ⟨hv0, hv1, hv2⟩, rfl⟩ := hP
    rw [List.length_map] at hv2
    subst hK
    walk_at "go"
    exact k v _ ⟨hv0, hv1, hv2⟩
theorem h_arriving (hl : args.length = 4) (h : sp_arriving args Q) : t_arriving (KD Q) (startE 5 args) := by
  obtain ⟨m, tab, xs, M, j, rfl, hT, hx, hM, hj, k⟩ := h
  obtain rfl := hT.1
  have hm2 := hT.2.1
  have hL := lead_ok tab j
  have hLo := hL.ok hm2.2
  unfold t_arriving
  walk_at "go"
  refine lc_map (leadTo tab j) (fun i => .int (i : Nat)) (fun i => .int ((M : Int) / ((ld tab i).length : Nat) * nx xs i)) (fun R hR => ?_) (small_of (by omega)) (by simp [noOwn]) (fun i hi A B hA hB => ?_) ?_
  · walk_at "go"
    refine ⟨tab.length, tab, j, rfl, hT, fun os => ?_⟩
    nomatch tupN_eq
    exact hR
  · obtain ⟨s, ai⟩ := at_ld hT (hL.2 i hi)
    have an := at_nm hx (hL.2 i hi)
    obtain ⟨h1, h2, h3⟩ := lead_ld hi
    have h4 := len_pos h2
    have h5 := (ld_len hT (hL.2 i hi)).1
    have h6 := (hx.at (hL.2 i hi)).2.2
    nomatch wipeE, mergeE, tbD_eq, tupI_eq, ai, an
    exact ⟨cdiv h4 ((sm10 (by omega) (by omega)).mono (by decide)), cm ((term_sm hT hx hM hi).1.mono (by decide)) (h6.mono (by decide)), hA, hB⟩
  nomatch rdSumA
  refine ⟨(leadTo tab j).map fun i => (M : Int) / ((ld tab i).length : Nat) * nx xs i, by rw [List.map_map]; rfl, ?_⟩
  exact k _
end
end Dlk24

set_option Elab.async false
set_option linter.all false
set_option maxRecDepth 100000
set_option maxHeartbeats 4000000
set_option autoImplicit false
namespace Dlk24
open PySem PySem.Spec L2 DL Dlk23
local macro_rules | `(tactic| walk_at "go") => `(tactic| simp only [outE_i, outE_n, sz0, sz1, sz2, sz3, sz4, sz5, sz6, sz7, sz8, sz9, sz10, sz11, sz12, sz13, sz14, sz15, sz16, ↓tdFr, ↓frE, ↓rdDivmod, ↓rdNotIn, ↓tdTru, ↓rdMulW, ↓rdGcd, ↓rdRgV, ↓tdRgI, ↓tdEnum2, ↓tdZip2, ↓tdPar, ↓tdRevA, ↓tdRevR, ↓rdDivP, ↓tdTupRg, ↓tdSortSet, ↓tdRepV, ↓tdSwap, ↓rdLcm, ↓startE, ↓tdSeq, ↓tdSet, ↓tdSetD, ↓tdDrop, ↓tdRet, ↓tdIfS, ↓tdNext, ↓tdAsg, ↓tdV, ↓tdC, ↓tdBin, ↓tdB, ↓tdCons, ↓tdNil, ↓tdTup, ↓tdLst, ↓tdTest, ↓tdAnd, ↓tdOr, ↓tdNot, ↓tdIf, ↓tdAndV, ↓tdOrV, ↓tdNotV, ↓tdNeg, ↓tdIsN, ↓tdNotN, ↓tdSl, ↓tdPart, ↓tdNoPart, ↓tdM, ↓tdSetIx, ↓tdAug, ↓tdPut, ↓tdGet2, ↓tdIsi, ↓tdListRg, ↓gdName, ↓gdNil, ↓gdCons, ↓gdTup, ↓tdIt, ↓tdRng1, ↓tdRng2, ↓tdCall, ↓tdNew, ↓tdJoin, ↓gcName, ↓gcNil, ↓gcCons, ↓gcTup, ↓tdYes, ↓res, ↓resR, ↓resAll, ↓rvD, ↓rdLen, ↓rdInt, ↓rdAbs, ↓rdMax2, ↓rdMin2, ↓rdOrd, ↓rdTuple, ↓rdList, ↓rdIx, ↓rdAdd, ↓rdSub, ↓rdMul, ↓rdMod, ↓rdDiv, ↓rdPow, ↓rdCmp, ↓rdEq, ↓rdNe, ↓rdIadd, ↓rdIn, ↓rdSorted, ↓rdSl, ↓isT, ↓rdAppend, ↓itemsOf, ↓rvOf, ↓argsOf, ↓argOf, Nat.reduceAdd, Nat.reduceLT, Nat.reduceSub, Int.reduceLT, Int.reduceLE, Int.reduceAdd, Int.reduceEq, Int.reduceNeg, Nat.reduceLeDiff, Nat.zero_add, Nat.reduceEqDiff, Nat.reduceBEq, ix41, ix42, ix43, ix40, List.length_cons, List.length_nil, List.map_cons, List.map_nil, List.replicate, List.cons_append, List.nil_append, List.getElem?_cons_zero, List.getElem?_cons_succ, List.set_cons_zero, List.set_cons_succ, Option.map_some, at0, at1, at2, at3, ix0, ix1, ix2, ix3, sh_int, sh_bl, sh_non, eqv_int, eqv_bl, eqv_str, decide_eq_true_eq, Bool.not_eq_true, Bool.not_true, Bool.not_false, Bool.false_eq_true, true_and, and_true, if_true, if_false, ite_true, ite_false, List.length_map, List.length_set, Sl.isD, List.mem_singleton, List.mem_cons, List.not_mem_nil, not_true_eq_false, not_false_eq_true, or_false])
local macro_rules | `(tactic| nomatch $xs,*) => `(tactic| simp only [$[$xs:term],*, outE_i, outE_n, sz0, sz1, sz2, sz3, sz4, sz5, sz6, sz7, sz8, sz9, sz10, sz11, sz12, sz13, sz14, sz15, sz16, ↓tdFr, ↓frE, ↓rdDivmod, ↓rdNotIn, ↓tdTru, ↓rdMulW, ↓rdGcd, ↓rdRgV, ↓tdRgI, ↓tdEnum2, ↓tdZip2, ↓tdPar, ↓tdRevA, ↓tdRevR, ↓rdDivP, ↓tdTupRg, ↓tdSortSet, ↓tdRepV, ↓tdSwap, ↓rdLcm, ↓startE, ↓tdSeq, ↓tdSet, ↓tdSetD, ↓tdDrop, ↓tdRet, ↓tdIfS, ↓tdNext, ↓tdAsg, ↓tdV, ↓tdC, ↓tdBin, ↓tdB, ↓tdCons, ↓tdNil, ↓tdTup, ↓tdLst, ↓tdTest, ↓tdAnd, ↓tdOr, ↓tdNot, ↓tdIf, ↓tdAndV, ↓tdOrV, ↓tdNotV, ↓tdNeg, ↓tdIsN, ↓tdNotN, ↓tdSl, ↓tdPart, ↓tdNoPart, ↓tdM, ↓tdSetIx, ↓tdAug, ↓tdPut, ↓tdGet2, ↓tdIsi, ↓tdListRg, ↓gdName, ↓gdNil, ↓gdCons, ↓gdTup, ↓tdIt, ↓tdRng1, ↓tdRng2, ↓tdCall, ↓tdNew, ↓tdJoin, ↓gcName, ↓gcNil, ↓gcCons, ↓gcTup, ↓tdYes, ↓res, ↓resR, ↓resAll, ↓rvD, ↓rdLen, ↓rdInt, ↓rdAbs, ↓rdMax2, ↓rdMin2, ↓rdOrd, ↓rdTuple, ↓rdList, ↓rdIx, ↓rdAdd, ↓rdSub, ↓rdMul, ↓rdMod, ↓rdDiv, ↓rdPow, ↓rdCmp, ↓rdEq, ↓rdNe, ↓rdIadd, ↓rdIn, ↓rdSorted, ↓rdSl, ↓isT, ↓rdAppend, ↓itemsOf, ↓rvOf, ↓argsOf, ↓argOf, Nat.reduceAdd, Nat.reduceLT, Nat.reduceSub, Int.reduceLT, Int.reduceLE, Int.reduceAdd, Int.reduceEq, Int.reduceNeg, Nat.reduceLeDiff, Nat.zero_add, Nat.reduceEqDiff, Nat.reduceBEq, ix41, ix42, ix43, ix40, List.length_cons, List.length_nil, List.map_cons, List.map_nil, List.replicate, List.cons_append, List.nil_append, List.getElem?_cons_zero, List.getElem?_cons_succ, List.set_cons_zero, List.set_cons_succ, Option.map_some, at0, at1, at2, at3, ix0, ix1, ix2, ix3, sh_int, sh_bl, sh_non, eqv_int, eqv_bl, eqv_str, decide_eq_true_eq, Bool.not_eq_true, Bool.not_true, Bool.not_false, Bool.false_eq_true, true_and, and_true, if_true, if_false, ite_true, ite_false, List.length_map, List.length_set, Sl.isD, List.mem_singleton, List.mem_cons, List.not_mem_nil, not_true_eq_false, not_false_eq_true, or_false])
section
variable {args : List Sl} {Q : Sl → (Nat → Option Sl) → Prop}
theorem h_holds (hl : args.length = 4) (h : sp_holds args Q) : t_holds (KD Q) (startE 12 args) := by
  obtain ⟨f, m, tab, xs, j, rfl, hf, hT, hx, hj, k⟩ := h
  obtain rfl := hT.1
  have hm2 := hT.2.1
  have hn := fol_num hf
  have hd := hf.2.2
  have ef : fr f = .tuple [.int f.num, .int f.den] := rfl
  have hs := tab_sum hT
  have hso := st_ok hT hj
  have sX : Sm 224 xs.sum := tot_sm hx hm2.2
  have sE : Sm 224 ((dead tab).map (nx xs)).sum := sums_sm hx (dead_ok hT)
  have sn : Sm 10 f.num := sm10 (by omega) (by omega)
  have sd : Sm 10 (f.den : Int) := sm10 (by omega) (by omega)
  have sdn : Sm 10 ((f.den : Int) - f.num) := sm10 (by omega) (by omega)
  have sS : Sm 10 (sumS tab) := sm10 (by omega) (by omega)
  have sj : Sm 10 (stI tab j) := sm10 (by omega) (by omega)
  have s1 := sdn.mul sX
  have s2 := sn.mul sE
  have s3 := s1.add s2
  obtain ⟨nsj, ast, _⟩ := start_at hT hj
  have anj := at_nm hx hj
  have sxj := (hx.at hj).2.2
  unfold t_holds
  rw [ef]
  refine seq_i fun Kc hK => ?_
  walk_at "go"
  subst hK
  refine seq_i fun Kc hK => ?_
  walk_at "go"
  refine ⟨tab.length, tab, rfl, hT, fun os => ?_⟩
  walk_at "go"
  refine ⟨tab.length, tab, rfl, hT, fun M os hM => ?_⟩
  walk_at "go"
  subst hK
  have hMle := mul_le hM
  have sM : Sm 16 (M : Int) := sm_num (b := 16) (by omega) (by omega)
  have sA := arr_sm (j := j) hT hx hM
  refine seq_i fun Kc hK => ?_
  walk_at "go"
  refine lc_map (dead tab) (fun i => .int (i : Nat)) (fun i => .int (nx xs i)) (fun R hR => ?_) (small_of (by have := (dead_ok hT).1; omega)) (by simp [noOwn]) (fun i hi A B hA hB => ?_) ?_
  · walk_at "go"
    refine ⟨tab.length, tab, rfl, hT, fun os => ?_⟩
    nomatch tupN_eq
    exact hR
  · have an := at_nm hx ((dead_ok hT).2 i hi)
    nomatch wipeE, mergeE, tupI_eq, an
    exact ⟨hA, hB⟩
  nomatch rdSumA
  refine ⟨(dead tab).map (nx xs), by rw [List.map_map]; rfl, ?_⟩
  subst hK
  refine seq_i fun Kc hK => ?_
  nomatch tbD_eq, tupI_eq, ast, rdSumA
  refine ⟨cm (sj.mono (by decide)) (sM.mono (by decide)), xs, rfl, cm (sdn.mono (by decide)) (sX.mono (by decide)), cm (sn.mono (by decide)) (sE.mono (by decide)), cm ((sj.mul sM).mono (by decide)) (s3.mono (by decide)), ?_⟩
  rw [← tbD_eq, ← tupI_eq]
  subst hK
  refine seq_i fun Kc hK => ?_
  walk_at "go"
  refine ⟨cm (sn.mono (by decide)) (sS.mono (by decide)), ?_⟩
  refine ⟨tab.length, tab, xs, M, j, rfl, hT, hx, hM, hj, fun os => ?_⟩
  walk_at "go"
  refine ⟨cm ((sn.mul sS).mono (by decide)) (sA.mono (by decide)), ?_⟩
  subst hK
  nomatch tupI_eq, anj
  refine ⟨cm (sd.mono (by decide)) (sS.mono (by decide)), cm ((sd.mul sS).mono (by decide)) (sM.mono (by decide)), cm (((sd.mul sS).mul sM).mono (by decide)) (sxj.mono (by decide)), ?_⟩
  have e : decide ((f.den : Int) * sumS tab * M * nx xs j = f.num * sumS tab * arrI tab xs M j + Dlk23.stI tab j * M * frI f tab xs) = decide (HoldsP f tab xs j) := decide_eq_decide.mpr (holds_scale hM)
  unfold frI Dlk23.stI at e
  rw [← e] at k
  exact k _
theorem h_law_s_holds (hl : args.length = 4) (h : sp_law_s_holds args Q) : t_law_s_holds (KD Q) (startE 10 args) := by
  obtain ⟨f, m, tab, xs, j, rfl, hf, hT, hx, hj, k⟩ := h
  obtain rfl := hT.1
  have hm2 := hT.2.1
  have hn := fol_num hf
  have hd := hf.2.2
  have ef : fr f = .tuple [.int f.num, .int f.den] := rfl
  have hs := tab_sum hT
  have hso := st_ok hT hj
  have sX : Sm 224 xs.sum := tot_sm hx hm2.2
  have sE : Sm 224 ((dead tab).map (nx xs)).sum := sums_sm hx (dead_ok hT)
  have sn : Sm 10 f.num := sm10 (by omega) (by omega)
  have sd : Sm 10 (f.den : Int) := sm10 (by omega) (by omega)
  have sdn : Sm 10 ((f.den : Int) - f.num) := sm10 (by omega) (by omega)
  have sS : Sm 10 (sumS tab) := sm10 (by omega) (by omega)
  have sj : Sm 10 (stI tab j) := sm10 (by omega) (by omega)
  have s1 := sdn.mul sX
  have s2 := sn.mul sE
  have s3 := s1.add s2
  obtain ⟨nsj, ast, _⟩ := start_at hT hj
  have anj := at_nm hx hj
  have sxj := (hx.at hj).2.2
  have hM := mul_self tab.length tab hT
  have sM : Sm 16 (27720 : Int) := sm_num (b := 16) (by decide) (by decide)
  have sA : Sm 240 (arrI tab xs 27720 j) := arr_sm (j := j) hT hx hM
  unfold t_law_s_holds
  rw [ef, tbD_eq, tupI_eq]
  refine seq_i fun Kc hK => ?_
  walk_at "go"
  refine lc_map tab lnD (fun l => .int l.1) (fun R hR => ?_) (small_of (by omega)) (by simp [noOwn]) (fun x hx A B hA hB => ?_) ?_
  · walk_at "go"
    exact hR
  · unfold lnD
    nomatch wipeE, mergeE
    exact ⟨hA, hB⟩
  nomatch rdSumA
  refine ⟨tab.map (·.1), by rw [List.map_map]; rfl, ?_⟩
  rw [show (tab.map (·.1)).sum = sumS tab from rfl]
  subst hK
  refine seq_i fun Kc hK => ?_
  walk_at "go"
  refine lc_if (List.range tab.length) (fun i => .int (i : Nat)) (fun i => .int (nx xs i)) (fun i => decide (ld tab i = [])) (fun R hR => ?_) (small_of (by rw [List.length_range]; omega)) (by simp [noOwn]) (fun i hi A B C hA hB hC => ?_) ?_
  · walk_at "go"
    rw [rng_map]
    exact ⟨by omega, hR⟩
  · have hi2 := List.mem_range.mp hi
    obtain ⟨s, ai⟩ := at_ld hT hi2
    have an := at_nm hx hi2
    by_cases c : ld tab i = []
    · have c0 : (((ld tab i).length : Nat) : Int) = 0 := by rw [c]; rfl
      nomatch wipeE, mergeE, ai, c0, decide_true, an
      exact ⟨hA, hC (decide_eq_true c)⟩
    · have c0 : ¬ (((ld tab i).length : Nat) : Int) = 0 := by have := len_pos c; omega
      nomatch wipeE, mergeE, ai, c0, decide_false, an
      exact hB (decide_eq_false c)
  nomatch rdSumA
  refine ⟨(dead tab).map (nx xs), by rw [List.map_map]; rfl, ?_⟩
  subst hK
  refine seq_i fun Kc hK => ?_
  walk_at "go"
  refine lc_if (List.range tab.length) (fun i => .int (i : Nat)) (fun i => .int (nx xs i * (27720 / ((ld tab i).length : Nat)))) (fun i => decide ((j : Int) ∈ ld tab i)) (fun R hR => ?_) (small_of (by rw [List.length_range]; omega)) (by simp [noOwn]) (fun i hi A B C hA hB hC => ?_) ?_
  · walk_at "go"
    rw [rng_map]
    exact ⟨by omega, hR⟩
  · have hi2 := List.mem_range.mp hi
    obtain ⟨s, ai⟩ := at_ld hT hi2
    have an := at_nm hx hi2
    by_cases c : (j : Int) ∈ ld tab i
    · have hil : i ∈ leadTo tab j := List.mem_filter.mpr ⟨hi, decide_eq_true c⟩
      have h4 := len_pos (lead_ld hil).2.1
      have h5 := (ld_len hT hi2).1
      nomatch wipeE, mergeE, ai, sh_tup, any_int, c, decide_true, an
      exact ⟨cdiv h4 ((sm10 (by omega) (by omega)).mono (by decide)), cm ((hx.at hi2).2.2.mono (by decide)) ((term_sm hT hx hM hil).1.mono (by decide)), hA, hC (decide_eq_true c)⟩
    · nomatch wipeE, mergeE, ai, sh_tup, any_int, c, decide_false, an
      exact hB (decide_eq_false c)
  nomatch rdSumA
  refine ⟨(leadTo tab j).map fun i => nx xs i * (27720 / ((ld tab i).length : Nat)), by rw [List.map_map]; rfl, ?_⟩
  have ea : ((leadTo tab j).map fun i => nx xs i * (27720 / ((ld tab i).length : Nat))).sum = arrI tab xs 27720 j := by
    unfold arrI
    congr 1
    exact List.map_congr_left fun i _ => Int.mul_comm _ _
  rw [ea]
  subst hK
  refine seq_i fun Kc hK => ?_
  nomatch rdSumA
  refine ⟨xs, rfl, cm (sdn.mono (by decide)) (sX.mono (by decide)), cm (sn.mono (by decide)) (sE.mono (by decide)), ?_⟩
  subst hK
  nomatch anj, ast
  refine ⟨cm (sd.mono (by decide)) (sS.mono (by decide)), cm ((sd.mul sS).mono (by decide)) (sM.mono (by decide)), cm (((sd.mul sS).mul sM).mono (by decide)) (sxj.mono (by decide)), cm (sn.mono (by decide)) (sS.mono (by decide)), cm ((sn.mul sS).mono (by decide)) (sA.mono (by decide)), cm (sj.mono (by decide)) (sM.mono (by decide)), cm ((sj.mul sM).mono (by decide)) (s3.mono (by decide)), ?_⟩
  exact k _
end
end Dlk24

set_option Elab.async false
set_option linter.all false
set_option maxRecDepth 100000
set_option maxHeartbeats 4000000
set_option autoImplicit false
namespace Dlk24
open PySem PySem.Spec L2 DL Dlk23
local macro_rules | `(tactic| walk_at "go") => `(tactic| simp only [outE_i, outE_n, sz0, sz1, sz2, sz3, sz4, sz5, sz6, sz7, sz8, sz9, sz10, sz11, sz12, sz13, sz14, sz15, sz16, ↓tdFr, ↓frE, ↓rdDivmod, ↓rdNotIn, ↓tdTru, ↓rdMulW, ↓rdGcd, ↓rdRgV, ↓tdRgI, ↓tdEnum2, ↓tdZip2, ↓tdPar, ↓tdRevA, ↓tdRevR, ↓rdDivP, ↓tdTupRg, ↓tdSortSet, ↓tdRepV, ↓tdSwap, ↓rdLcm, ↓startE, ↓tdSeq, ↓tdSet, ↓tdSetD, ↓tdDrop, ↓tdRet, ↓tdIfS, ↓tdNext, ↓tdAsg, ↓tdV, ↓tdC, ↓tdBin, ↓tdB, ↓tdCons, ↓tdNil, ↓tdTup, ↓tdLst, ↓tdTest, ↓tdAnd, ↓tdOr, ↓tdNot, ↓tdIf, ↓tdAndV, ↓tdOrV, ↓tdNotV, ↓tdNeg, ↓tdIsN, ↓tdNotN, ↓tdSl, ↓tdPart, ↓tdNoPart, ↓tdM, ↓tdSetIx, ↓tdAug, ↓tdPut, ↓tdGet2, ↓tdIsi, ↓tdListRg, ↓gdName, ↓gdNil, ↓gdCons, ↓gdTup, ↓tdIt, ↓tdRng1, ↓tdRng2, ↓tdCall, ↓tdNew, ↓tdJoin, ↓gcName, ↓gcNil, ↓gcCons, ↓gcTup, ↓tdYes, ↓res, ↓resR, ↓resAll, ↓rvD, ↓rdLen, ↓rdInt, ↓rdAbs, ↓rdMax2, ↓rdMin2, ↓rdOrd, ↓rdTuple, ↓rdList, ↓rdIx, ↓rdAdd, ↓rdSub, ↓rdMul, ↓rdMod, ↓rdDiv, ↓rdPow, ↓rdCmp, ↓rdEq, ↓rdNe, ↓rdIadd, ↓rdIn, ↓rdSorted, ↓rdSl, ↓isT, ↓rdAppend, ↓itemsOf, ↓rvOf, ↓argsOf, ↓argOf, Nat.reduceAdd, Nat.reduceLT, Nat.reduceSub, Int.reduceLT, Int.reduceLE, Int.reduceAdd, Int.reduceEq, Int.reduceNeg, Nat.reduceLeDiff, Nat.zero_add, Nat.reduceEqDiff, Nat.reduceBEq, ix41, ix42, ix43, ix40, List.length_cons, List.length_nil, List.map_cons, List.map_nil, List.replicate, List.cons_append, List.nil_append, List.getElem?_cons_zero, List.getElem?_cons_succ, List.set_cons_zero, List.set_cons_succ, Option.map_some, at0, at1, at2, at3, ix0, ix1, ix2, ix3, sh_int, sh_bl, sh_non, eqv_int, eqv_bl, eqv_str, decide_eq_true_eq, Bool.not_eq_true, Bool.not_true, Bool.not_false, Bool.false_eq_true, true_and, and_true, if_true, if_false, ite_true, ite_false, List.length_map, List.length_set, Sl.isD, List.mem_singleton, List.mem_cons, List.not_mem_nil, not_true_eq_false, not_false_eq_true, or_false])
local macro_rules | `(tactic| nomatch $xs,*) => `(tactic| simp only [$[$xs:term],*, outE_i, outE_n, sz0, sz1, sz2, sz3, sz4, sz5, sz6, sz7, sz8, sz9, sz10, sz11, sz12, sz13, sz14, sz15, sz16, ↓tdFr, ↓frE, ↓rdDivmod, ↓rdNotIn, ↓tdTru, ↓rdMulW, ↓rdGcd, ↓rdRgV, ↓tdRgI, ↓tdEnum2, ↓tdZip2, ↓tdPar, ↓tdRevA, ↓tdRevR, ↓rdDivP, ↓tdTupRg, ↓tdSortSet, ↓tdRepV, ↓tdSwap, ↓rdLcm, ↓startE, ↓tdSeq, ↓tdSet, ↓tdSetD, ↓tdDrop, ↓tdRet, ↓tdIfS, ↓tdNext, ↓tdAsg, ↓tdV, ↓tdC, ↓tdBin, ↓tdB, ↓tdCons, ↓tdNil, ↓tdTup, ↓tdLst, ↓tdTest, ↓tdAnd, ↓tdOr, ↓tdNot, ↓tdIf, ↓tdAndV, ↓tdOrV, ↓tdNotV, ↓tdNeg, ↓tdIsN, ↓tdNotN, ↓tdSl, ↓tdPart, ↓tdNoPart, ↓tdM, ↓tdSetIx, ↓tdAug, ↓tdPut, ↓tdGet2, ↓tdIsi, ↓tdListRg, ↓gdName, ↓gdNil, ↓gdCons, ↓gdTup, ↓tdIt, ↓tdRng1, ↓tdRng2, ↓tdCall, ↓tdNew, ↓tdJoin, ↓gcName, ↓gcNil, ↓gcCons, ↓gcTup, ↓tdYes, ↓res, ↓resR, ↓resAll, ↓rvD, ↓rdLen, ↓rdInt, ↓rdAbs, ↓rdMax2, ↓rdMin2, ↓rdOrd, ↓rdTuple, ↓rdList, ↓rdIx, ↓rdAdd, ↓rdSub, ↓rdMul, ↓rdMod, ↓rdDiv, ↓rdPow, ↓rdCmp, ↓rdEq, ↓rdNe, ↓rdIadd, ↓rdIn, ↓rdSorted, ↓rdSl, ↓isT, ↓rdAppend, ↓itemsOf, ↓rvOf, ↓argsOf, ↓argOf, Nat.reduceAdd, Nat.reduceLT, Nat.reduceSub, Int.reduceLT, Int.reduceLE, Int.reduceAdd, Int.reduceEq, Int.reduceNeg, Nat.reduceLeDiff, Nat.zero_add, Nat.reduceEqDiff, Nat.reduceBEq, ix41, ix42, ix43, ix40, List.length_cons, List.length_nil, List.map_cons, List.map_nil, List.replicate, List.cons_append, List.nil_append, List.getElem?_cons_zero, List.getElem?_cons_succ, List.set_cons_zero, List.set_cons_succ, Option.map_some, at0, at1, at2, at3, ix0, ix1, ix2, ix3, sh_int, sh_bl, sh_non, eqv_int, eqv_bl, eqv_str, decide_eq_true_eq, Bool.not_eq_true, Bool.not_true, Bool.not_false, Bool.false_eq_true, true_and, and_true, if_true, if_false, ite_true, ite_false, List.length_map, List.length_set, Sl.isD, List.mem_singleton, List.mem_cons, List.not_mem_nil, not_true_eq_false, not_false_eq_true, or_false])
theorem scn_step (p : Nat → Bool) {i n : Nat} (h : i < n) : scn p i (n - i) = if p i = true then some i else scn p (i + 1) (n - (i + 1)) := by
  obtain ⟨k, hk⟩ : ∃ k, n - i = k + 1 := ⟨n - i - 1, by omega⟩
  rw [hk, scn, show n - (i + 1) = k by omega]
theorem enum_ints {n b : Nat} {xs : List Int} (h : Nums n b xs) : enumL (xs.map PyData.int) = (List.range n).map fun i : Nat => .tuple [.int i, .int (nx xs i)] := by
  refine List.ext_getElem? fun i => ?_
  have hl := h.1
  unfold enumL
  rw [List.getElem?_zipWith, List.length_map, List.getElem?_map, List.getElem?_map]
  by_cases c : i < n
  · rw [List.getElem?_range (by omega), (h.at c).1, List.getElem?_range c]
    rfl
  · rw [List.getElem?_eq_none (l := List.range xs.length) (by rw [List.length_range]; omega), List.getElem?_eq_none (l := List.range n) (by rw [List.length_range]; omega)]
    rfl
section
variable {args : List Sl} {Q : Sl → (Nat → Option Sl) → Prop}
theorem h_law_s_fault (hl : args.length = 3) (h : sp_law_s_fault args Q) : t_law_s_fault (KD Q) (startE 6 args) := by
  obtain ⟨f, m, tab, xs, rfl, hf, hT, hx, k⟩ := h
  obtain rfl := hT.1
  have hm2 := hT.2.1
  unfold t_law_s_fault
  refine seq_i fun Kc hK => ?_
  refine for_i fun Kx hKx => ?_
  nomatch tbD_eq
  rw [← tbD_eq, rng_map]
  refine ⟨by omega, ?_⟩
  refine hKx _ _ ⟨fun i env => ∃ x3, scn (zeroP xs) 0 tab.length = scn (zeroP xs) i (tab.length - i) ∧ env = [some (.d (fr f)), some (.d (tbD tab)), some (.d (tupI xs)), x3, none, none], ⟨_, rfl, rfl⟩, fun i x env hx2 hP => ?_, fun env hP => ?_⟩
  · obtain ⟨x3, hfd, rfl⟩ := hP
    rw [← rng_map] at hx2
    obtain ⟨rfl, hi⟩ := rng_at hx2
    have hi2 : i < tab.length := by omega
    have an := at_nm hx hi2
    have hs := scn_step (zeroP xs) hi2
    by_cases c : nx xs i = 0
    · have hz : zeroP xs i = true := decide_eq_true c
      have hend : faultD f tab xs = .tuple [.str "zero", .int (i : Nat)] := by unfold faultD; rw [hfd, hs, if_pos hz]; rfl
      rw [hend] at k
      nomatch tupI_eq, an, c, decide_true
      exact k _
    · have hz : ¬ zeroP xs i = true := fun z => c (of_decide_eq_true z)
      rw [hs, if_neg hz] at hfd
      nomatch tupI_eq, an, c, decide_false
      exact ⟨_, hfd, rfl⟩
  · obtain ⟨x3, hfd, rfl⟩ := hP
    rw [List.length_map, List.length_range, Nat.sub_self] at hfd
    have h1 : faultD f tab xs = nextD f tab xs (scn (badP f tab xs) 0 tab.length) := by unfold faultD; rw [hfd]; rfl
    subst hK
    dsimp only
    refine seq_i fun Kc hK => ?_
    refine for_i fun Kx hKx => ?_
    nomatch tbD_eq
    rw [← tbD_eq, rng_map]
    refine ⟨by omega, ?_⟩
    refine hKx _ _ ⟨fun i env => ∃ x3, scn (badP f tab xs) 0 tab.length = scn (badP f tab xs) i (tab.length - i) ∧ env = [some (.d (fr f)), some (.d (tbD tab)), some (.d (tupI xs)), x3, none, none], ⟨_, rfl, rfl⟩, fun i x env hx2 hP => ?_, fun env hP => ?_⟩
    · obtain ⟨x3, hfd2, rfl⟩ := hP
      rw [← rng_map] at hx2
      obtain ⟨rfl, hi⟩ := rng_at hx2
      have hi2 : i < tab.length := by omega
      have hs := scn_step (badP f tab xs) hi2
      refine ⟨by simp, ?_⟩
      simp only [List.set_cons_zero, List.set_cons_succ]
      walk_at "go"
      refine ⟨f, tab.length, tab, xs, i, rfl, hf, hT, hx, hi2, fun os => ?_⟩
      by_cases c : HoldsP f tab xs i
      · have hz : ¬ badP f tab xs i = true := by simp [badP, c]
        rw [hs, if_neg hz] at hfd2
        nomatch c, decide_true
        exact ⟨_, hfd2, rfl⟩
      · have hz : badP f tab xs i = true := decide_eq_true c
        have hend : faultD f tab xs = .tuple [.str "steady", .int (i : Nat)] := by rw [h1, hfd2, hs, if_pos hz]; rfl
        rw [hend] at k
        nomatch c, decide_false
        exact k _
    · obtain ⟨x3, hfd2, rfl⟩ := hP
      rw [List.length_map, List.length_range, Nat.sub_self] at hfd2
      have h2 : faultD f tab xs = endD xs := by rw [h1, hfd2]; rfl
      rw [h2] at k
      unfold endD at k
      subst hK
      dsimp only
      refine seq_i fun Kc hK => ?_
      walk_at "go"
      subst hK
      refine seq_i fun Kc hK => ?_
      refine for_i fun Kx hKx => ?_
      nomatch tupI_eq
      refine hKx _ _ ⟨fun i env => ∃ x5, env = [some (.d (fr f)), some (.d (tbD tab)), some (.d (.tuple (xs.map .int))), x3, some (.d (.int (G (xs.take i) : Nat))), x5], ⟨none, rfl⟩, fun i x env hx2 hP => ?_, fun env hP => ?_⟩
      · obtain ⟨x5, rfl⟩ := hP
        rw [List.getElem?_map] at hx2
        obtain ⟨z, hz, rfl⟩ := Option.map_eq_some_iff.mp hx2
        walk_at "go"
        refine ⟨_, _, rfl, (hx.2 z (List.mem_of_getElem? hz)).1, fun os => ?_⟩
        walk_at "go"
        rw [show xs.take (i + 1) = xs.take i ++ [z] by rw [List.take_add_one, hz]; rfl, G_snoc]
        exact ⟨_, rfl⟩
      · obtain ⟨x5, rfl⟩ := hP
        rw [List.length_map, List.take_length]
        subst hK
        dsimp only
        refine seq_i fun Kc hK => ?_
        by_cases c : 1 < G xs
        · have c0 : (1 : Int) < (G xs : Nat) := by omega
          rw [if_pos c] at k
          nomatch c0, decide_true
          exact k _
        · have c0 : ¬ (1 : Int) < (G xs : Nat) := by omega
          rw [if_neg c] at k
          nomatch c0, decide_false
          subst hK
          walk_at "go"
          exact k _
theorem h_judge (hl : args.length = 3) (h : sp_judge args Q) : t_judge (KD Q) (startE 6 args) := by
  obtain ⟨f, m, tab, xs, rfl, hf, hT, hx, k⟩ := h
  obtain rfl := hT.1
  have hm2 := hT.2.1
  unfold t_judge
  refine seq_i fun Kc hK => ?_
  refine for_i fun Kx hKx => ?_
  nomatch tupI_eq, enum_ints hx
  rw [← tupI_eq]
  refine hKx _ _ ⟨fun i env => ∃ x3 x4, scn (zeroP xs) 0 tab.length = scn (zeroP xs) i (tab.length - i) ∧ env = [some (.d (fr f)), some (.d (tbD tab)), some (.d (tupI xs)), x3, x4, none], ⟨none, none, rfl, rfl⟩, fun i x env hx2 hP => ?_, fun env hP => ?_⟩
  · obtain ⟨x3, x4, hfd, rfl⟩ := hP
    rw [List.getElem?_map] at hx2
    obtain ⟨o, ho, rfl⟩ := Option.map_eq_some_iff.mp hx2
    obtain ⟨g1, g2⟩ := List.getElem?_eq_some_iff.mp ho
    rw [List.getElem_range] at g2
    subst g2
    rw [List.length_range] at g1
    have hs := scn_step (zeroP xs) g1
    by_cases c : nx xs i = 0
    · have hz : zeroP xs i = true := decide_eq_true c
      have hend : faultD f tab xs = .tuple [.str "zero", .int (i : Nat)] := by unfold faultD; rw [hfd, hs, if_pos hz]; rfl
      rw [hend] at k
      nomatch c, decide_true
      exact k _
    · have hz : ¬ zeroP xs i = true := fun z => c (of_decide_eq_true z)
      rw [hs, if_neg hz] at hfd
      nomatch c, decide_false
      exact ⟨_, _, hfd, rfl⟩
  · obtain ⟨x30, x4, hfd, rfl⟩ := hP
    rw [List.length_map, List.length_range, Nat.sub_self] at hfd
    have h1 : faultD f tab xs = nextD f tab xs (scn (badP f tab xs) 0 tab.length) := by unfold faultD; rw [hfd]; rfl
    subst hK
    dsimp only
    refine seq_i fun Kc hK => ?_
    refine for_i fun Kx hKx => ?_
    nomatch tbD_eq
    rw [← tbD_eq, rng_map]
    refine ⟨by omega, ?_⟩
    refine hKx _ _ ⟨fun i env => ∃ x3, scn (badP f tab xs) 0 tab.length = scn (badP f tab xs) i (tab.length - i) ∧ env = [some (.d (fr f)), some (.d (tbD tab)), some (.d (tupI xs)), x3, x4, none], ⟨_, rfl, rfl⟩, fun i x env hx2 hP => ?_, fun env hP => ?_⟩
    · obtain ⟨x3, hfd2, rfl⟩ := hP
      rw [← rng_map] at hx2
      obtain ⟨rfl, hi⟩ := rng_at hx2
      have hi2 : i < tab.length := by omega
      have hs := scn_step (badP f tab xs) hi2
      refine ⟨by simp, ?_⟩
      simp only [List.set_cons_zero, List.set_cons_succ]
      walk_at "go"
      refine ⟨f, tab.length, tab, xs, i, rfl, hf, hT, hx, hi2, fun os => ?_⟩
      by_cases c : HoldsP f tab xs i
      · have hz : ¬ badP f tab xs i = true := by simp [badP, c]
        rw [hs, if_neg hz] at hfd2
        nomatch c, decide_true
        exact ⟨_, hfd2, rfl⟩
      · have hz : badP f tab xs i = true := decide_eq_true c
        have hend : faultD f tab xs = .tuple [.str "steady", .int (i : Nat)] := by rw [h1, hfd2, hs, if_pos hz]; rfl
        rw [hend] at k
        nomatch c, decide_false
        exact k _
    · obtain ⟨x3, hfd2, rfl⟩ := hP
      rw [List.length_map, List.length_range, Nat.sub_self] at hfd2
      have h2 : faultD f tab xs = endD xs := by rw [h1, hfd2]; rfl
      rw [h2] at k
      unfold endD at k
      subst hK
      dsimp only
      refine seq_i fun Kc hK => ?_
      walk_at "go"
      refine ⟨xs, rfl, by rw [hx.1]; omega, fun os => ?_⟩
      walk_at "go"
      subst hK
      refine seq_i fun Kc hK => ?_
      by_cases c : 1 < G xs
      · have c0 : (1 : Int) < (G xs : Nat) := by omega
        rw [if_pos c] at k
        nomatch c0, decide_true
        exact k _
      · have c0 : ¬ (1 : Int) < (G xs : Nat) := by omega
        rw [if_neg c] at k
        nomatch c0, decide_false
        subst hK
        walk_at "go"
        exact k _
end
end Dlk24

set_option Elab.async false
set_option linter.all false
set_option maxRecDepth 100000
set_option maxHeartbeats 4000000
set_option autoImplicit false
namespace Dlk24
open PySem PySem.Spec L2 DL Dlk23
local macro_rules | `(tactic| walk_at "go") => `(tactic| simp only [outE_i, outE_n, sz0, sz1, sz2, sz3, sz4, sz5, sz6, sz7, sz8, sz9, sz10, sz11, sz12, sz13, sz14, sz15, sz16, ↓tdFr, ↓frE, ↓rdDivmod, ↓rdNotIn, ↓tdTru, ↓rdMulW, ↓rdGcd, ↓rdRgV, ↓tdRgI, ↓tdEnum2, ↓tdZip2, ↓tdPar, ↓tdRevA, ↓tdRevR, ↓rdDivP, ↓tdTupRg, ↓tdSortSet, ↓tdRepV, ↓tdSwap, ↓rdLcm, ↓startE, ↓tdSeq, ↓tdSet, ↓tdSetD, ↓tdDrop, ↓tdRet, ↓tdIfS, ↓tdNext, ↓tdAsg, ↓tdV, ↓tdC, ↓tdBin, ↓tdB, ↓tdCons, ↓tdNil, ↓tdTup, ↓tdLst, ↓tdTest, ↓tdAnd, ↓tdOr, ↓tdNot, ↓tdIf, ↓tdAndV, ↓tdOrV, ↓tdNotV, ↓tdNeg, ↓tdIsN, ↓tdNotN, ↓tdSl, ↓tdPart, ↓tdNoPart, ↓tdM, ↓tdSetIx, ↓tdAug, ↓tdPut, ↓tdGet2, ↓tdIsi, ↓tdListRg, ↓gdName, ↓gdNil, ↓gdCons, ↓gdTup, ↓tdIt, ↓tdRng1, ↓tdRng2, ↓tdCall, ↓tdNew, ↓tdJoin, ↓gcName, ↓gcNil, ↓gcCons, ↓gcTup, ↓tdYes, ↓res, ↓resR, ↓resAll, ↓rvD, ↓rdLen, ↓rdInt, ↓rdAbs, ↓rdMax2, ↓rdMin2, ↓rdOrd, ↓rdTuple, ↓rdList, ↓rdIx, ↓rdAdd, ↓rdSub, ↓rdMul, ↓rdMod, ↓rdDiv, ↓rdPow, ↓rdCmp, ↓rdEq, ↓rdNe, ↓rdIadd, ↓rdIn, ↓rdSorted, ↓rdSl, ↓isT, ↓rdAppend, ↓itemsOf, ↓rvOf, ↓argsOf, ↓argOf, Nat.reduceAdd, Nat.reduceLT, Nat.reduceSub, Int.reduceLT, Int.reduceLE, Int.reduceAdd, Int.reduceEq, Int.reduceNeg, Nat.reduceLeDiff, Nat.zero_add, Nat.reduceEqDiff, Nat.reduceBEq, ix41, ix42, ix43, ix40, List.length_cons, List.length_nil, List.map_cons, List.map_nil, List.replicate, List.cons_append, List.nil_append, List.getElem?_cons_zero, List.getElem?_cons_succ, List.set_cons_zero, List.set_cons_succ, Option.map_some, at0, at1, at2, at3, ix0, ix1, ix2, ix3, sh_int, sh_bl, sh_non, eqv_int, eqv_bl, eqv_str, decide_eq_true_eq, Bool.not_eq_true, Bool.not_true, Bool.not_false, Bool.false_eq_true, true_and, and_true, if_true, if_false, ite_true, ite_false, List.length_map, List.length_set, Sl.isD, List.mem_singleton, List.mem_cons, List.not_mem_nil, not_true_eq_false, not_false_eq_true, or_false])
local macro_rules | `(tactic| nomatch $xs,*) => `(tactic| simp only [$[$xs:term],*, outE_i, outE_n, sz0, sz1, sz2, sz3, sz4, sz5, sz6, sz7, sz8, sz9, sz10, sz11, sz12, sz13, sz14, sz15, sz16, ↓tdFr, ↓frE, ↓rdDivmod, ↓rdNotIn, ↓tdTru, ↓rdMulW, ↓rdGcd, ↓rdRgV, ↓tdRgI, ↓tdEnum2, ↓tdZip2, ↓tdPar, ↓tdRevA, ↓tdRevR, ↓rdDivP, ↓tdTupRg, ↓tdSortSet, ↓tdRepV, ↓tdSwap, ↓rdLcm, ↓startE, ↓tdSeq, ↓tdSet, ↓tdSetD, ↓tdDrop, ↓tdRet, ↓tdIfS, ↓tdNext, ↓tdAsg, ↓tdV, ↓tdC, ↓tdBin, ↓tdB, ↓tdCons, ↓tdNil, ↓tdTup, ↓tdLst, ↓tdTest, ↓tdAnd, ↓tdOr, ↓tdNot, ↓tdIf, ↓tdAndV, ↓tdOrV, ↓tdNotV, ↓tdNeg, ↓tdIsN, ↓tdNotN, ↓tdSl, ↓tdPart, ↓tdNoPart, ↓tdM, ↓tdSetIx, ↓tdAug, ↓tdPut, ↓tdGet2, ↓tdIsi, ↓tdListRg, ↓gdName, ↓gdNil, ↓gdCons, ↓gdTup, ↓tdIt, ↓tdRng1, ↓tdRng2, ↓tdCall, ↓tdNew, ↓tdJoin, ↓gcName, ↓gcNil, ↓gcCons, ↓gcTup, ↓tdYes, ↓res, ↓resR, ↓resAll, ↓rvD, ↓rdLen, ↓rdInt, ↓rdAbs, ↓rdMax2, ↓rdMin2, ↓rdOrd, ↓rdTuple, ↓rdList, ↓rdIx, ↓rdAdd, ↓rdSub, ↓rdMul, ↓rdMod, ↓rdDiv, ↓rdPow, ↓rdCmp, ↓rdEq, ↓rdNe, ↓rdIadd, ↓rdIn, ↓rdSorted, ↓rdSl, ↓isT, ↓rdAppend, ↓itemsOf, ↓rvOf, ↓argsOf, ↓argOf, Nat.reduceAdd, Nat.reduceLT, Nat.reduceSub, Int.reduceLT, Int.reduceLE, Int.reduceAdd, Int.reduceEq, Int.reduceNeg, Nat.reduceLeDiff, Nat.zero_add, Nat.reduceEqDiff, Nat.reduceBEq, ix41, ix42, ix43, ix40, List.length_cons, List.length_nil, List.map_cons, List.map_nil, List.replicate, List.cons_append, List.nil_append, List.getElem?_cons_zero, List.getElem?_cons_succ, List.set_cons_zero, List.set_cons_succ, Option.map_some, at0, at1, at2, at3, ix0, ix1, ix2, ix3, sh_int, sh_bl, sh_non, eqv_int, eqv_bl, eqv_str, decide_eq_true_eq, Bool.not_eq_true, Bool.not_true, Bool.not_false, Bool.false_eq_true, true_and, and_true, if_true, if_false, ite_true, ite_false, List.length_map, List.length_set, Sl.isD, List.mem_singleton, List.mem_cons, List.not_mem_nil, not_true_eq_false, not_false_eq_true, or_false])
theorem six_neg (n d k : Nat) (h : 0 < k) : HT.sIx n d (some (-(k : Int))) = n - k := by
  show (if -(k : Int) < 0 then (-(k : Int) + (n : Int)).toNat else min (-(k : Int)).toNat n) = n - k
  rw [if_pos (by omega)]
  omega
theorem Nums.mono {n b c : Nat} {xs : List Int} (h : Nums n b xs) (l : b ≤ c) : Nums n c xs := ⟨h.1, fun x hx => ⟨(h.2 x hx).1, (h.2 x hx).2.mono l⟩⟩
theorem Nums.set {n b : Nat} {xs : List Int} (h : Nums n b xs) (i : Nat) {v : Int} (hv : 0 ≤ v ∧ Sm b v) : Nums n b (xs.set i v) := by
  refine ⟨by rw [List.length_set]; exact h.1, fun x hx => ?_⟩
  rcases List.mem_or_eq_of_mem_set hx with q | q
  · exact h.2 x q
  · rw [q]; exact hv
theorem sm_one' {b : Nat} {x : Int} (h : Sm b x) : Sm (b + 1) (x + 1) ∧ Sm (b + 1) (x - 1) := by
  unfold Sm at *
  have := Nat.two_pow_pos b
  rw [Nat.pow_succ]
  omega
section
variable {args : List Sl} {Q : Sl → (Nat → Option Sl) → Prop}
theorem h_law_few_links (hl : args.length = 1) (h : sp_law_few_links args Q) : t_law_few_links (KD Q) (startE 7 args) := by
  obtain ⟨tp, rfl, t0, k⟩ := h
  unfold t_law_few_links
  refine seq_i fun Kc hK => ?_
  walk_at "go"
  refine draw_i (by first | decide | omega) (by assumption) (by first | decide | omega) fun r0 tp1 _ t1 r00 r01 => ?_
  obtain ⟨n0, rfl⟩ : ∃ n : Nat, r0 = n := ⟨r0.toNat, by omega⟩
  walk_at "go"
  rw [show (9 : Int) + (n0 : Nat) = ((9 + n0 : Nat) : Int) by omega]
  generalize hm : 9 + n0 = m
  subst hK
  refine seq_i fun Kc hK => ?_
  walk_at "go"
  subst hK
  refine seq_i fun Kc hK => ?_
  refine for_i fun Kx hKx => ?_
  walk_at "go"
  rw [rng_map]
  refine ⟨by omega, ?_⟩
  refine hKx _ _ ⟨fun i env => ∃ (tp : List PyData) (tl : Tab) (x3 x4 : Option Sl), (TapeOk tp ∧ tl.length = i ∧ (∀ s, x3 = some s → s.isD = true) ∧ (∀ s, x4 = some s → s.isD = true) ∧ ∀ (o : Nat) l, tl[o]? = some l → (1 ≤ l.1 ∧ l.1 ≤ 9) ∧ LeadOk m o l.2) ∧ env = [some (.l (tp)), some (.d (.int (m))), some (.l (tl.map lnD)), x3, x4, none, none], ⟨tp1, [], none, none, ⟨t1, rfl, (fun s h => by cases h), (fun s h => by cases h), fun o l ho => by simp at ho⟩, rfl⟩, fun i x env hx2 hP => ?_, fun env hP => ?_⟩
  · obtain ⟨tp2, tl, x3, x4, ⟨t2, htl, hx3, hx4, hok⟩, rfl⟩ := hP
    rw [← rng_map] at hx2
    obtain ⟨rfl, hi⟩ := rng_at hx2
    refine ⟨by simp, ?_⟩
    simp only [List.set_cons_zero, List.set_cons_succ]
    refine seq_i fun Kc hK => ?_
    walk_at "go"
    refine lc_inv (fun xs => ∃ r : Nat, r < 4 ∧ xs = rngL 0 r) (fun env => ∃ tp, TapeOk tp ∧ env = [some (.l (tp)), some (.d (.int (m))), some (.l (tl.map lnD)), some (.d (.int (i))), x4, none, none]) (fun y => ∃ z : Int, y = .int z ∧ 0 ≤ z ∧ z < m) (fun R hR => ?_) (fun xs hP => ?_) (fun xs x hP hx env hJ => ?_) (fun xs env acc hP hJ hlen hY => ?_)
    · walk_at "go"
      refine draw_i (by omega) t2 (by omega) fun r tp3 os t3 r0 r1 => ?_
      obtain ⟨rn, rfl⟩ : ∃ n : Nat, r = n := ⟨r.toNat, by omega⟩
      walk_at "go"
      exact ⟨by omega, hR _ _ ⟨rn, by omega, rfl⟩ ⟨_, t3, rfl⟩⟩
    · obtain ⟨r, hr, rfl⟩ := hP
      rw [rng_len]
      exact small_of (by omega)
    · obtain ⟨tp, ht, rfl⟩ := hJ
      refine ⟨by simp [noOwn], fun A B hA hB => ?_⟩
      nomatch wipeE
      refine draw_i (by omega) ht (by omega) fun r tp4 os t4 r0 r1 => ?_
      nomatch mergeE
      exact ⟨hA, hB _ _ ⟨_, t4, rfl⟩ ⟨_, rfl, r0, r1⟩⟩
    obtain ⟨r, hr, rfl⟩ := hP
    obtain ⟨tp3, t3, rfl⟩ := hJ
    obtain ⟨zs, rfl, hz⟩ := map_of PyData.int hY
    rw [List.length_map, rng_len] at hlen
    walk_at "go"
    refine ⟨zs, rfl, by omega, fun ms hms hmem => ?_⟩
    have hz2 : ∀ z ∈ ms, 0 ≤ z ∧ z < m := fun z hz3 => hz z ((hmem z).mp hz3)
    have hml : ms.length ≤ 12 := by
      have := lead_len (m := m) 0 (by omega) hms hz2
      omega
    subst hK
    walk_at "go"
    refine draw_i (by omega) t3 (by omega) fun r5 tp5 os t5 r50 r51 => ?_
    walk_at "go"
    refine lc_if ms PyData.int PyData.int (fun j => decide (j ≠ (i : Int))) (fun R hR => ?_) (small_of (by omega)) (by simp [noOwn]) (fun j hj A B C hA hB hC => ?_) ?_
    · walk_at "go"
      exact hR
    · by_cases c : j = (i : Int)
      · nomatch wipeE, mergeE, c, decide_true
        exact hB (by rw [c]; simp)
      · nomatch wipeE, mergeE, c, decide_false
        exact ⟨hA, hC (decide_eq_true c)⟩
    walk_at "go"
    refine ⟨Nat.lt_of_lt_of_le (show tl.length < 1001 by omega) (by decide), tp5, tl ++ [(1 + r5, ms.filter fun j => decide (j ≠ (i : Int)))], some (.d (.int (i : Nat))), some (.d (.list (ms.map .int))), ⟨t5, by rw [List.length_append, htl]; rfl, (fun s h => by cases h; rfl), (fun s h => by cases h; rfl), fun o l ho => ?_⟩, by rw [List.map_append]; rfl⟩
    rcases Nat.lt_or_ge o tl.length with q | q
    · rw [List.getElem?_append_left q] at ho
      exact hok o l ho
    · rw [List.getElem?_append_right q] at ho
      have e0 : o - tl.length = 0 := by
        have := (List.getElem?_eq_some_iff.mp ho).1
        rw [List.length_singleton] at this
        omega
      rw [e0] at ho
      cases ho
      refine ⟨⟨by show 1 ≤ 1 + r5; omega, by show 1 + r5 ≤ 9; omega⟩, List.Pairwise.filter _ hms, fun z hz3 => ?_⟩
      obtain ⟨z1, z2⟩ := List.mem_filter.mp hz3
      have := hz2 z z1
      have z3 := of_decide_eq_true z2
      exact ⟨this.1, this.2, fun e => z3 (by omega)⟩
  · obtain ⟨tp2, tl, x3, x4, ⟨t2, htl, hx3, hx4, hok⟩, rfl⟩ := hP
    rw [List.length_map, List.length_range] at htl
    subst hK
    walk_at "go"
    exact k m tl tp2 _ ⟨htl, by omega, hok⟩ t2 rfl
theorem h_law_moved (hl : args.length = 2) (h : sp_law_moved args Q) : t_law_moved (KD Q) (startE 4 args) := by
  obtain ⟨tp, n, xs, rfl, hn, hx0, t0, k⟩ := h
  have hx := hx0.mono (by decide : 210 ≤ 212)
  have hl := hx.1
  unfold t_law_moved
  rw [tupI_eq]
  refine seq_i fun Kc hK => ?_
  walk_at "go"
  subst hK
  refine seq_i fun Kc hK => ?_
  nomatch hl
  refine draw_i (by first | decide | omega) (by assumption) (by first | decide | omega) fun r1 tp1 _ t1 r10 r11 => ?_
  obtain ⟨i, rfl⟩ : ∃ i : Nat, r1 = i := ⟨r1.toNat, by omega⟩
  have hi : i < n := by omega
  have ai := at_nm hx hi
  have ix : ixN n (i : Int) = some i := ix_nat hi
  have bi := (hx0.at hi).2
  have hx1 : Nums n 212 (xs.set i (nx xs i + 1)) := hx.set i ⟨by omega, (sm_one' bi.2).1.mono (by decide)⟩
  have hl1 := hx1.1
  have hx1b : Nums n 211 (xs.set i (nx xs i + 1)) := (hx0.mono (by decide : 210 ≤ 211)).set i ⟨by omega, (sm_one' bi.2).1⟩
  walk_at "go"
  subst hK
  refine seq_i fun Kc hK => ?_
  nomatch ai, List.length_map, hl, ix
  rw [show (xs.map PyData.int).set i (.int (nx xs i + 1)) = (xs.set i (nx xs i + 1)).map .int from (List.map_set ..).symm]
  generalize xs.set i (nx xs i + 1) = ys at hx1 hl1 hx1b
  subst hK
  refine seq_i fun Kc hK => ?_
  nomatch List.length_map, hl1
  refine draw_i (by first | decide | omega) (by assumption) (by first | decide | omega) fun r2 tp2 _ t2 r20 r21 => ?_
  obtain ⟨j, rfl⟩ : ∃ j : Nat, r2 = j := ⟨r2.toNat, by omega⟩
  have hj : j < n := by omega
  have aj := at_nm hx1 hj
  have jx : ixN n (j : Int) = some j := ix_nat hj
  have bj := (hx1b.at hj).2
  walk_at "go"
  subst hK
  refine seq_i fun Kc hK => ?_
  by_cases c : 0 < nx ys j
  · have hx2 : Nums n 220 (ys.set j (nx ys j - 1)) := (hx1.mono (by decide)).set j ⟨by omega, (sm_one' bj.2).2.mono (by decide)⟩
    nomatch aj, c, decide_true, List.length_map, hl1, jx
    rw [show (ys.map PyData.int).set j (.int (nx ys j - 1)) = (ys.set j (nx ys j - 1)).map .int from (List.map_set ..).symm]
    subst hK
    walk_at "go"
    exact k _ tp2 _ hx2 t2 rfl
  · nomatch aj, c, decide_false
    subst hK
    walk_at "go"
    exact k _ tp2 _ (hx1.mono (by decide)) t2 rfl
theorem h_law_last_two (hl : args.length = 1) (h : sp_law_last_two args Q) : t_law_last_two (KD Q) (startE 2 args) := by
  obtain ⟨n, xs, rfl, hn, hx, k⟩ := h
  have hl := hx.1
  have c1 : cutL (xs.map PyData.int) none (some (-2)) = (xs.take (n - 2)).map .int := by
    rw [cutL_map, show HT.sIx xs.length xs.length (some (-2)) = n - 2 by rw [← hl]; exact six_neg xs.length xs.length 2 (by decide)]
    rfl
  have c2 : cutL (xs.map PyData.int) (some (-2)) (some (-1)) = ((xs.drop (n - 2)).take (n - 1 - (n - 2))).map .int := by
    rw [cutL_map, show HT.sIx xs.length xs.length (some (-1)) = n - 1 by rw [← hl]; exact six_neg xs.length xs.length 1 (by decide), show HT.sIx xs.length 0 (some (-2)) = n - 2 by rw [← hl]; exact six_neg xs.length 0 2 (by decide)]
  have c3 := at_neg1 PyData.int xs (by omega)
  have b3 := hx.2 (xs[xs.length - 1]'(by omega)) (List.getElem_mem _)
  generalize xs[xs.length - 1]'(by omega) = z at c3 b3
  have l1 : (xs.take (n - 2)).length = n - 2 := by rw [List.length_take]; omega
  have l2 : ((xs.drop (n - 2)).take (n - 1 - (n - 2))).length = n - 1 - (n - 2) := by rw [List.length_take, List.length_drop]; omega
  have n2 : (-(2 : Int)) = -2 := rfl
  have n1 : (-(1 : Int)) = -1 := rfl
  unfold t_law_last_two
  rw [tupI_eq]
  nomatch n2, n1, c1, c2
  refine lc_map ((xs.drop (n - 2)).take (n - 1 - (n - 2))) PyData.int (fun z => .int (z + 1)) (fun R hR => ?_) (small_of (by omega)) (by simp [noOwn]) (fun x hx A B hA hB => ?_) ?_
  · nomatch n2, n1, c2
    exact hR
  · nomatch wipeE, mergeE
    exact ⟨hA, hB⟩
  have em : (if z - 1 > 1 then z - 1 else 1) = max 1 (z - 1) := by split <;> omega
  nomatch n1, c3, em
  refine ⟨small_of (by omega), small_of (by simp only [List.length_append, List.length_map, List.length_take, List.length_drop, List.length_singleton, List.length_cons, List.length_nil]; omega), ?_⟩
  have e : (xs.take (n - 2)).map PyData.int ++ ((xs.drop (n - 2)).take (n - 1 - (n - 2))).map (fun z => PyData.int (z + 1)) ++ [PyData.int (max 1 (z - 1))] = (xs.take (n - 2) ++ ((xs.drop (n - 2)).take (n - 1 - (n - 2))).map (· + 1) ++ [max 1 (z - 1)]).map .int := by
    rw [List.map_append, List.map_append, List.map_map]; rfl
  rw [e]
  refine k _ _ ⟨?_, fun x hx2 => ?_⟩
  · rw [List.length_append, List.length_append, List.length_map, l1, l2, List.length_singleton]; omega
  · rcases List.mem_append.mp hx2 with q | q
    · rcases List.mem_append.mp q with q | q
      · have := hx.2 x (List.mem_of_mem_take q)
        exact ⟨this.1, this.2.mono (by decide)⟩
      · obtain ⟨y, hy, rfl⟩ := List.mem_map.mp q
        have := hx.2 y (List.mem_of_mem_drop (List.mem_of_mem_take hy))
        exact ⟨by omega, (sm_one' this.2).1.mono (by decide)⟩
    · rw [List.mem_singleton.mp q]
      refine ⟨by omega, ?_⟩
      have := (sm_one' b3.2).2
      unfold Sm at *
      omega
end
end Dlk24

set_option Elab.async false
set_option linter.all false
set_option maxRecDepth 100000
set_option maxHeartbeats 4000000
set_option autoImplicit false
namespace Dlk24
open PySem PySem.Spec L2 DL Dlk23
local macro_rules | `(tactic| walk_at "go") => `(tactic| simp only [outE_i, outE_n, sz0, sz1, sz2, sz3, sz4, sz5, sz6, sz7, sz8, sz9, sz10, sz11, sz12, sz13, sz14, sz15, sz16, ↓tdFr, ↓frE, ↓rdDivmod, ↓rdNotIn, ↓tdTru, ↓rdMulW, ↓rdGcd, ↓rdRgV, ↓tdRgI, ↓tdEnum2, ↓tdZip2, ↓tdPar, ↓tdRevA, ↓tdRevR, ↓rdDivP, ↓tdTupRg, ↓tdSortSet, ↓tdRepV, ↓tdSwap, ↓rdLcm, ↓startE, ↓tdSeq, ↓tdSet, ↓tdSetD, ↓tdDrop, ↓tdRet, ↓tdIfS, ↓tdNext, ↓tdAsg, ↓tdV, ↓tdC, ↓tdBin, ↓tdB, ↓tdCons, ↓tdNil, ↓tdTup, ↓tdLst, ↓tdTest, ↓tdAnd, ↓tdOr, ↓tdNot, ↓tdIf, ↓tdAndV, ↓tdOrV, ↓tdNotV, ↓tdNeg, ↓tdIsN, ↓tdNotN, ↓tdSl, ↓tdPart, ↓tdNoPart, ↓tdM, ↓tdSetIx, ↓tdAug, ↓tdPut, ↓tdGet2, ↓tdIsi, ↓tdListRg, ↓gdName, ↓gdNil, ↓gdCons, ↓gdTup, ↓tdIt, ↓tdRng1, ↓tdRng2, ↓tdCall, ↓tdNew, ↓tdJoin, ↓gcName, ↓gcNil, ↓gcCons, ↓gcTup, ↓tdYes, ↓res, ↓resR, ↓resAll, ↓rvD, ↓rdLen, ↓rdInt, ↓rdAbs, ↓rdMax2, ↓rdMin2, ↓rdOrd, ↓rdTuple, ↓rdList, ↓rdIx, ↓rdAdd, ↓rdSub, ↓rdMul, ↓rdMod, ↓rdDiv, ↓rdPow, ↓rdCmp, ↓rdEq, ↓rdNe, ↓rdIadd, ↓rdIn, ↓rdSorted, ↓rdSl, ↓isT, ↓rdAppend, ↓itemsOf, ↓rvOf, ↓argsOf, ↓argOf, Nat.reduceAdd, Nat.reduceLT, Nat.reduceSub, Int.reduceLT, Int.reduceLE, Int.reduceAdd, Int.reduceEq, Int.reduceNeg, Nat.reduceLeDiff, Nat.zero_add, Nat.reduceEqDiff, Nat.reduceBEq, ix41, ix42, ix43, ix40, List.length_cons, List.length_nil, List.map_cons, List.map_nil, List.replicate, List.cons_append, List.nil_append, List.getElem?_cons_zero, List.getElem?_cons_succ, List.set_cons_zero, List.set_cons_succ, Option.map_some, at0, at1, at2, at3, ix0, ix1, ix2, ix3, sh_int, sh_bl, sh_non, eqv_int, eqv_bl, eqv_str, decide_eq_true_eq, Bool.not_eq_true, Bool.not_true, Bool.not_false, Bool.false_eq_true, true_and, and_true, if_true, if_false, ite_true, ite_false, List.length_map, List.length_set, Sl.isD, List.mem_singleton, List.mem_cons, List.not_mem_nil, not_true_eq_false, not_false_eq_true, or_false])
local macro_rules | `(tactic| nomatch $xs,*) => `(tactic| simp only [$[$xs:term],*, outE_i, outE_n, sz0, sz1, sz2, sz3, sz4, sz5, sz6, sz7, sz8, sz9, sz10, sz11, sz12, sz13, sz14, sz15, sz16, ↓tdFr, ↓frE, ↓rdDivmod, ↓rdNotIn, ↓tdTru, ↓rdMulW, ↓rdGcd, ↓rdRgV, ↓tdRgI, ↓tdEnum2, ↓tdZip2, ↓tdPar, ↓tdRevA, ↓tdRevR, ↓rdDivP, ↓tdTupRg, ↓tdSortSet, ↓tdRepV, ↓tdSwap, ↓rdLcm, ↓startE, ↓tdSeq, ↓tdSet, ↓tdSetD, ↓tdDrop, ↓tdRet, ↓tdIfS, ↓tdNext, ↓tdAsg, ↓tdV, ↓tdC, ↓tdBin, ↓tdB, ↓tdCons, ↓tdNil, ↓tdTup, ↓tdLst, ↓tdTest, ↓tdAnd, ↓tdOr, ↓tdNot, ↓tdIf, ↓tdAndV, ↓tdOrV, ↓tdNotV, ↓tdNeg, ↓tdIsN, ↓tdNotN, ↓tdSl, ↓tdPart, ↓tdNoPart, ↓tdM, ↓tdSetIx, ↓tdAug, ↓tdPut, ↓tdGet2, ↓tdIsi, ↓tdListRg, ↓gdName, ↓gdNil, ↓gdCons, ↓gdTup, ↓tdIt, ↓tdRng1, ↓tdRng2, ↓tdCall, ↓tdNew, ↓tdJoin, ↓gcName, ↓gcNil, ↓gcCons, ↓gcTup, ↓tdYes, ↓res, ↓resR, ↓resAll, ↓rvD, ↓rdLen, ↓rdInt, ↓rdAbs, ↓rdMax2, ↓rdMin2, ↓rdOrd, ↓rdTuple, ↓rdList, ↓rdIx, ↓rdAdd, ↓rdSub, ↓rdMul, ↓rdMod, ↓rdDiv, ↓rdPow, ↓rdCmp, ↓rdEq, ↓rdNe, ↓rdIadd, ↓rdIn, ↓rdSorted, ↓rdSl, ↓isT, ↓rdAppend, ↓itemsOf, ↓rvOf, ↓argsOf, ↓argOf, Nat.reduceAdd, Nat.reduceLT, Nat.reduceSub, Int.reduceLT, Int.reduceLE, Int.reduceAdd, Int.reduceEq, Int.reduceNeg, Nat.reduceLeDiff, Nat.zero_add, Nat.reduceEqDiff, Nat.reduceBEq, ix41, ix42, ix43, ix40, List.length_cons, List.length_nil, List.map_cons, List.map_nil, List.replicate, List.cons_append, List.nil_append, List.getElem?_cons_zero, List.getElem?_cons_succ, List.set_cons_zero, List.set_cons_succ, Option.map_some, at0, at1, at2, at3, ix0, ix1, ix2, ix3, sh_int, sh_bl, sh_non, eqv_int, eqv_bl, eqv_str, decide_eq_true_eq, Bool.not_eq_true, Bool.not_true, Bool.not_false, Bool.false_eq_true, true_and, and_true, if_true, if_false, ite_true, ite_false, List.length_map, List.length_set, Sl.isD, List.mem_singleton, List.mem_cons, List.not_mem_nil, not_true_eq_false, not_false_eq_true, or_false])
theorem set_cut {xs : List Int} {k : Nat} (h : k < xs.length) (v : Int) : (xs.take k).map PyData.int ++ [PyData.int v] ++ (xs.drop (k + 1)).map PyData.int = (xs.set k v).map .int := by
  rw [List.set_eq_take_append_cons_drop, if_pos h, List.map_append, List.map_cons, List.append_assoc]
  rfl
theorem num_nums {n : Nat} {xs : List Int} (h : NumOk n xs) : Nums n 200 xs := ⟨h.1, fun x hx => ⟨Int.le_of_lt (h.2 x hx).1, (h.2 x hx).2⟩⟩
theorem at_fin (f : List Int → PyData) (l : List (List Int)) (a b : List Int) : atI ((l ++ [a, b]).map f) (-1) = some (f b) ∧ atI ((l ++ [a, b]).map f) (-2) = some (f a) := by
  have hl : ((l ++ [a, b]).map f).length = l.length + 2 := by rw [List.length_map, List.length_append]; rfl
  constructor
  · have e : ixN ((l ++ [a, b]).map f).length (-1) = some (l.length + 1) := by
      rw [hl]; unfold ixN; rw [if_neg (by omega), if_pos (by omega)]; congr 1; omega
    unfold atI
    rw [e]
    show ((l ++ [a, b]).map f)[l.length + 1]? = _
    rw [List.getElem?_map, List.getElem?_append_right (by omega), show l.length + 1 - l.length = 1 by omega]
    rfl
  · have e : ixN ((l ++ [a, b]).map f).length (-2) = some l.length := by
      rw [hl]; unfold ixN; rw [if_neg (by omega), if_pos (by omega)]; congr 1; omega
    unfold atI
    rw [e]
    show ((l ++ [a, b]).map f)[l.length]? = _
    rw [List.getElem?_map, List.getElem?_append_right (by omega), Nat.sub_self]
    rfl
/-! the parts are without a fault -/
theorem scn_none {p : Nat → Bool} : ∀ (k i : Nat), (∀ o, o < i + k → p o = false) → scn p i k = none
  | 0, _, _ => rfl
  | k + 1, i, h => by
    rw [scn, if_neg (by rw [h i (by omega)]; decide)]
    exact scn_none k (i + 1) fun o ho => h o (by omega)
theorem sum_cast (g : Nat → Int) : ∀ l : List Nat, (((l.map g).sum : Int) : Rat) = sm l fun i => ((g i : Int) : Rat)
  | [] => rfl
  | a :: r => by rw [List.map_cons, List.sum_cons, Rat.intCast_add, sum_cast g r, sm]
theorem holds_of {f : Rat} {tab : Tab} {xs : List Int} (hf : Fol f) (h : TabOk tab.length tab) (hx : NumOk tab.length xs) (hs : Std f tab xs) {j : Nat} (hj : j < tab.length) : HoldsP f tab xs j := by
  have hX := (num_tot hx h.2.1).1
  have hXr := ne_cast hX
  have hSs := tab_sum h
  have hS := ne_cast (show 0 < sumS tab by omega)
  have hd := ne_cast (den_pos f)
  have hfe : (f.num : Rat) = f * ((f.den : Int) : Rat) := by
    have e := fr_self f
    rw [Rat.divInt_eq_div] at e
    have e2 : (f.num : Rat) / ((f.den : Int) : Rat) * ((f.den : Int) : Rat) = (f.num : Rat) := Rat.div_mul_cancel hd
    rw [e] at e2
    exact e2.symm
  have hw : ∀ i, wt xs i = ((nx xs i : Int) : Rat) * (1 / (xs.sum : Rat)) := fun i => by
    unfold wt
    rw [Rat.divInt_eq_div, Rat.div_def]; grind
  have ha : ((Dlk23.stI tab j : Int) : Rat) = anewQ tab j * (sumS tab : Rat) := by
    rw [anew_nx, Rat.divInt_eq_div]
    exact (Rat.div_mul_cancel hS).symm
  have hA : ((arrI tab xs 27720 j : Int) : Rat) = (sm (leadTo tab j) fun i => ((nx xs i : Int) : Rat) * onP tab i j) * 27720 := by
    unfold arrI
    rw [sum_cast, ← sm_mul]
    refine sm_congr fun i hi => ?_
    obtain ⟨h1, h2, h3⟩ := lead_ld hi
    have hl := len_pos h2
    have hlr := ne_cast hl
    obtain ⟨q, hq⟩ := (mul_self tab.length tab h).2.2 i h1 h2
    have e1 : (27720 : Int) / ((ld tab i).length : Nat) = q := by
      have : (27720 : Int) = ((ld tab i).length : Nat) * (q : Int) := by
        have h4 : ((27720 : Nat) : Int) = (((ld tab i).length * q : Nat) : Int) := by rw [← hq]
        rw [Int.natCast_mul] at h4
        exact h4
      rw [this]; exact Int.mul_ediv_cancel_left _ (by omega)
    have e2 : (27720 : Rat) = (((ld tab i).length : Int) : Rat) * ((q : Int) : Rat) := by
      rw [← Rat.intCast_mul, ← Int.natCast_mul, ← hq]; rfl
    unfold onP
    rw [e1, if_pos h3, Rat.intCast_mul, e2, Rat.divInt_eq_div]
    have e3 : ((1 : Int) : Rat) = 1 := rfl
    rw [e3]
    grind
  have hE : ((((dead tab).map (nx xs)).sum : Int) : Rat) = sm (dead tab) fun i => ((nx xs i : Int) : Rat) := sum_cast _ _
  -- the step
  have h0 := hs j hj
  have e1 : sm (List.range tab.length) (fun i => wt xs i * stepQ f tab i j) = sm (List.range tab.length) (fun i => (wt xs i * ((1 - f) * anewQ tab j) + (wt xs i * onP tab i j) * f) + (if ld tab i = [] then wt xs i else 0) * (f * anewQ tab j)) := sm_congr fun i hi => by
    unfold stepQ
    rw [on_P h (List.mem_range.mp hi) j]
    by_cases c : ld tab i = []
    · rw [if_pos c, if_pos c]; grind
    · rw [if_neg c, if_neg c]; grind
  have e2 : sm (List.range tab.length) (fun i => wt xs i) = 1 := wt_one hx h.2.1
  have e3 : sm (List.range tab.length) (fun i => wt xs i * onP tab i j) = (sm (leadTo tab j) fun i => ((nx xs i : Int) : Rat) * onP tab i j) * (1 / (xs.sum : Rat)) := by
    rw [← sm_mul]
    unfold leadTo
    rw [sm_filter]
    refine sm_congr fun i _ => ?_
    by_cases c : (j : Int) ∈ ld tab i
    · rw [if_pos (decide_eq_true c), hw i]; grind
    · rw [if_neg (fun z => c (of_decide_eq_true z))]
      unfold onP
      rw [if_neg c]; grind
  have e4 : sm (List.range tab.length) (fun i => if ld tab i = [] then wt xs i else 0) = (sm (dead tab) fun i => ((nx xs i : Int) : Rat)) * (1 / (xs.sum : Rat)) := by
    rw [← sm_mul]
    unfold dead
    rw [sm_filter]
    refine sm_congr fun i _ => ?_
    by_cases c : ld tab i = []
    · rw [if_pos c, if_pos (decide_eq_true c), hw i]
    · rw [if_neg c, if_neg (fun z => c (of_decide_eq_true z))]
  rw [e1, sm_add, sm_add, sm_mul, sm_mul, sm_mul, e2, e3, e4, hw j] at h0
  unfold HoldsP frI
  refine cast_inj ?_
  have e5 : ((27720 : Int) : Rat) = 27720 := rfl
  simp only [Rat.intCast_mul, Rat.intCast_add, Rat.intCast_sub, hA, hE, ha, hfe, e5]
  generalize sm (leadTo tab j) (fun i => ((nx xs i : Int) : Rat) * onP tab i j) = A at *
  generalize sm (dead tab) (fun i => ((nx xs i : Int) : Rat)) = E at *
  generalize ((nx xs j : Int) : Rat) = x at *
  generalize (xs.sum : Rat) = X at *
  generalize anewQ tab j = a at *
  have h1 : x = (1 - f) * a * X + A * f + E * (f * a) := by
    have h2 : x * (1 / X) * X = x := by
      rw [Rat.mul_assoc, show (1 / X) * X = 1 from Rat.div_mul_cancel hXr, Rat.mul_one]
    have h3 : (1 / X) * X = 1 := Rat.div_mul_cancel hXr
    grind
  rw [h1]
  grind
theorem fine {f : Rat} {m : Nat} {tab : Tab} {xs : List Int} (hf : Fol f) (h : TabOk m tab) (hx : NumOk m xs) (hs : Std f tab xs) (hg : G xs = 1) : faultD f tab xs = .none := by
  obtain rfl := h.1
  have h1 : scn (zeroP xs) 0 tab.length = none := scn_none _ 0 fun o ho => by
    have := (hx.2 _ (nx_mem hx (show o < tab.length by omega)).2).1
    exact decide_eq_false (by omega)
  have h2 : scn (badP f tab xs) 0 tab.length = none := scn_none _ 0 fun o ho => decide_eq_false fun z => z (holds_of hf h hx hs (by omega))
  unfold faultD
  rw [h1]
  unfold firstD
  dsimp only
  rw [h2]
  unfold nextD endD
  dsimp only
  rw [hg]
  rfl
def CaseOk (c : PyData) : Prop := ∃ f m tab xs, c = caseD f tab xs ∧ Fol f ∧ TabOk m tab ∧ Nums m 220 xs
theorem sb_tup {d : Nat} {xs : List PyData} (h : xs.length ≤ 1000) (h2 : ∀ x ∈ xs, sameB d x = true) : sameB (d + 1) (.tuple xs) = true := by
  unfold sameB
  rw [Bool.and_eq_true]
  exact ⟨decide_eq_true (small_of h), List.all_eq_true.mpr h2⟩
theorem sb_two (w : Str) (hw : sameB 4 (.str w) = true) (i : Int) : sameB 5 (.tuple [.str w, .int i]) = true := sb_tup (by simp) fun x hx => by
  simp only [List.mem_cons, List.not_mem_nil, or_false] at hx
  rcases hx with rfl | rfl
  · exact hw
  · rfl
theorem sb_fault (f : Rat) (tab : Tab) (xs : List Int) : sameB 5 (faultD f tab xs) = true := by
  unfold faultD firstD
  split
  · exact sb_two _ (by decide +kernel) _
  · unfold nextD
    split
    · exact sb_two _ (by decide +kernel) _
    · unfold endD
      split
      · exact sb_two _ (by decide +kernel) _
      · rfl
theorem same_i {x : PyData} {R : Sl → (Nat → Option Sl) → Prop} (h : sameB 5 x = true) (k : ∀ os, R (.d (.bool true)) os) : sp_law_same [.d x, .d x] R := ⟨x, rfl, h, k⟩
theorem at_of {xs : List PyData} {k : Int} (h : 0 ≤ k) (h2 : k < xs.length) : ∃ c, atI xs k = some c ∧ c ∈ xs := by
  obtain ⟨j, rfl⟩ : ∃ j : Nat, k = j := ⟨k.toNat, by omega⟩
  have hj : j < xs.length := by omega
  exact ⟨xs[j], atI_nat (List.getElem?_eq_getElem hj), List.getElem_mem hj⟩
section
variable {args : List Sl} {Q : Sl → (Nat → Option Sl) → Prop}
theorem h_law_cases (hl : args.length = 3) (h : sp_law_cases args Q) : t_law_cases (KD Q) (startE 4 args) := by
  obtain ⟨f, m, tab, told, rfl, hf, hT, hn, hx, k⟩ := h
  unfold t_law_cases
  walk_at "go"
  refine lc_map told tupI (caseD f tab) (fun R hR => ?_) (small_of (by omega)) (by simp [noOwn]) (fun xs hxs A B hA hB => ?_) ?_
  · walk_at "go"
    exact hR
  · nomatch wipeE
    refine ⟨f, m, tab, xs, rfl, hf, hT, hx xs hxs, fun os => ?_⟩
    nomatch mergeE
    exact ⟨hA, hB⟩
  walk_at "go"
  exact k _
end
end Dlk24

set_option Elab.async false
set_option linter.all false
set_option maxRecDepth 100000
set_option maxHeartbeats 4000000
set_option autoImplicit false
namespace Dlk24
open PySem PySem.Spec L2 DL Dlk23
local macro_rules | `(tactic| walk_at "go") => `(tactic| simp only [outE_i, outE_n, sz0, sz1, sz2, sz3, sz4, sz5, sz6, sz7, sz8, sz9, sz10, sz11, sz12, sz13, sz14, sz15, sz16, ↓tdFr, ↓frE, ↓rdDivmod, ↓rdNotIn, ↓tdTru, ↓rdMulW, ↓rdGcd, ↓rdRgV, ↓tdRgI, ↓tdEnum2, ↓tdZip2, ↓tdPar, ↓tdRevA, ↓tdRevR, ↓rdDivP, ↓tdTupRg, ↓tdSortSet, ↓tdRepV, ↓tdSwap, ↓rdLcm, ↓startE, ↓tdSeq, ↓tdSet, ↓tdSetD, ↓tdDrop, ↓tdRet, ↓tdIfS, ↓tdNext, ↓tdAsg, ↓tdV, ↓tdC, ↓tdBin, ↓tdB, ↓tdCons, ↓tdNil, ↓tdTup, ↓tdLst, ↓tdTest, ↓tdAnd, ↓tdOr, ↓tdNot, ↓tdIf, ↓tdAndV, ↓tdOrV, ↓tdNotV, ↓tdNeg, ↓tdIsN, ↓tdNotN, ↓tdSl, ↓tdPart, ↓tdNoPart, ↓tdM, ↓tdSetIx, ↓tdAug, ↓tdPut, ↓tdGet2, ↓tdIsi, ↓tdListRg, ↓gdName, ↓gdNil, ↓gdCons, ↓gdTup, ↓tdIt, ↓tdRng1, ↓tdRng2, ↓tdCall, ↓tdNew, ↓tdJoin, ↓gcName, ↓gcNil, ↓gcCons, ↓gcTup, ↓tdYes, ↓res, ↓resR, ↓resAll, ↓rvD, ↓rdLen, ↓rdInt, ↓rdAbs, ↓rdMax2, ↓rdMin2, ↓rdOrd, ↓rdTuple, ↓rdList, ↓rdIx, ↓rdAdd, ↓rdSub, ↓rdMul, ↓rdMod, ↓rdDiv, ↓rdPow, ↓rdCmp, ↓rdEq, ↓rdNe, ↓rdIadd, ↓rdIn, ↓rdSorted, ↓rdSl, ↓isT, ↓rdAppend, ↓itemsOf, ↓rvOf, ↓argsOf, ↓argOf, Nat.reduceAdd, Nat.reduceLT, Nat.reduceSub, Int.reduceLT, Int.reduceLE, Int.reduceAdd, Int.reduceEq, Int.reduceNeg, Nat.reduceLeDiff, Nat.zero_add, Nat.reduceEqDiff, Nat.reduceBEq, ix41, ix42, ix43, ix40, List.length_cons, List.length_nil, List.map_cons, List.map_nil, List.replicate, List.cons_append, List.nil_append, List.getElem?_cons_zero, List.getElem?_cons_succ, List.set_cons_zero, List.set_cons_succ, Option.map_some, at0, at1, at2, at3, ix0, ix1, ix2, ix3, sh_int, sh_bl, sh_non, eqv_int, eqv_bl, eqv_str, decide_eq_true_eq, Bool.not_eq_true, Bool.not_true, Bool.not_false, Bool.false_eq_true, true_and, and_true, if_true, if_false, ite_true, ite_false, List.length_map, List.length_set, Sl.isD, List.mem_singleton, List.mem_cons, List.not_mem_nil, not_true_eq_false, not_false_eq_true, or_false])
local macro_rules | `(tactic| nomatch $xs,*) => `(tactic| simp only [$[$xs:term],*, outE_i, outE_n, sz0, sz1, sz2, sz3, sz4, sz5, sz6, sz7, sz8, sz9, sz10, sz11, sz12, sz13, sz14, sz15, sz16, ↓tdFr, ↓frE, ↓rdDivmod, ↓rdNotIn, ↓tdTru, ↓rdMulW, ↓rdGcd, ↓rdRgV, ↓tdRgI, ↓tdEnum2, ↓tdZip2, ↓tdPar, ↓tdRevA, ↓tdRevR, ↓rdDivP, ↓tdTupRg, ↓tdSortSet, ↓tdRepV, ↓tdSwap, ↓rdLcm, ↓startE, ↓tdSeq, ↓tdSet, ↓tdSetD, ↓tdDrop, ↓tdRet, ↓tdIfS, ↓tdNext, ↓tdAsg, ↓tdV, ↓tdC, ↓tdBin, ↓tdB, ↓tdCons, ↓tdNil, ↓tdTup, ↓tdLst, ↓tdTest, ↓tdAnd, ↓tdOr, ↓tdNot, ↓tdIf, ↓tdAndV, ↓tdOrV, ↓tdNotV, ↓tdNeg, ↓tdIsN, ↓tdNotN, ↓tdSl, ↓tdPart, ↓tdNoPart, ↓tdM, ↓tdSetIx, ↓tdAug, ↓tdPut, ↓tdGet2, ↓tdIsi, ↓tdListRg, ↓gdName, ↓gdNil, ↓gdCons, ↓gdTup, ↓tdIt, ↓tdRng1, ↓tdRng2, ↓tdCall, ↓tdNew, ↓tdJoin, ↓gcName, ↓gcNil, ↓gcCons, ↓gcTup, ↓tdYes, ↓res, ↓resR, ↓resAll, ↓rvD, ↓rdLen, ↓rdInt, ↓rdAbs, ↓rdMax2, ↓rdMin2, ↓rdOrd, ↓rdTuple, ↓rdList, ↓rdIx, ↓rdAdd, ↓rdSub, ↓rdMul, ↓rdMod, ↓rdDiv, ↓rdPow, ↓rdCmp, ↓rdEq, ↓rdNe, ↓rdIadd, ↓rdIn, ↓rdSorted, ↓rdSl, ↓isT, ↓rdAppend, ↓itemsOf, ↓rvOf, ↓argsOf, ↓argOf, Nat.reduceAdd, Nat.reduceLT, Nat.reduceSub, Int.reduceLT, Int.reduceLE, Int.reduceAdd, Int.reduceEq, Int.reduceNeg, Nat.reduceLeDiff, Nat.zero_add, Nat.reduceEqDiff, Nat.reduceBEq, ix41, ix42, ix43, ix40, List.length_cons, List.length_nil, List.map_cons, List.map_nil, List.replicate, List.cons_append, List.nil_append, List.getElem?_cons_zero, List.getElem?_cons_succ, List.set_cons_zero, List.set_cons_succ, Option.map_some, at0, at1, at2, at3, ix0, ix1, ix2, ix3, sh_int, sh_bl, sh_non, eqv_int, eqv_bl, eqv_str, decide_eq_true_eq, Bool.not_eq_true, Bool.not_true, Bool.not_false, Bool.false_eq_true, true_and, and_true, if_true, if_false, ite_true, ite_false, List.length_map, List.length_set, Sl.isD, List.mem_singleton, List.mem_cons, List.not_mem_nil, not_true_eq_false, not_false_eq_true, or_false])
theorem rep_flat (n : Nat) (x : PyData) : (List.replicate n [x]).flatten = List.replicate n x := by
  induction n with
  | zero => rfl
  | succ n ih => rw [List.replicate_succ, List.flatten_cons, ih, List.replicate_succ]; rfl
section
variable {args : List Sl} {Q : Sl → (Nat → Option Sl) → Prop}
theorem h_law_bent (hl : args.length = 2) (h : sp_law_bent args Q) : t_law_bent (KD Q) (startE 12 args) := by
  obtain ⟨tp, n, xs, rfl, hn, hx, t0, k⟩ := h
  have hl := hx.1
  have hx0 := num_nums hx
  have hx210 := hx0.mono (by decide : 200 ≤ 210)
  have hx220 := hx0.mono (by decide : 200 ≤ 220)
  unfold t_law_bent
  rw [tupI_eq]
  refine seq_i fun Kc hK => ?_
  nomatch hl
  subst hK
  refine seq_i fun Kc hK => ?_
  walk_at "go"
  refine pick_ints [2, 3, 7, 10] (fun b => 2 ≤ b ∧ b ≤ 10) (by rfl) (by simp) t0 (by decide) fun b tp1 _ t1 hb => ?_
  walk_at "go"
  subst hK
  have sb : Sm 10 b := sm10 (by omega) (by omega)
  have hg : Nums n 210 (xs.map (· * b)) := ⟨by rw [List.length_map]; exact hl, fun x hx2 => by
    obtain ⟨y, hy, rfl⟩ := List.mem_map.mp hx2
    have := hx0.2 y hy
    exact ⟨Int.mul_nonneg this.1 (by omega), this.2.mul sb⟩⟩
  have hg220 := hg.mono (by decide : 210 ≤ 220)
  refine seq_i fun Kc hK => ?_
  walk_at "go"
  refine lc_map xs PyData.int (fun x => .int (x * b)) (fun R hR => ?_) (small_of (by omega)) (by simp [noOwn]) (fun x hx2 A B hA hB => ?_) ?_
  · walk_at "go"
    exact hR
  · nomatch wipeE, mergeE
    exact ⟨cm ((hx0.2 x hx2).2.mono (by decide)) (sb.mono (by decide)), hA, hB⟩
  walk_at "go"
  rw [show xs.map (fun x => PyData.int (x * b)) = (xs.map (· * b)).map .int by rw [List.map_map]; rfl]
  subst hK
  refine seq_i fun Kc hK => ?_
  walk_at "go"
  refine ⟨tp1, n, xs, rfl, hn, hx210, t1, fun y1 tp2 os hy1 t2 e2 => ?_⟩
  rw [← ios_eq e2]
  walk_at "go"
  refine ⟨n, xs, rfl, hn, hx210, fun y2 os hy2 => ?_⟩
  walk_at "go"
  refine ⟨n, xs.map (· * b), rfl, hn, hg, fun y3 os hy3 => ?_⟩
  walk_at "go"
  refine ⟨tp2, n, xs.map (· * b), rfl, hn, hg, t2, fun y4 tp3 os hy4 t3 e3 => ?_⟩
  rw [← ios_eq e3]
  walk_at "go"
  subst hK
  refine seq_i fun Kc hK => ?_
  refine for_i fun Kx hKx => ?_
  walk_at "go"
  refine hKx _ _ ⟨fun i env => ∃ (tp : List PyData) (bl : List (List Int)) (x7 x8 : Option Sl), (TapeOk tp ∧ (∀ ys ∈ bl, Nums n 220 ys) ∧ bl.length = 5 + i ∧ i ≤ 2) ∧ env = [some (.l (tp)), some (.d (.tuple (xs.map .int))), some (.d (.int (n))), some (.d (.int (b))), some (.d (.tuple ((xs.map (· * b)).map .int))), none, some (.l (tupI xs :: bl.map tupI)), x7, x8, none, none, none], ⟨tp3, [xs.map (· * b), y1, y2, y3, y4], none, none, ⟨t3, fun ys hys => ?_, rfl, by omega⟩, rfl⟩, fun i x env hx2 hP => ?_, fun env hP => ?_⟩
  · simp only [List.mem_cons, List.not_mem_nil, or_false] at hys
    rcases hys with rfl | rfl | rfl | rfl | rfl
    · exact hg220
    · exact hy1
    · exact hy2
    · exact hy3
    · exact hy4
  · obtain ⟨tp4, bl, x7, x8, ⟨t4, hbl, hbn, hi2⟩, rfl⟩ := hP
    have hi3 : i < 2 := (List.getElem?_eq_some_iff.mp hx2).1
    obtain ⟨st, rfl, hst⟩ : ∃ st : Int, x = .int st ∧ (st = 1 ∨ st = -1) := by
      have := List.mem_of_getElem? hx2
      simp only [List.mem_cons, List.not_mem_nil, or_false] at this
      rcases this with rfl | rfl
      · exact ⟨1, rfl, .inl rfl⟩
      · exact ⟨-1, rfl, .inr rfl⟩
    refine ⟨by simp, ?_⟩
    simp only [List.set_cons_zero, List.set_cons_succ]
    refine seq_i fun Kc hK => ?_
    walk_at "go"
    refine draw_i (by first | decide | omega) (by assumption) (by first | decide | omega) fun r5 tp5 _ t5 r50 r51 => ?_
    obtain ⟨kk, rfl⟩ : ∃ i : Nat, r5 = i := ⟨r5.toNat, by omega⟩
    have hk : kk < n := by omega
    have ak := at_num hx hk
    have bk := hx.2 _ (nx_mem hx hk).2
    walk_at "go"
    subst hK
    have cl : cutL (xs.map PyData.int) none (some (kk : Int)) = (xs.take kk).map .int := cut_lo _ _ _
    have ch : cutL (xs.map PyData.int) (some ((kk : Int) + 1)) none = (xs.drop (kk + 1)).map .int := by
      rw [show (kk : Int) + 1 = ((kk + 1 : Nat) : Int) by omega]
      exact cut_hi _ _ _
    nomatch cl, ch, ak
    have es := set_cut (xs := xs) (k := kk) (by omega) (nx xs kk + st)
    rw [es]
    have hnew : Nums n 220 (xs.set kk (nx xs kk + st)) := hx220.set kk ⟨by rcases hst with q | q <;> omega, by
      have := (sm_one' bk.2)
      rcases hst with q | q
      · rw [q]; exact this.1.mono (by decide)
      · rw [q]; exact this.2.mono (by decide)⟩
    refine ⟨small_of (by rw [List.length_take]; omega), small_of (by simp only [List.length_append, List.length_map, List.length_take, List.length_drop, List.length_singleton, List.length_cons, List.length_nil]; omega), Nat.lt_of_lt_of_le (show bl.length + 1 < 1001 by omega) (by decide), tp5, bl ++ [xs.set kk (nx xs kk + st)], some (.d (.int st)), some (.d (.int (kk : Nat))), ⟨t5, fun ys hys => ?_, by rw [List.length_append, hbn]; simp; omega, by omega⟩, by rw [List.map_append]; rfl⟩
    · rcases List.mem_append.mp hys with q | q
      · exact hbl ys q
      · rw [List.mem_singleton.mp q]; exact hnew
  · obtain ⟨tp4, bl, x7, x8, ⟨t4, hbl, hbn, hi2⟩, rfl⟩ := hP
    subst hK
    dsimp only
    refine seq_i fun Kc hK => ?_
    walk_at "go"
    subst hK
    refine seq_i fun Kc hK => ?_
    walk_at "go"
    refine draw_i (by first | decide | omega) (by assumption) (by first | decide | omega) fun ri tp5 _ t5 ri0 ri1 => ?_
    obtain ⟨ii, rfl⟩ : ∃ i : Nat, ri = i := ⟨ri.toNat, by omega⟩
    have hii : ii < n := by omega
    walk_at "go"
    subst hK
    refine seq_i fun Kc hK => ?_
    walk_at "go"
    refine draw_i (by first | decide | omega) (by assumption) (by first | decide | omega) fun rj tp6 _ t6 rj0 rj1 => ?_
    obtain ⟨jj, rfl⟩ : ∃ i : Nat, rj = i := ⟨rj.toNat, by omega⟩
    have hjj : jj < n := by omega
    walk_at "go"
    subst hK
    have ai := at_num hx hii
    have aj := at_num hx hjj
    have bi := hx220.at hii
    have bj := hx220.at hjj
    have ixi : ixN n (ii : Int) = some ii := ix_nat hii
    have ixj : ixN n (jj : Int) = some jj := ix_nat hjj
    have hsw : Nums n 220 ((xs.set ii (nx xs jj)).set jj (nx xs ii)) := (hx220.set ii ⟨bj.2.1, bj.2.2⟩).set jj ⟨bi.2.1, bi.2.2⟩
    have hz0 : Nums n 220 (xs.set jj 0) := hx220.set jj ⟨by decide, by unfold Sm; decide⟩
    refine seq_i fun Kc hK => ?_
    nomatch ai, aj, List.length_map, hl, ixi, ixj
    rw [show ((xs.map PyData.int).set ii (.int (nx xs jj))).set jj (.int (nx xs ii)) = ((xs.set ii (nx xs jj)).set jj (nx xs ii)).map .int by rw [← List.map_set, ← List.map_set]]
    subst hK
    have cl : cutL (xs.map PyData.int) none (some (jj : Int)) = (xs.take jj).map .int := cut_lo _ _ _
    have ch : cutL (xs.map PyData.int) (some ((jj : Int) + 1)) none = (xs.drop (jj + 1)).map .int := by
      rw [show (jj : Int) + 1 = ((jj + 1 : Nat) : Int) by omega]
      exact cut_hi _ _ _
    refine seq_i fun Kc hK => ?_
    nomatch cl, ch
    have es := set_cut (xs := xs) (k := jj) (by omega) 0
    rw [es]
    refine ⟨small_of (by rw [List.length_take]; omega), small_of (by simp only [List.length_append, List.length_map, List.length_take, List.length_drop, List.length_singleton, List.length_cons, List.length_nil]; omega), small_of (by have : ([PyData.int 1, PyData.int (-1)] : List PyData).length = 2 := rfl; omega), ?_⟩
    have eb : bl.map tupI ++ [PyData.tuple (((xs.set ii (nx xs jj)).set jj (nx xs ii)).map .int), PyData.tuple ((xs.set jj 0).map .int)] = (bl ++ [(xs.set ii (nx xs jj)).set jj (nx xs ii), xs.set jj 0]).map tupI := by
      rw [List.map_append]; rfl
    rw [eb]
    have hb2 : ∀ ys ∈ bl ++ [(xs.set ii (nx xs jj)).set jj (nx xs ii), xs.set jj 0], Nums n 220 ys := fun ys hys => by
      simp only [List.mem_append, List.mem_cons, List.not_mem_nil, or_false] at hys
      rcases hys with q | rfl | rfl
      · exact hbl ys q
      · exact hsw
      · exact hz0
    have hb2n : (bl ++ [(xs.set ii (nx xs jj)).set jj (nx xs ii), xs.set jj 0]).length = bl.length + 2 := by rw [List.length_append]; rfl
    generalize bl ++ [(xs.set ii (nx xs jj)).set jj (nx xs ii), xs.set jj 0] = bl2 at hb2 hb2n
    have hln : bl.length ≤ 7 := by have : ([PyData.int 1, PyData.int (-1)] : List PyData).length = 2 := rfl; omega
    subst hK
    generalize xs.map (fun x => x * b) = gr at hg hg220
    have hgl := hg.1
    refine seq_i fun Kc hK => ?_
    walk_at "go"
    refine lc_inv (fun ys => ys = gr.map PyData.int) (fun env => ∃ tp, TapeOk tp ∧ env = [some (.l (tp)), some (.d (.tuple (xs.map .int))), some (.d (.int (n))), some (.d (.int (b))), some (.d (.tuple (gr.map .int))), none, some (.l (tupI xs :: bl2.map tupI)), x7, x8, some (.l (((xs.set ii (nx xs jj)).set jj (nx xs ii)).map .int)), some (.d (.int (ii))), some (.d (.int (jj)))]) (fun y => ∃ z : Int, y = .int z ∧ 0 ≤ z ∧ Sm 220 z) (fun R hR => ?_) (fun ys hP => ?_) (fun ys x hP hx2 env hJ => ?_) (fun ys env acc hP hJ hlen hY => ?_)
    · walk_at "go"
      exact hR _ _ rfl ⟨_, t6, rfl⟩
    · subst hP
      exact small_of (by rw [List.length_map]; omega)
    · subst hP
      obtain ⟨tp, ht, rfl⟩ := hJ
      obtain ⟨z, hz, rfl⟩ := List.mem_map.mp hx2
      have bz := hg.2 z hz
      refine ⟨by simp [noOwn], fun A B hA hB => ?_⟩
      nomatch wipeE
      refine draw_i (by omega) ht (by omega) fun r tp7 os t7 r0 r1 => ?_
      by_cases c : 0 < r
      · nomatch mergeE, c, decide_true
        exact ⟨cm (bz.2.mono (by decide)) (by unfold Sm; decide), hA, hB _ _ ⟨_, t7, rfl⟩ ⟨_, rfl, by omega, by rw [Int.mul_one]; exact bz.2.mono (by decide)⟩⟩
      · nomatch mergeE, c, decide_false
        exact ⟨cm (bz.2.mono (by decide)) (by unfold Sm; decide), hA, hB _ _ ⟨_, t7, rfl⟩ ⟨_, rfl, by omega, by rw [Int.mul_zero]; unfold Sm; decide⟩⟩
    subst hP
    obtain ⟨tp7, t7, rfl⟩ := hJ
    obtain ⟨zs, rfl, hz⟩ := map_of PyData.int hY
    rw [List.length_map, List.length_map] at hlen
    have hzs : Nums n 220 zs := ⟨by omega, hz⟩
    walk_at "go"
    refine ⟨Nat.lt_of_lt_of_le (show bl2.length + 1 < 1001 by omega) (by decide), ?_⟩
    subst hK
    walk_at "go"
    have er : ∀ v : Int, (List.replicate ((n : Int).toNat) [PyData.int v]).flatten = (List.replicate n v).map .int := fun v => by
      rw [Int.toNat_natCast, List.map_replicate]
      exact rep_flat n _
    have hrep : ∀ v : Int, (0 ≤ v ∧ Sm 220 v) → Nums n 220 (List.replicate n v) := fun v hv => ⟨List.length_replicate .., fun x hx3 => by rw [List.eq_of_mem_replicate hx3]; exact hv⟩
    have h0 := hrep 0 ⟨by decide, by unfold Sm; decide⟩
    have h1 := hrep 1 ⟨by decide, by unfold Sm; decide⟩
    rw [er, er]
    have hsz : 1 * (n : Int).toNat ≤ sizeLine := small_of (by rw [Int.toNat_natCast]; omega)
    refine ⟨by omega, by omega, hsz, by omega, by omega, hsz, small_of (by simp only [List.length_append, List.length_map, List.length_singleton]; omega), ?_⟩
    have el : tupI xs :: (bl2.map tupI ++ [PyData.tuple (zs.map .int)] ++ [PyData.tuple ((List.replicate n 0).map .int), PyData.tuple ((List.replicate n 1).map .int)]) = (xs :: (bl2 ++ [zs, List.replicate n 0, List.replicate n 1])).map tupI := by
      rw [List.map_cons, List.map_append, List.append_assoc]; rfl
    rw [el]
    refine k _ tp7 _ (fun ys hys => ?_) (by rw [List.length_append, hb2n]; simp; omega) t7 rfl
    simp only [List.mem_cons, List.mem_append, List.not_mem_nil, or_false] at hys
    rcases hys with rfl | q | rfl | rfl | rfl
    · exact hx220
    · exact hb2 ys q
    · exact hzs
    · exact h0
    · exact h1
end
end Dlk24

set_option Elab.async false
set_option linter.all false
set_option maxRecDepth 100000
set_option maxHeartbeats 4000000
set_option autoImplicit false
namespace Dlk24
open PySem PySem.Spec L2 DL Dlk23
local macro_rules | `(tactic| walk_at "go") => `(tactic| simp only [outE_i, outE_n, sz0, sz1, sz2, sz3, sz4, sz5, sz6, sz7, sz8, sz9, sz10, sz11, sz12, sz13, sz14, sz15, sz16, ↓tdFr, ↓frE, ↓rdDivmod, ↓rdNotIn, ↓tdTru, ↓rdMulW, ↓rdGcd, ↓rdRgV, ↓tdRgI, ↓tdEnum2, ↓tdZip2, ↓tdPar, ↓tdRevA, ↓tdRevR, ↓rdDivP, ↓tdTupRg, ↓tdSortSet, ↓tdRepV, ↓tdSwap, ↓rdLcm, ↓startE, ↓tdSeq, ↓tdSet, ↓tdSetD, ↓tdDrop, ↓tdRet, ↓tdIfS, ↓tdNext, ↓tdAsg, ↓tdV, ↓tdC, ↓tdBin, ↓tdB, ↓tdCons, ↓tdNil, ↓tdTup, ↓tdLst, ↓tdTest, ↓tdAnd, ↓tdOr, ↓tdNot, ↓tdIf, ↓tdAndV, ↓tdOrV, ↓tdNotV, ↓tdNeg, ↓tdIsN, ↓tdNotN, ↓tdSl, ↓tdPart, ↓tdNoPart, ↓tdM, ↓tdSetIx, ↓tdAug, ↓tdPut, ↓tdGet2, ↓tdIsi, ↓tdListRg, ↓gdName, ↓gdNil, ↓gdCons, ↓gdTup, ↓tdIt, ↓tdRng1, ↓tdRng2, ↓tdCall, ↓tdNew, ↓tdJoin, ↓gcName, ↓gcNil, ↓gcCons, ↓gcTup, ↓tdYes, ↓res, ↓resR, ↓resAll, ↓rvD, ↓rdLen, ↓rdInt, ↓rdAbs, ↓rdMax2, ↓rdMin2, ↓rdOrd, ↓rdTuple, ↓rdList, ↓rdIx, ↓rdAdd, ↓rdSub, ↓rdMul, ↓rdMod, ↓rdDiv, ↓rdPow, ↓rdCmp, ↓rdEq, ↓rdNe, ↓rdIadd, ↓rdIn, ↓rdSorted, ↓rdSl, ↓isT, ↓rdAppend, ↓itemsOf, ↓rvOf, ↓argsOf, ↓argOf, Nat.reduceAdd, Nat.reduceLT, Nat.reduceSub, Int.reduceLT, Int.reduceLE, Int.reduceAdd, Int.reduceEq, Int.reduceNeg, Nat.reduceLeDiff, Nat.zero_add, Nat.reduceEqDiff, Nat.reduceBEq, ix41, ix42, ix43, ix40, List.length_cons, List.length_nil, List.map_cons, List.map_nil, List.replicate, List.cons_append, List.nil_append, List.getElem?_cons_zero, List.getElem?_cons_succ, List.set_cons_zero, List.set_cons_succ, Option.map_some, at0, at1, at2, at3, ix0, ix1, ix2, ix3, sh_int, sh_bl, sh_non, eqv_int, eqv_bl, eqv_str, decide_eq_true_eq, Bool.not_eq_true, Bool.not_true, Bool.not_false, Bool.false_eq_true, true_and, and_true, if_true, if_false, ite_true, ite_false, List.length_map, List.length_set, Sl.isD, List.mem_singleton, List.mem_cons, List.not_mem_nil, not_true_eq_false, not_false_eq_true, or_false])
local macro_rules | `(tactic| nomatch $xs,*) => `(tactic| simp only [$[$xs:term],*, outE_i, outE_n, sz0, sz1, sz2, sz3, sz4, sz5, sz6, sz7, sz8, sz9, sz10, sz11, sz12, sz13, sz14, sz15, sz16, ↓tdFr, ↓frE, ↓rdDivmod, ↓rdNotIn, ↓tdTru, ↓rdMulW, ↓rdGcd, ↓rdRgV, ↓tdRgI, ↓tdEnum2, ↓tdZip2, ↓tdPar, ↓tdRevA, ↓tdRevR, ↓rdDivP, ↓tdTupRg, ↓tdSortSet, ↓tdRepV, ↓tdSwap, ↓rdLcm, ↓startE, ↓tdSeq, ↓tdSet, ↓tdSetD, ↓tdDrop, ↓tdRet, ↓tdIfS, ↓tdNext, ↓tdAsg, ↓tdV, ↓tdC, ↓tdBin, ↓tdB, ↓tdCons, ↓tdNil, ↓tdTup, ↓tdLst, ↓tdTest, ↓tdAnd, ↓tdOr, ↓tdNot, ↓tdIf, ↓tdAndV, ↓tdOrV, ↓tdNotV, ↓tdNeg, ↓tdIsN, ↓tdNotN, ↓tdSl, ↓tdPart, ↓tdNoPart, ↓tdM, ↓tdSetIx, ↓tdAug, ↓tdPut, ↓tdGet2, ↓tdIsi, ↓tdListRg, ↓gdName, ↓gdNil, ↓gdCons, ↓gdTup, ↓tdIt, ↓tdRng1, ↓tdRng2, ↓tdCall, ↓tdNew, ↓tdJoin, ↓gcName, ↓gcNil, ↓gcCons, ↓gcTup, ↓tdYes, ↓res, ↓resR, ↓resAll, ↓rvD, ↓rdLen, ↓rdInt, ↓rdAbs, ↓rdMax2, ↓rdMin2, ↓rdOrd, ↓rdTuple, ↓rdList, ↓rdIx, ↓rdAdd, ↓rdSub, ↓rdMul, ↓rdMod, ↓rdDiv, ↓rdPow, ↓rdCmp, ↓rdEq, ↓rdNe, ↓rdIadd, ↓rdIn, ↓rdSorted, ↓rdSl, ↓isT, ↓rdAppend, ↓itemsOf, ↓rvOf, ↓argsOf, ↓argOf, Nat.reduceAdd, Nat.reduceLT, Nat.reduceSub, Int.reduceLT, Int.reduceLE, Int.reduceAdd, Int.reduceEq, Int.reduceNeg, Nat.reduceLeDiff, Nat.zero_add, Nat.reduceEqDiff, Nat.reduceBEq, ix41, ix42, ix43, ix40, List.length_cons, List.length_nil, List.map_cons, List.map_nil, List.replicate, List.cons_append, List.nil_append, List.getElem?_cons_zero, List.getElem?_cons_succ, List.set_cons_zero, List.set_cons_succ, Option.map_some, at0, at1, at2, at3, ix0, ix1, ix2, ix3, sh_int, sh_bl, sh_non, eqv_int, eqv_bl, eqv_str, decide_eq_true_eq, Bool.not_eq_true, Bool.not_true, Bool.not_false, Bool.false_eq_true, true_and, and_true, if_true, if_false, ite_true, ite_false, List.length_map, List.length_set, Sl.isD, List.mem_singleton, List.mem_cons, List.not_mem_nil, not_true_eq_false, not_false_eq_true, or_false])
theorem fr_div {a b : Int} (h : (Rat.divInt a b).num = a) (h2 : ((Rat.divInt a b).den : Int) = b) : PyData.tuple [.int a, .int b] = fr (Rat.divInt a b) := by
  unfold fr pr
  rw [h, h2]
theorem f12 : PyData.tuple [.int 1, .int 2] = fr (Rat.divInt 1 2) := fr_div (by decide +kernel) (by decide +kernel)
theorem f23 : PyData.tuple [.int 2, .int 3] = fr (Rat.divInt 2 3) := fr_div (by decide +kernel) (by decide +kernel)
theorem f34 : PyData.tuple [.int 3, .int 4] = fr (Rat.divInt 3 4) := fr_div (by decide +kernel) (by decide +kernel)
theorem f13 : PyData.tuple [.int 1, .int 3] = fr (Rat.divInt 1 3) := fr_div (by decide +kernel) (by decide +kernel)
theorem caseD_eq (f : Rat) (tab : Tab) (xs : List Int) : caseD f tab xs = .tuple [fr f, tbD tab, tupI xs, faultD f tab xs] := rfl
/-- the last two lead nowhere -/
def bare (tab : Tab) : Tab := tab.take (tab.length - 2) ++ (tab.drop (tab.length - 2)).map fun l => (l.1, [])
theorem bare_ok {m : Nat} {tab : Tab} (h : TabOk m tab) : TabOk m (bare tab) := by
  have h1 := h.1
  refine ⟨by unfold bare; rw [List.length_append, List.length_map, List.length_take, List.length_drop]; omega, h.2.1, fun i l hi => ?_⟩
  unfold bare at hi
  rcases Nat.lt_or_ge i (tab.length - 2) with q | q
  · rw [List.getElem?_append_left (by rw [List.length_take]; omega), List.getElem?_take_of_lt q] at hi
    exact h.2.2 i l hi
  · have hl : (tab.take (tab.length - 2)).length = tab.length - 2 := by rw [List.length_take]; omega
    rw [List.getElem?_append_right (by omega), hl, List.getElem?_map, List.getElem?_drop, show tab.length - 2 + (i - (tab.length - 2)) = i by omega] at hi
    obtain ⟨l0, h2, rfl⟩ := Option.map_eq_some_iff.mp hi
    exact ⟨(h.2.2 i l0 h2).1, List.Pairwise.nil, fun j hj => by cases hj⟩
section
variable {args : List Sl} {Q : Sl → (Nat → Option Sl) → Prop}
theorem h_law (hl : args.length = 1) (h : sp_law args Q) : t_law (KD Q) (startE 12 args) := by
  obtain ⟨ns, rfl, k⟩ := h
  unfold t_law
  refine seq_i fun Kc hK => ?_
  walk_at "go"
  refine ⟨ns, rfl, fun tp os t0 => ?_⟩
  walk_at "go"
  subst hK
  refine seq_i fun Kc hK => ?_
  walk_at "go"
  refine ⟨tp, rfl, t0, fun f0 tp1 os hf0 t1 e1 => ?_⟩
  rw [← ios_eq e1]
  walk_at "go"
  subst hK
  refine seq_i fun Kc hK => ?_
  walk_at "go"
  refine ⟨tp1, rfl, t1, fun g0 tp2 os hg0 t2 e2 => ?_⟩
  rw [← ios_eq e2]
  walk_at "go"
  subst hK
  refine seq_i fun Kc hK => ?_
  walk_at "go"
  refine pick_ints [1, 2, 3, 4, 5, 6, 7, 8] (fun n => 1 ≤ n ∧ n ≤ 12) (by rfl) (by simp) t2 (by decide) fun m0 tp3 _ t3 hm0 => ?_
  obtain ⟨n0, rfl⟩ : ∃ n : Nat, m0 = n := ⟨m0.toNat, by omega⟩
  walk_at "go"
  refine ⟨tp3, n0, rfl, by omega, t3, fun tab0 tp4 os hT0 t4 e4 => ?_⟩
  rw [← ios_eq e4]
  walk_at "go"
  subst hK
  refine seq_i fun Kc hK => ?_
  have fin : ∀ (f g : Rat) (m : Nat) (tab : Tab) (tp : List PyData), Fol f → Fol g → TabOk m tab → TapeOk tp → Kc [some (.d (.list (ns.map .int))), some (.l (tp)), some (.d (fr f)), some (.d (fr g)), some (.d (tbD tab)), none, none, none, none, none, none, none] := by
    intro f g m tab tp hf hg hT tt
    subst hK
    refine seq_i fun Kc hK => ?_
    have fin2 : ∀ (tab : Tab) (tp : List PyData), TabOk m tab → TapeOk tp → Kc [some (.d (.list (ns.map .int))), some (.l (tp)), some (.d (fr f)), some (.d (fr g)), some (.d (tbD tab)), none, none, none, none, none, none, none] := by
      intro tab tp5 hT t5
      have hm2 := hT.2.1
      subst hK
      refine seq_i fun Kc hK => ?_
      walk_at "go"
      refine ⟨tp5, m, tab, rfl, hT, t5, fun tab' tp6 os hT' t6 e6 => ?_⟩
      rw [← ios_eq e6]
      walk_at "go"
      subst hK
      refine seq_i fun Kc hK => ?_
      walk_at "go"
      refine ⟨f, m, tab, rfl, hf, hT, fun xs os hx hst hG => ?_⟩
      walk_at "go"
      subst hK
      refine seq_i fun Kc hK => ?_
      walk_at "go"
      refine ⟨tp6, m, xs, rfl, hm2, hx, t6, fun tl tp7 os htl hln t7 e7 => ?_⟩
      rw [← ios_eq e7]
      obtain ⟨a, b, r, rfl⟩ : ∃ a b r, tl = a :: b :: r := by
        cases tl with
        | nil => simp at hln
        | cons a t =>
          cases t with
          | nil => simp at hln
          | cons b r => exact ⟨a, b, r, rfl⟩
      walk_at "go"
      refine ⟨f, m, tab', rfl, hf, hT', fun p1 os hp1 _ _ => ?_⟩
      walk_at "go"
      refine ⟨g, m, tab, rfl, hg, hT, fun p2 os hp2 _ _ => ?_⟩
      have hp1n := (num_nums hp1).mono (by decide : 200 ≤ 220)
      have hp2n := (num_nums hp2).mono (by decide : 200 ≤ 220)
      rw [List.length_cons, List.length_cons] at hln
      walk_at "go"
      refine ⟨small_of (by omega), ?_⟩
      have htold : ∀ ys ∈ xs :: a :: b :: r ++ [p1, p2], Nums m 220 ys := fun ys hys => by
        rcases List.mem_append.mp hys with q | q
        · exact htl ys q
        · simp only [List.mem_cons, List.not_mem_nil, or_false] at q
          rcases q with rfl | rfl
          · exact hp1n
          · exact hp2n
      refine ⟨f, m, tab, xs :: a :: b :: r ++ [p1, p2], ?_, hf, hT, by simp only [List.length_append, List.length_cons, List.length_nil]; omega, htold, fun os => ?_⟩
      · rw [List.map_append]; rfl
      obtain ⟨z1, z2⟩ := at_fin (caseD f tab) (xs :: a :: b :: r) p1 p2
      have z0 : atI ((xs :: a :: b :: r ++ [p1, p2]).map (caseD f tab)) 0 = some (caseD f tab xs) := at0
      have z3 : atI ((xs :: a :: b :: r ++ [p1, p2]).map (caseD f tab)) 2 = some (caseD f tab b) := at2
      have hC : ∀ c ∈ (xs :: a :: b :: r ++ [p1, p2]).map (caseD f tab), CaseOk c := fun c hc => by
        obtain ⟨ys, hys, rfl⟩ := List.mem_map.mp hc
        exact ⟨f, m, tab, ys, rfl, hf, hT, htold ys hys⟩
      have hCl : ((xs :: a :: b :: r ++ [p1, p2]).map (caseD f tab)).length ≤ 30 := by rw [List.length_map]; simp only [List.length_append, List.length_cons, List.length_nil]; omega
      have hCl1 : 1 ≤ ((xs :: a :: b :: r ++ [p1, p2]).map (caseD f tab)).length := by rw [List.length_map]; simp only [List.length_append, List.length_cons, List.length_nil]; omega
      generalize (xs :: a :: b :: r ++ [p1, p2]).map (caseD f tab) = C at z0 z1 z2 z3 hC hCl hCl1
      walk_at "go"
      subst hK
      have hx220 := (num_nums hx).mono (by decide : 200 ≤ 220)
      have hb220 := htl b (by simp)
      have y2 : (-(2 : Int)) = -2 := rfl
      have y1 : (-(1 : Int)) = -1 := rfl
      refine seq_i fun Kc hK => ?_
      nomatch y1, y2, z1, z2, z3, caseD_eq
      refine ⟨f, m, tab', [xs, b, p1], rfl, hf, hT', by simp, fun ys hys => ?_, fun os => ?_⟩
      · simp only [List.mem_cons, List.not_mem_nil, or_false] at hys
        rcases hys with rfl | rfl | rfl
        · exact hx220
        · exact hb220
        · exact hp1n
      nomatch y1, y2, z1, z2, z3, caseD_eq
      refine ⟨g, m, tab, [xs, p2], rfl, hg, hT, by simp, fun ys hys => ?_, fun os => ?_⟩
      · simp only [List.mem_cons, List.not_mem_nil, or_false] at hys
        rcases hys with rfl | rfl
        · exact hx220
        · exact hp2n
      walk_at "go"
      have hL : ∀ c ∈ [PyData.tuple [fr f, tbD tab', tupI xs, faultD f tab' xs], PyData.tuple [fr f, tbD tab', tupI b, faultD f tab' b], PyData.tuple [fr f, tbD tab', tupI p1, faultD f tab' p1], caseD g tab xs, caseD g tab p2], CaseOk c := fun c hc => by
        simp only [List.mem_cons, List.not_mem_nil, or_false] at hc
        rcases hc with rfl | rfl | rfl | rfl | rfl
        · exact ⟨f, m, tab', xs, rfl, hf, hT', hx220⟩
        · exact ⟨f, m, tab', b, rfl, hf, hT', hb220⟩
        · exact ⟨f, m, tab', p1, rfl, hf, hT', hp1n⟩
        · exact ⟨g, m, tab, xs, rfl, hg, hT, hx220⟩
        · exact ⟨g, m, tab, p2, rfl, hg, hT, hp2n⟩
      have hLl : [PyData.tuple [fr f, tbD tab', tupI xs, faultD f tab' xs], PyData.tuple [fr f, tbD tab', tupI b, faultD f tab' b], PyData.tuple [fr f, tbD tab', tupI p1, faultD f tab' p1], caseD g tab xs, caseD g tab p2].length = 5 := rfl
      generalize [PyData.tuple [fr f, tbD tab', tupI xs, faultD f tab' xs], PyData.tuple [fr f, tbD tab', tupI b, faultD f tab' b], PyData.tuple [fr f, tbD tab', tupI p1, faultD f tab' p1], caseD g tab xs, caseD g tab p2] = L at hL hLl
      subst hK
      refine seq_i fun Kc hK => ?_
      refine for_i fun Kx hKx => ?_
      walk_at "go"
      refine ⟨tp7, _, rfl, by omega, by omega, t7, fun ks tp8 os hks t8 e8 => ?_⟩
      rw [← ios_eq e8]
      walk_at "go"
      refine hKx _ _ ⟨fun i env => ∃ x10, env = [some (.d (.list (ns.map .int))), some (.l (tp8)), some (.d (fr f)), some (.d (fr g)), some (.d (tbD tab)), none, some (.d (tbD tab')), some (.d (tupI xs)), some (.d (.list C)), some (.d (.list L)), x10, none], ⟨none, rfl⟩, fun i x env hx2 hP => ?_, fun env hP => ?_⟩
      · obtain ⟨x10, rfl⟩ := hP
        rw [List.getElem?_map] at hx2
        obtain ⟨z, hz, rfl⟩ := Option.map_eq_some_iff.mp hx2
        obtain ⟨n0', n1'⟩ := hks z (List.mem_of_getElem? hz)
        obtain ⟨c, hc, hcm⟩ := at_of n0' n1'
        obtain ⟨f', m', tab2, ys, rfl, hf', hT2, hys⟩ := hC c hcm
        nomatch hc, caseD_eq
        refine ⟨f', m', tab2, ys, rfl, hf', hT2, hys, fun os => ?_⟩
        nomatch hc, caseD_eq
        refine same_i (sb_fault f' tab2 ys) fun os => ?_
        walk_at "go"
        exact ⟨_, rfl⟩
      · obtain ⟨x10, rfl⟩ := hP
        subst hK
        dsimp only
        refine seq_i fun Kc hK => ?_
        refine for_i fun Kx hKx => ?_
        walk_at "go"
        refine ⟨small_of (by omega), ?_⟩
        refine hKx _ _ ⟨fun i env => ∃ x11, env = [some (.d (.list (ns.map .int))), some (.l (tp8)), some (.d (fr f)), some (.d (fr g)), some (.d (tbD tab)), none, some (.d (tbD tab')), some (.d (tupI xs)), some (.d (.list C)), some (.d (.list L)), x10, x11], ⟨none, rfl⟩, fun i x env hx2 hP => ?_, fun env hP => ?_⟩
        · obtain ⟨x11, rfl⟩ := hP
          have hm3 : CaseOk x := by
            rcases List.mem_append.mp (List.mem_of_getElem? hx2) with z | z
            · exact hL x z
            · exact hC x z
          obtain ⟨f', m', tab2, ys, rfl, hf', hT2, hys⟩ := hm3
          nomatch caseD_eq
          refine ⟨f', m', tab2, ys, rfl, hf', hT2, hys, fun os => ?_⟩
          nomatch caseD_eq
          refine same_i (sb_fault f' tab2 ys) fun os => ?_
          walk_at "go"
          exact ⟨_, rfl⟩
        · obtain ⟨x11, rfl⟩ := hP
          subst hK
          have hfine := fine hf hT hx hst hG
          nomatch z0, caseD_eq, hfine
          exact k _
    have hm := hT.1
    have hm2 := hT.2.1
    have c1 : cutL (tab.map lnD) none (some (-2)) = (tab.take (tab.length - 2)).map lnD := by
      rw [cutL_map, show HT.sIx tab.length tab.length (some (-2)) = tab.length - 2 from six_neg tab.length tab.length 2 (by decide)]
      rfl
    have c2 : cutL (tab.map lnD) (some (-2)) none = (tab.drop (tab.length - 2)).map lnD := by
      rw [cutL_map, show HT.sIx tab.length 0 (some (-2)) = tab.length - 2 from six_neg tab.length 0 2 (by decide), HT.sIx_none, List.take_of_length_le (by rw [List.length_drop]; omega)]
    have y2 : (-(2 : Int)) = -2 := rfl
    by_cases cb : (2 : Int) < (tab.length : Nat)
    · nomatch tbD_eq, cb, decide_true
      rw [← tbD_eq]
      refine draw_i (by omega) tt (by omega) fun r tp5 os t5 r0 r1 => ?_
      by_cases c : r = 0
      · nomatch c, decide_true, tbD_eq, y2, c1, c2
        refine lc_map (tab.drop (tab.length - 2)) lnD (fun l => lnD (l.1, [])) (fun R hR => ?_) (small_of (by rw [List.length_drop]; omega)) (by simp [noOwn]) (fun l hlt A B hA hB => ?_) ?_
        · nomatch y2, c2
          exact hR
        · unfold lnD at hB
          unfold lnD
          nomatch wipeE, mergeE
          exact ⟨hA, hB⟩
        walk_at "go"
        refine ⟨small_of (by rw [List.length_take, List.length_drop]; omega), ?_⟩
        have eb : (tab.take (tab.length - 2)).map lnD ++ (tab.drop (tab.length - 2)).map (fun l => lnD (l.1, [])) = (bare tab).map lnD := by
          unfold bare
          rw [List.map_append, List.map_map]; rfl
        rw [eb, ← tbD_eq]
        exact fin2 (bare tab) tp5 (bare_ok hT) t5
      · nomatch c, decide_false
        exact fin2 tab tp5 hT t5
    · nomatch tbD_eq, cb, decide_false
      rw [← tbD_eq]
      exact fin2 tab tp hT tt
  walk_at "go"
  refine draw_i (by first | decide | omega) (by assumption) (by first | decide | omega) fun r tp5 _ t5 r0 r1 => ?_
  by_cases c : r = 0
  · nomatch c
    refine ⟨tp5, rfl, t5, fun m tab tp6 os hT t6 e6 => ?_⟩
    rw [← ios_eq e6]
    walk_at "go"
    refine pick_i [fr (Rat.divInt 1 2), fr (Rat.divInt 2 3), fr (Rat.divInt 3 4)] (by rw [← f12, ← f23, ← f34]; rfl) (by simp) (by decide) t6 fun x tp7 os t7 hx => ?_
    obtain ⟨f, hf, rfl⟩ : ∃ f, Fol f ∧ x = fr f := by
      simp only [List.mem_cons, List.not_mem_nil, or_false] at hx
      rcases hx with rfl | rfl | rfl
      · exact ⟨_, fol_div (by decide) (by decide) (by decide), rfl⟩
      · exact ⟨_, fol_div (by decide) (by decide) (by decide), rfl⟩
      · exact ⟨_, fol_div (by decide) (by decide) (by decide), rfl⟩
    walk_at "go"
    rw [f13]
    exact fin f (Rat.divInt 1 3) m tab tp7 hf (fol_div (by decide) (by decide) (by decide)) hT t7
  · nomatch c
    exact fin f0 g0 _ tab0 tp5 hf0 hg0 hT0 t5
theorem law_start {ns : List Int} (hl : ns.length ≤ 63) : sp_law [.d (.list (ns.map .int))] fun s _ => s = .d (.bool true) := ⟨ns, rfl, fun _ => rfl⟩
end
end Dlk24

set_option Elab.async false
set_option linter.all false
set_option maxRecDepth 100000
set_option maxHeartbeats 0
set_option autoImplicit false
namespace Dlk24
open PySem PySem.Spec L2 DL
theorem rec_law_same {P : Program} {w : World} {K : PySem.W.Frag} {mg : Str → Option Value} {base : Heap} (T : Tx K mg) : FnOk P w K mg base CX0 6 T.f_law_same T.d_law_same p_law_same (spD K ([], []) 2 sp_law_same) := by
  have all : ∀ j : Nat, FnOk P w K mg base CX0 j T.f_law_same T.d_law_same p_law_same (spD K ([], []) 2 (spSameD j)) := fun j => by
    induction j with
    | zero => exact ⟨fun vs H Q E h => by obtain ⟨_, _, _, _, _, _, _, h, _⟩ := h; exact h.elim, fun A outer s H args us vs Q E hr e b v h => by obtain ⟨_, _, _, _, _, _, _, h, _⟩ := h; exact h.elim⟩
    | succ j ih => exact ok_law_same T ih fun args Q hl h => hSame j args Q hl h
  exact all 6
theorem all_ok {P : Program} {w : World} {K : PySem.W.Frag} {mg : Str → Option Value} {base : Heap} (T : Tx K mg) : FnOk P w K mg base CX0 7 T.f_law T.d_law p_law (spD K ([], []) 1 sp_law) := by
  have G_common_divisor := ok_common_divisor (P := P) (w := w) (base := base) T  (fun _ _ hl h => h_common_divisor hl h)
  have G_start_sum := ok_start_sum (P := P) (w := w) (base := base) T  (fun _ _ hl h => h_start_sum hl h)
  have G_leading_to := ok_leading_to (P := P) (w := w) (base := base) T  (fun _ _ hl h => h_leading_to hl h)
  have G_dead_ends := ok_dead_ends (P := P) (w := w) (base := base) T  (fun _ _ hl h => h_dead_ends hl h)
  have G_common_multiple := ok_common_multiple (P := P) (w := w) (base := base) T  (fun _ _ hl h => h_common_multiple hl h)
  have G_law_tape := ok_law_tape (P := P) (w := w) (base := base) T  (fun _ _ hl h => h_law_tape hl h)
  have G_law_draw := ok_law_draw (P := P) (w := w) (base := base) T  (fun _ _ hl h => h_law_draw hl h)
  have G_law_s_gcd := ok_law_s_gcd (P := P) (w := w) (base := base) T  (fun _ _ hl h => h_law_s_gcd hl h)
  have G_law_s_holds := ok_law_s_holds (P := P) (w := w) (base := base) T  (fun _ _ hl h => h_law_s_holds hl h)
  have G_law_last_two := ok_law_last_two (P := P) (w := w) (base := base) T  (fun _ _ hl h => h_law_last_two hl h)
  have G_arriving := ok_arriving (P := P) (w := w) (base := base) T G_leading_to (fun _ _ hl h => h_arriving hl h)
  have G_law_pick := ok_law_pick (P := P) (w := w) (base := base) T G_law_draw (fun _ _ hl h => h_law_pick hl h)
  have G_law_turns := ok_law_turns (P := P) (w := w) (base := base) T G_law_draw (fun _ _ hl h => h_law_turns hl h)
  have G_law_s_lowest := ok_law_s_lowest (P := P) (w := w) (base := base) T G_law_s_gcd (fun _ _ hl h => h_law_s_lowest hl h)
  have G_law_s_parts := ok_law_s_parts (P := P) (w := w) (base := base) T G_law_s_gcd (fun _ _ hl h => h_law_s_parts hl h)
  have G_law_s_fault := ok_law_s_fault (P := P) (w := w) (base := base) T G_law_s_gcd G_law_s_holds (fun _ _ hl h => h_law_s_fault hl h)
  have G_law_b_changed := ok_law_b_changed (P := P) (w := w) (base := base) T G_law_draw (fun _ _ hl h => h_law_b_changed hl h)
  have G_law_few_links := ok_law_few_links (P := P) (w := w) (base := base) T G_law_draw (fun _ _ hl h => h_law_few_links hl h)
  have G_law_moved := ok_law_moved (P := P) (w := w) (base := base) T G_law_draw (fun _ _ hl h => h_law_moved hl h)
  have G_holds := ok_holds (P := P) (w := w) (base := base) T G_start_sum G_dead_ends G_common_multiple G_arriving (fun _ _ hl h => h_holds hl h)
  have G_law_b_follow := ok_law_b_follow (P := P) (w := w) (base := base) T G_law_draw G_law_pick G_law_s_lowest (fun _ _ hl h => h_law_b_follow hl h)
  have G_law_b_web := ok_law_b_web (P := P) (w := w) (base := base) T G_law_draw G_law_pick (fun _ _ hl h => h_law_b_web hl h)
  have G_law_bent := ok_law_bent (P := P) (w := w) (base := base) T G_law_draw G_law_pick G_law_moved G_law_last_two (fun _ _ hl h => h_law_bent hl h)
  have G_law_cases := ok_law_cases (P := P) (w := w) (base := base) T G_law_s_fault (fun _ _ hl h => h_law_cases hl h)
  have G_judge := ok_judge (P := P) (w := w) (base := base) T G_common_divisor G_holds (fun _ _ hl h => h_judge hl h)
  have G_law_same := rec_law_same (P := P) (w := w) (base := base) T 
  have G_law := ok_law (P := P) (w := w) (base := base) T G_judge G_law_tape G_law_draw G_law_pick G_law_turns G_law_same G_law_s_parts G_law_b_follow G_law_b_web G_law_b_changed G_law_few_links G_law_bent G_law_cases (fun _ _ hl h => h_law hl h)
  exact G_law
theorem all_mk {l : PySem.W.OpenLaw} {w : World} {K : PySem.W.Frag} {h : Heap} {mg : Str → Option Value} {fa : Addr} (X : K.In h) (G : h.Ns mainGlobals mg) (hfa : mg "law" = some (.ref fa))
    {f0 : Addr} {o0 n0 : Option Addr} {sl0 : Array (Option Value)} {v0 w0 x0 y0 c0 z0 : Value} (a0 : PySem.W.nsIn K mainGlobals "common_divisor" = some (some (.ref f0))) (l0 : K.lookup f0 = some ⟨v0, o0, .func (PySem.W.fnOf "common_divisor" "common_divisor" (defArgs s_common_divisor) (defBody s_common_divisor) (defScope s_common_divisor) .none w0 x0 y0 n0 c0 z0), sl0⟩) (c_0 : PySem.W.codeIn K c0 "common_divisor" = true) (k0 : PySem.W.keepIn K (.ref f0) = true)
    {f1 : Addr} {o1 n1 : Option Addr} {sl1 : Array (Option Value)} {v1 w1 x1 y1 c1 z1 : Value} (a1 : PySem.W.nsIn K mainGlobals "start_sum" = some (some (.ref f1))) (l1 : K.lookup f1 = some ⟨v1, o1, .func (PySem.W.fnOf "start_sum" "start_sum" (defArgs s_start_sum) (defBody s_start_sum) (defScope s_start_sum) .none w1 x1 y1 n1 c1 z1), sl1⟩) (c_1 : PySem.W.codeIn K c1 "start_sum" = true) (k1 : PySem.W.keepIn K (.ref f1) = true)
    {f2 : Addr} {o2 n2 : Option Addr} {sl2 : Array (Option Value)} {v2 w2 x2 y2 c2 z2 : Value} (a2 : PySem.W.nsIn K mainGlobals "leading_to" = some (some (.ref f2))) (l2 : K.lookup f2 = some ⟨v2, o2, .func (PySem.W.fnOf "leading_to" "leading_to" (defArgs s_leading_to) (defBody s_leading_to) (defScope s_leading_to) .none w2 x2 y2 n2 c2 z2), sl2⟩) (c_2 : PySem.W.codeIn K c2 "leading_to" = true) (k2 : PySem.W.keepIn K (.ref f2) = true)
    {f3 : Addr} {o3 n3 : Option Addr} {sl3 : Array (Option Value)} {v3 w3 x3 y3 c3 z3 : Value} (a3 : PySem.W.nsIn K mainGlobals "dead_ends" = some (some (.ref f3))) (l3 : K.lookup f3 = some ⟨v3, o3, .func (PySem.W.fnOf "dead_ends" "dead_ends" (defArgs s_dead_ends) (defBody s_dead_ends) (defScope s_dead_ends) .none w3 x3 y3 n3 c3 z3), sl3⟩) (c_3 : PySem.W.codeIn K c3 "dead_ends" = true) (k3 : PySem.W.keepIn K (.ref f3) = true)
    {f4 : Addr} {o4 n4 : Option Addr} {sl4 : Array (Option Value)} {v4 w4 x4 y4 c4 z4 : Value} (a4 : PySem.W.nsIn K mainGlobals "common_multiple" = some (some (.ref f4))) (l4 : K.lookup f4 = some ⟨v4, o4, .func (PySem.W.fnOf "common_multiple" "common_multiple" (defArgs s_common_multiple) (defBody s_common_multiple) (defScope s_common_multiple) .none w4 x4 y4 n4 c4 z4), sl4⟩) (c_4 : PySem.W.codeIn K c4 "common_multiple" = true) (k4 : PySem.W.keepIn K (.ref f4) = true)
    {f5 : Addr} {o5 n5 : Option Addr} {sl5 : Array (Option Value)} {v5 w5 x5 y5 c5 z5 : Value} (a5 : PySem.W.nsIn K mainGlobals "_law_tape" = some (some (.ref f5))) (l5 : K.lookup f5 = some ⟨v5, o5, .func (PySem.W.fnOf "_law_tape" "_law_tape" (defArgs s_law_tape) (defBody s_law_tape) (defScope s_law_tape) .none w5 x5 y5 n5 c5 z5), sl5⟩) (c_5 : PySem.W.codeIn K c5 "_law_tape" = true) (k5 : PySem.W.keepIn K (.ref f5) = true)
    {f6 : Addr} {o6 n6 : Option Addr} {sl6 : Array (Option Value)} {v6 w6 x6 y6 c6 z6 : Value} (a6 : PySem.W.nsIn K mainGlobals "_law_draw" = some (some (.ref f6))) (l6 : K.lookup f6 = some ⟨v6, o6, .func (PySem.W.fnOf "_law_draw" "_law_draw" (defArgs s_law_draw) (defBody s_law_draw) (defScope s_law_draw) .none w6 x6 y6 n6 c6 z6), sl6⟩) (c_6 : PySem.W.codeIn K c6 "_law_draw" = true) (k6 : PySem.W.keepIn K (.ref f6) = true)
    {f7 : Addr} {o7 n7 : Option Addr} {sl7 : Array (Option Value)} {v7 w7 x7 y7 c7 z7 : Value} (a7 : PySem.W.nsIn K mainGlobals "_law_s_gcd" = some (some (.ref f7))) (l7 : K.lookup f7 = some ⟨v7, o7, .func (PySem.W.fnOf "_law_s_gcd" "_law_s_gcd" (defArgs s_law_s_gcd) (defBody s_law_s_gcd) (defScope s_law_s_gcd) .none w7 x7 y7 n7 c7 z7), sl7⟩) (c_7 : PySem.W.codeIn K c7 "_law_s_gcd" = true) (k7 : PySem.W.keepIn K (.ref f7) = true)
    {f8 : Addr} {o8 n8 : Option Addr} {sl8 : Array (Option Value)} {v8 w8 x8 y8 c8 z8 : Value} (a8 : PySem.W.nsIn K mainGlobals "_law_s_holds" = some (some (.ref f8))) (l8 : K.lookup f8 = some ⟨v8, o8, .func (PySem.W.fnOf "_law_s_holds" "_law_s_holds" (defArgs s_law_s_holds) (defBody s_law_s_holds) (defScope s_law_s_holds) .none w8 x8 y8 n8 c8 z8), sl8⟩) (c_8 : PySem.W.codeIn K c8 "_law_s_holds" = true) (k8 : PySem.W.keepIn K (.ref f8) = true)
    {f9 : Addr} {o9 n9 : Option Addr} {sl9 : Array (Option Value)} {v9 w9 x9 y9 c9 z9 : Value} (a9 : PySem.W.nsIn K mainGlobals "_law_last_two" = some (some (.ref f9))) (l9 : K.lookup f9 = some ⟨v9, o9, .func (PySem.W.fnOf "_law_last_two" "_law_last_two" (defArgs s_law_last_two) (defBody s_law_last_two) (defScope s_law_last_two) .none w9 x9 y9 n9 c9 z9), sl9⟩) (c_9 : PySem.W.codeIn K c9 "_law_last_two" = true) (k9 : PySem.W.keepIn K (.ref f9) = true)
    {f10 : Addr} {o10 n10 : Option Addr} {sl10 : Array (Option Value)} {v10 w10 x10 y10 c10 z10 : Value} (a10 : PySem.W.nsIn K mainGlobals "arriving" = some (some (.ref f10))) (l10 : K.lookup f10 = some ⟨v10, o10, .func (PySem.W.fnOf "arriving" "arriving" (defArgs s_arriving) (defBody s_arriving) (defScope s_arriving) .none w10 x10 y10 n10 c10 z10), sl10⟩) (c_10 : PySem.W.codeIn K c10 "arriving" = true) (k10 : PySem.W.keepIn K (.ref f10) = true)
    {f11 : Addr} {o11 n11 : Option Addr} {sl11 : Array (Option Value)} {v11 w11 x11 y11 c11 z11 : Value} (a11 : PySem.W.nsIn K mainGlobals "_law_pick" = some (some (.ref f11))) (l11 : K.lookup f11 = some ⟨v11, o11, .func (PySem.W.fnOf "_law_pick" "_law_pick" (defArgs s_law_pick) (defBody s_law_pick) (defScope s_law_pick) .none w11 x11 y11 n11 c11 z11), sl11⟩) (c_11 : PySem.W.codeIn K c11 "_law_pick" = true) (k11 : PySem.W.keepIn K (.ref f11) = true)
    {f12 : Addr} {o12 n12 : Option Addr} {sl12 : Array (Option Value)} {v12 w12 x12 y12 c12 z12 : Value} (a12 : PySem.W.nsIn K mainGlobals "_law_turns" = some (some (.ref f12))) (l12 : K.lookup f12 = some ⟨v12, o12, .func (PySem.W.fnOf "_law_turns" "_law_turns" (defArgs s_law_turns) (defBody s_law_turns) (defScope s_law_turns) .none w12 x12 y12 n12 c12 z12), sl12⟩) (c_12 : PySem.W.codeIn K c12 "_law_turns" = true) (k12 : PySem.W.keepIn K (.ref f12) = true)
    {f13 : Addr} {o13 n13 : Option Addr} {sl13 : Array (Option Value)} {v13 w13 x13 y13 c13 z13 : Value} (a13 : PySem.W.nsIn K mainGlobals "_law_s_lowest" = some (some (.ref f13))) (l13 : K.lookup f13 = some ⟨v13, o13, .func (PySem.W.fnOf "_law_s_lowest" "_law_s_lowest" (defArgs s_law_s_lowest) (defBody s_law_s_lowest) (defScope s_law_s_lowest) .none w13 x13 y13 n13 c13 z13), sl13⟩) (c_13 : PySem.W.codeIn K c13 "_law_s_lowest" = true) (k13 : PySem.W.keepIn K (.ref f13) = true)
    {f14 : Addr} {o14 n14 : Option Addr} {sl14 : Array (Option Value)} {v14 w14 x14 y14 c14 z14 : Value} (a14 : PySem.W.nsIn K mainGlobals "_law_s_parts" = some (some (.ref f14))) (l14 : K.lookup f14 = some ⟨v14, o14, .func (PySem.W.fnOf "_law_s_parts" "_law_s_parts" (defArgs s_law_s_parts) (defBody s_law_s_parts) (defScope s_law_s_parts) .none w14 x14 y14 n14 c14 z14), sl14⟩) (c_14 : PySem.W.codeIn K c14 "_law_s_parts" = true) (k14 : PySem.W.keepIn K (.ref f14) = true)
    {f15 : Addr} {o15 n15 : Option Addr} {sl15 : Array (Option Value)} {v15 w15 x15 y15 c15 z15 : Value} (a15 : PySem.W.nsIn K mainGlobals "_law_s_fault" = some (some (.ref f15))) (l15 : K.lookup f15 = some ⟨v15, o15, .func (PySem.W.fnOf "_law_s_fault" "_law_s_fault" (defArgs s_law_s_fault) (defBody s_law_s_fault) (defScope s_law_s_fault) .none w15 x15 y15 n15 c15 z15), sl15⟩) (c_15 : PySem.W.codeIn K c15 "_law_s_fault" = true) (k15 : PySem.W.keepIn K (.ref f15) = true)
    {f16 : Addr} {o16 n16 : Option Addr} {sl16 : Array (Option Value)} {v16 w16 x16 y16 c16 z16 : Value} (a16 : PySem.W.nsIn K mainGlobals "_law_b_changed" = some (some (.ref f16))) (l16 : K.lookup f16 = some ⟨v16, o16, .func (PySem.W.fnOf "_law_b_changed" "_law_b_changed" (defArgs s_law_b_changed) (defBody s_law_b_changed) (defScope s_law_b_changed) .none w16 x16 y16 n16 c16 z16), sl16⟩) (c_16 : PySem.W.codeIn K c16 "_law_b_changed" = true) (k16 : PySem.W.keepIn K (.ref f16) = true)
    {f17 : Addr} {o17 n17 : Option Addr} {sl17 : Array (Option Value)} {v17 w17 x17 y17 c17 z17 : Value} (a17 : PySem.W.nsIn K mainGlobals "_law_few_links" = some (some (.ref f17))) (l17 : K.lookup f17 = some ⟨v17, o17, .func (PySem.W.fnOf "_law_few_links" "_law_few_links" (defArgs s_law_few_links) (defBody s_law_few_links) (defScope s_law_few_links) .none w17 x17 y17 n17 c17 z17), sl17⟩) (c_17 : PySem.W.codeIn K c17 "_law_few_links" = true) (k17 : PySem.W.keepIn K (.ref f17) = true)
    {f18 : Addr} {o18 n18 : Option Addr} {sl18 : Array (Option Value)} {v18 w18 x18 y18 c18 z18 : Value} (a18 : PySem.W.nsIn K mainGlobals "_law_moved" = some (some (.ref f18))) (l18 : K.lookup f18 = some ⟨v18, o18, .func (PySem.W.fnOf "_law_moved" "_law_moved" (defArgs s_law_moved) (defBody s_law_moved) (defScope s_law_moved) .none w18 x18 y18 n18 c18 z18), sl18⟩) (c_18 : PySem.W.codeIn K c18 "_law_moved" = true) (k18 : PySem.W.keepIn K (.ref f18) = true)
    {f19 : Addr} {o19 n19 : Option Addr} {sl19 : Array (Option Value)} {v19 w19 x19 y19 c19 z19 : Value} (a19 : PySem.W.nsIn K mainGlobals "holds" = some (some (.ref f19))) (l19 : K.lookup f19 = some ⟨v19, o19, .func (PySem.W.fnOf "holds" "holds" (defArgs s_holds) (defBody s_holds) (defScope s_holds) .none w19 x19 y19 n19 c19 z19), sl19⟩) (c_19 : PySem.W.codeIn K c19 "holds" = true) (k19 : PySem.W.keepIn K (.ref f19) = true)
    {f20 : Addr} {o20 n20 : Option Addr} {sl20 : Array (Option Value)} {v20 w20 x20 y20 c20 z20 : Value} (a20 : PySem.W.nsIn K mainGlobals "_law_b_follow" = some (some (.ref f20))) (l20 : K.lookup f20 = some ⟨v20, o20, .func (PySem.W.fnOf "_law_b_follow" "_law_b_follow" (defArgs s_law_b_follow) (defBody s_law_b_follow) (defScope s_law_b_follow) .none w20 x20 y20 n20 c20 z20), sl20⟩) (c_20 : PySem.W.codeIn K c20 "_law_b_follow" = true) (k20 : PySem.W.keepIn K (.ref f20) = true)
    {f21 : Addr} {o21 n21 : Option Addr} {sl21 : Array (Option Value)} {v21 w21 x21 y21 c21 z21 : Value} (a21 : PySem.W.nsIn K mainGlobals "_law_b_web" = some (some (.ref f21))) (l21 : K.lookup f21 = some ⟨v21, o21, .func (PySem.W.fnOf "_law_b_web" "_law_b_web" (defArgs s_law_b_web) (defBody s_law_b_web) (defScope s_law_b_web) .none w21 x21 y21 n21 c21 z21), sl21⟩) (c_21 : PySem.W.codeIn K c21 "_law_b_web" = true) (k21 : PySem.W.keepIn K (.ref f21) = true)
    {f22 : Addr} {o22 n22 : Option Addr} {sl22 : Array (Option Value)} {v22 w22 x22 y22 c22 z22 : Value} (a22 : PySem.W.nsIn K mainGlobals "_law_bent" = some (some (.ref f22))) (l22 : K.lookup f22 = some ⟨v22, o22, .func (PySem.W.fnOf "_law_bent" "_law_bent" (defArgs s_law_bent) (defBody s_law_bent) (defScope s_law_bent) .none w22 x22 y22 n22 c22 z22), sl22⟩) (c_22 : PySem.W.codeIn K c22 "_law_bent" = true) (k22 : PySem.W.keepIn K (.ref f22) = true)
    {f23 : Addr} {o23 n23 : Option Addr} {sl23 : Array (Option Value)} {v23 w23 x23 y23 c23 z23 : Value} (a23 : PySem.W.nsIn K mainGlobals "_law_cases" = some (some (.ref f23))) (l23 : K.lookup f23 = some ⟨v23, o23, .func (PySem.W.fnOf "_law_cases" "_law_cases" (defArgs s_law_cases) (defBody s_law_cases) (defScope s_law_cases) .none w23 x23 y23 n23 c23 z23), sl23⟩) (c_23 : PySem.W.codeIn K c23 "_law_cases" = true) (k23 : PySem.W.keepIn K (.ref f23) = true)
    {f24 : Addr} {o24 n24 : Option Addr} {sl24 : Array (Option Value)} {v24 w24 x24 y24 c24 z24 : Value} (a24 : PySem.W.nsIn K mainGlobals "judge" = some (some (.ref f24))) (l24 : K.lookup f24 = some ⟨v24, o24, .func (PySem.W.fnOf "judge" "judge" (defArgs s_judge) (defBody s_judge) (defScope s_judge) .none w24 x24 y24 n24 c24 z24), sl24⟩) (c_24 : PySem.W.codeIn K c24 "judge" = true) (k24 : PySem.W.keepIn K (.ref f24) = true)
    {f25 : Addr} {o25 n25 : Option Addr} {sl25 : Array (Option Value)} {v25 w25 x25 y25 c25 z25 : Value} (a25 : PySem.W.nsIn K mainGlobals "_law_same" = some (some (.ref f25))) (l25 : K.lookup f25 = some ⟨v25, o25, .func (PySem.W.fnOf "_law_same" "_law_same" (defArgs s_law_same) (defBody s_law_same) (defScope s_law_same) .none w25 x25 y25 n25 c25 z25), sl25⟩) (c_25 : PySem.W.codeIn K c25 "_law_same" = true) (k25 : PySem.W.keepIn K (.ref f25) = true)
    {f26 : Addr} {o26 n26 : Option Addr} {sl26 : Array (Option Value)} {v26 w26 x26 y26 c26 z26 : Value} (a26 : PySem.W.nsIn K mainGlobals "law" = some (some (.ref f26))) (l26 : K.lookup f26 = some ⟨v26, o26, .func (PySem.W.fnOf "law" "law" (defArgs s_law) (defBody s_law) (defScope s_law) .none w26 x26 y26 n26 c26 z26), sl26⟩) (c_26 : PySem.W.codeIn K c26 "law" = true) (k26 : PySem.W.keepIn K (.ref f26) = true)
    (zb_abs : PySem.W.nsIn K mainGlobals "abs" = some none)
    (zb_bool : PySem.W.nsIn K mainGlobals "bool" = some none)
    (zb_enumerate : PySem.W.nsIn K mainGlobals "enumerate" = some none)
    (zb_gcd : PySem.W.nsIn K mainGlobals "gcd" = some (some (.builtin "math.gcd")))
    (zb_int : PySem.W.nsIn K mainGlobals "int" = some none)
    (zb_isinstance : PySem.W.nsIn K mainGlobals "isinstance" = some none)
    (zb_lcm : PySem.W.nsIn K mainGlobals "lcm" = some (some (.builtin "math.lcm")))
    (zb_len : PySem.W.nsIn K mainGlobals "len" = some none)
    (zb_list : PySem.W.nsIn K mainGlobals "list" = some none)
    (zb_max : PySem.W.nsIn K mainGlobals "max" = some none)
    (zb_range : PySem.W.nsIn K mainGlobals "range" = some none)
    (zb_set : PySem.W.nsIn K mainGlobals "set" = some none)
    (zb_sorted : PySem.W.nsIn K mainGlobals "sorted" = some none)
    (zb_str : PySem.W.nsIn K mainGlobals "str" = some none)
    (zb_sum : PySem.W.nsIn K mainGlobals "sum" = some none)
    (zb_tuple : PySem.W.nsIn K mainGlobals "tuple" = some none)
    : ∃ fd : FuncData, (∀ (s : Shared) (v : Value), BindsTo s fd ⟨[v], []⟩ [("script", v)]) ∧ ∀ base : Heap, K.In base → base.Ns mainGlobals mg → FnOk l.prog w K mg base CX0 7 fa fd ["script"] (spD K ([], []) 1 sp_law) := by
  have e := hfa.symm.trans (PySem.W.mg_of X G a26)
  cases e
  have F0 := fun_mk (st := s_common_divisor) l0 c_0 k0
  have b0 := F0.binds (ps := p_common_divisor) fun _ _ _ _ _ _ us hl => match us, hl with | [_], _ => rfl
  have F1 := fun_mk (st := s_start_sum) l1 c_1 k1
  have b1 := F1.binds (ps := p_start_sum) fun _ _ _ _ _ _ us hl => match us, hl with | [_], _ => rfl
  have F2 := fun_mk (st := s_leading_to) l2 c_2 k2
  have b2 := F2.binds (ps := p_leading_to) fun _ _ _ _ _ _ us hl => match us, hl with | [_, _], _ => rfl
  have F3 := fun_mk (st := s_dead_ends) l3 c_3 k3
  have b3 := F3.binds (ps := p_dead_ends) fun _ _ _ _ _ _ us hl => match us, hl with | [_], _ => rfl
  have F4 := fun_mk (st := s_common_multiple) l4 c_4 k4
  have b4 := F4.binds (ps := p_common_multiple) fun _ _ _ _ _ _ us hl => match us, hl with | [_], _ => rfl
  have F5 := fun_mk (st := s_law_tape) l5 c_5 k5
  have b5 := F5.binds (ps := p_law_tape) fun _ _ _ _ _ _ us hl => match us, hl with | [_], _ => rfl
  have F6 := fun_mk (st := s_law_draw) l6 c_6 k6
  have b6 := F6.binds (ps := p_law_draw) fun _ _ _ _ _ _ us hl => match us, hl with | [_, _], _ => rfl
  have F7 := fun_mk (st := s_law_s_gcd) l7 c_7 k7
  have b7 := F7.binds (ps := p_law_s_gcd) fun _ _ _ _ _ _ us hl => match us, hl with | [_, _], _ => rfl
  have F8 := fun_mk (st := s_law_s_holds) l8 c_8 k8
  have b8 := F8.binds (ps := p_law_s_holds) fun _ _ _ _ _ _ us hl => match us, hl with | [_, _, _, _], _ => rfl
  have F9 := fun_mk (st := s_law_last_two) l9 c_9 k9
  have b9 := F9.binds (ps := p_law_last_two) fun _ _ _ _ _ _ us hl => match us, hl with | [_], _ => rfl
  have F10 := fun_mk (st := s_arriving) l10 c_10 k10
  have b10 := F10.binds (ps := p_arriving) fun _ _ _ _ _ _ us hl => match us, hl with | [_, _, _, _], _ => rfl
  have F11 := fun_mk (st := s_law_pick) l11 c_11 k11
  have b11 := F11.binds (ps := p_law_pick) fun _ _ _ _ _ _ us hl => match us, hl with | [_, _], _ => rfl
  have F12 := fun_mk (st := s_law_turns) l12 c_12 k12
  have b12 := F12.binds (ps := p_law_turns) fun _ _ _ _ _ _ us hl => match us, hl with | [_, _], _ => rfl
  have F13 := fun_mk (st := s_law_s_lowest) l13 c_13 k13
  have b13 := F13.binds (ps := p_law_s_lowest) fun _ _ _ _ _ _ us hl => match us, hl with | [_, _], _ => rfl
  have F14 := fun_mk (st := s_law_s_parts) l14 c_14 k14
  have b14 := F14.binds (ps := p_law_s_parts) fun _ _ _ _ _ _ us hl => match us, hl with | [_, _], _ => rfl
  have F15 := fun_mk (st := s_law_s_fault) l15 c_15 k15
  have b15 := F15.binds (ps := p_law_s_fault) fun _ _ _ _ _ _ us hl => match us, hl with | [_, _, _], _ => rfl
  have F16 := fun_mk (st := s_law_b_changed) l16 c_16 k16
  have b16 := F16.binds (ps := p_law_b_changed) fun _ _ _ _ _ _ us hl => match us, hl with | [_, _], _ => rfl
  have F17 := fun_mk (st := s_law_few_links) l17 c_17 k17
  have b17 := F17.binds (ps := p_law_few_links) fun _ _ _ _ _ _ us hl => match us, hl with | [_], _ => rfl
  have F18 := fun_mk (st := s_law_moved) l18 c_18 k18
  have b18 := F18.binds (ps := p_law_moved) fun _ _ _ _ _ _ us hl => match us, hl with | [_, _], _ => rfl
  have F19 := fun_mk (st := s_holds) l19 c_19 k19
  have b19 := F19.binds (ps := p_holds) fun _ _ _ _ _ _ us hl => match us, hl with | [_, _, _, _], _ => rfl
  have F20 := fun_mk (st := s_law_b_follow) l20 c_20 k20
  have b20 := F20.binds (ps := p_law_b_follow) fun _ _ _ _ _ _ us hl => match us, hl with | [_], _ => rfl
  have F21 := fun_mk (st := s_law_b_web) l21 c_21 k21
  have b21 := F21.binds (ps := p_law_b_web) fun _ _ _ _ _ _ us hl => match us, hl with | [_, _], _ => rfl
  have F22 := fun_mk (st := s_law_bent) l22 c_22 k22
  have b22 := F22.binds (ps := p_law_bent) fun _ _ _ _ _ _ us hl => match us, hl with | [_, _], _ => rfl
  have F23 := fun_mk (st := s_law_cases) l23 c_23 k23
  have b23 := F23.binds (ps := p_law_cases) fun _ _ _ _ _ _ us hl => match us, hl with | [_, _, _], _ => rfl
  have F24 := fun_mk (st := s_judge) l24 c_24 k24
  have b24 := F24.binds (ps := p_judge) fun _ _ _ _ _ _ us hl => match us, hl with | [_, _, _], _ => rfl
  have F25 := fun_mk (st := s_law_same) l25 c_25 k25
  have b25 := F25.binds (ps := p_law_same) fun _ _ _ _ _ _ us hl => match us, hl with | [_, _], _ => rfl
  have F26 := fun_mk (st := s_law) l26 c_26 k26
  have b26 := F26.binds (ps := p_law) fun _ _ _ _ _ _ us hl => match us, hl with | [_], _ => rfl
  refine ⟨PySem.W.fnOf "law" "law" (defArgs s_law) (defBody s_law) (defScope s_law) .none w26 x26 y26 n26 c26 z26, fun s v => .of_eq rfl, fun base _ _ => ?_⟩
  exact all_ok (⟨_, _, F0, PySem.W.mg_of X G a0, b0, _, _, F1, PySem.W.mg_of X G a1, b1, _, _, F2, PySem.W.mg_of X G a2, b2, _, _, F3, PySem.W.mg_of X G a3, b3, _, _, F4, PySem.W.mg_of X G a4, b4, _, _, F5, PySem.W.mg_of X G a5, b5, _, _, F6, PySem.W.mg_of X G a6, b6, _, _, F7, PySem.W.mg_of X G a7, b7, _, _, F8, PySem.W.mg_of X G a8, b8, _, _, F9, PySem.W.mg_of X G a9, b9, _, _, F10, PySem.W.mg_of X G a10, b10, _, _, F11, PySem.W.mg_of X G a11, b11, _, _, F12, PySem.W.mg_of X G a12, b12, _, _, F13, PySem.W.mg_of X G a13, b13, _, _, F14, PySem.W.mg_of X G a14, b14, _, _, F15, PySem.W.mg_of X G a15, b15, _, _, F16, PySem.W.mg_of X G a16, b16, _, _, F17, PySem.W.mg_of X G a17, b17, _, _, F18, PySem.W.mg_of X G a18, b18, _, _, F19, PySem.W.mg_of X G a19, b19, _, _, F20, PySem.W.mg_of X G a20, b20, _, _, F21, PySem.W.mg_of X G a21, b21, _, _, F22, PySem.W.mg_of X G a22, b22, _, _, F23, PySem.W.mg_of X G a23, b23, _, _, F24, PySem.W.mg_of X G a24, b24, _, _, F25, PySem.W.mg_of X G a25, b25, _, _, F26, PySem.W.mg_of X G a26, b26, PySem.W.mg_none_of X G zb_abs, PySem.W.mg_none_of X G zb_bool, PySem.W.mg_none_of X G zb_enumerate, PySem.W.mg_of X G zb_gcd, PySem.W.mg_none_of X G zb_int, PySem.W.mg_none_of X G zb_isinstance, PySem.W.mg_of X G zb_lcm, PySem.W.mg_none_of X G zb_len, PySem.W.mg_none_of X G zb_list, PySem.W.mg_none_of X G zb_max, PySem.W.mg_none_of X G zb_range, PySem.W.mg_none_of X G zb_set, PySem.W.mg_none_of X G zb_sorted, PySem.W.mg_none_of X G zb_str, PySem.W.mg_none_of X G zb_sum, PySem.W.mg_none_of X G zb_tuple⟩ : Tx K mg)
end Dlk24
open PySem PySem.W PyProof.Rows
set_option maxHeartbeats 0 in
theorem PySem.Challenge.cw_gatherhouse_k24_the_judge_takes_the_part_holds : PySem.Challenge.rw_gatherhouse_k24_the_judge_takes_the_part.Holds := by
  w_on; o_law; k_head; (case hw => w_witness2)
  k_fill
  refine L2.walk_of (l := PySem.Challenge.rw_gatherhouse_k24_the_judge_takes_the_part) (n := 63) (k := 7) (x := "script") (CX := fun _ => L2.CX0) (sp := fun w => DL.spD _ ([], []) 1 Dlk24.sp_law) rfl (by decide) rfl ⟨rfl, by decide, by decide⟩ (fun w h Y => PySem.W.kIn_of Y) ?F (fun _ _ a ns hl _ hS => DL.law_sp hS (Dlk24.law_start hl)) (fun _ _ _ _ _ h => h)
  case F =>
    intro w mg fa h KX G hmg
    refine' Dlk24.all_mk KX G hmg ?a0 ?l0 ?c_0 ?k0 ?a1 ?l1 ?c_1 ?k1 ?a2 ?l2 ?c_2 ?k2 ?a3 ?l3 ?c_3 ?k3 ?a4 ?l4 ?c_4 ?k4 ?a5 ?l5 ?c_5 ?k5 ?a6 ?l6 ?c_6 ?k6 ?a7 ?l7 ?c_7 ?k7 ?a8 ?l8 ?c_8 ?k8 ?a9 ?l9 ?c_9 ?k9 ?a10 ?l10 ?c_10 ?k10 ?a11 ?l11 ?c_11 ?k11 ?a12 ?l12 ?c_12 ?k12 ?a13 ?l13 ?c_13 ?k13 ?a14 ?l14 ?c_14 ?k14 ?a15 ?l15 ?c_15 ?k15 ?a16 ?l16 ?c_16 ?k16 ?a17 ?l17 ?c_17 ?k17 ?a18 ?l18 ?c_18 ?k18 ?a19 ?l19 ?c_19 ?k19 ?a20 ?l20 ?c_20 ?k20 ?a21 ?l21 ?c_21 ?k21 ?a22 ?l22 ?c_22 ?k22 ?a23 ?l23 ?c_23 ?k23 ?a24 ?l24 ?c_24 ?k24 ?a25 ?l25 ?c_25 ?k25 ?a26 ?l26 ?c_26 ?k26 ?zb_abs ?zb_bool ?zb_enumerate ?zb_gcd ?zb_int ?zb_isinstance ?zb_lcm ?zb_len ?zb_list ?zb_max ?zb_range ?zb_set ?zb_sorted ?zb_str ?zb_sum ?zb_tuple
    (case a0 => k_is); (case l0 => k_is); (case c_0 => k_is); (case k0 => k_is); (case a1 => k_is); (case l1 => k_is); (case c_1 => k_is); (case k1 => k_is); (case a2 => k_is); (case l2 => k_is); (case c_2 => k_is); (case k2 => k_is); (case a3 => k_is); (case l3 => k_is); (case c_3 => k_is); (case k3 => k_is); (case a4 => k_is); (case l4 => k_is); (case c_4 => k_is); (case k4 => k_is); (case a5 => k_is); (case l5 => k_is); (case c_5 => k_is); (case k5 => k_is); (case a6 => k_is); (case l6 => k_is); (case c_6 => k_is); (case k6 => k_is); (case a7 => k_is); (case l7 => k_is); (case c_7 => k_is); (case k7 => k_is); (case a8 => k_is); (case l8 => k_is); (case c_8 => k_is); (case k8 => k_is); (case a9 => k_is); (case l9 => k_is); (case c_9 => k_is); (case k9 => k_is); (case a10 => k_is); (case l10 => k_is); (case c_10 => k_is); (case k10 => k_is); (case a11 => k_is); (case l11 => k_is); (case c_11 => k_is); (case k11 => k_is); (case a12 => k_is); (case l12 => k_is); (case c_12 => k_is); (case k12 => k_is); (case a13 => k_is); (case l13 => k_is); (case c_13 => k_is); (case k13 => k_is); (case a14 => k_is); (case l14 => k_is); (case c_14 => k_is); (case k14 => k_is); (case a15 => k_is); (case l15 => k_is); (case c_15 => k_is); (case k15 => k_is); (case a16 => k_is); (case l16 => k_is); (case c_16 => k_is); (case k16 => k_is); (case a17 => k_is); (case l17 => k_is); (case c_17 => k_is); (case k17 => k_is); (case a18 => k_is); (case l18 => k_is); (case c_18 => k_is); (case k18 => k_is); (case a19 => k_is); (case l19 => k_is); (case c_19 => k_is); (case k19 => k_is); (case a20 => k_is); (case l20 => k_is); (case c_20 => k_is); (case k20 => k_is); (case a21 => k_is); (case l21 => k_is); (case c_21 => k_is); (case k21 => k_is); (case a22 => k_is); (case l22 => k_is); (case c_22 => k_is); (case k22 => k_is); (case a23 => k_is); (case l23 => k_is); (case c_23 => k_is); (case k23 => k_is); (case a24 => k_is); (case l24 => k_is); (case c_24 => k_is); (case k24 => k_is); (case a25 => k_is); (case l25 => k_is); (case c_25 => k_is); (case k25 => k_is); (case a26 => k_is); (case l26 => k_is); (case c_26 => k_is); (case k26 => k_is); (case zb_abs => k_is); (case zb_bool => k_is); (case zb_enumerate => k_is); (case zb_gcd => k_is); (case zb_int => k_is); (case zb_isinstance => k_is); (case zb_lcm => k_is); (case zb_len => k_is); (case zb_list => k_is); (case zb_max => k_is); (case zb_range => k_is); (case zb_set => k_is); (case zb_sorted => k_is); (case zb_str => k_is); (case zb_sum => k_is); (case zb_tuple => k_is)
