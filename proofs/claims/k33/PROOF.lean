import PyProof.Rows.All
import Wide.All
import OpenK.AllK
import Wide.FinOn
import HandS.ForMost
import HandS.Exc
import HandS.TryOnly
import HandS.ExcOwn
import HandS.WordsExc
import HandS.Wide
import HandS.IsInst
import HandS.Conv
import HandS.SortInts
import HandS.TupAny
import HandS.Deep
import HandS.Iter
import HandS.Zip
import HandS.Remove
import HandS.WideBits
import HandS.Gcd
import HandS.RaiseMore
import PyProof.ReprRoads
import HandS.NoneIn
import HandS.Flt
import PyProof.ReprLen
import HandS.Sort
import PyProof.Draws
import HandS.RevRange
import HandS.Rev
import HandS.SetFor
import HandS.Strs
import HandS.Defaults
import HandS.MakeKwOnly
import KE.DataMinMax
import HandS.More
import HandS.DictComp
import HandS.Style
import PySem.Challenge.RW_gatherhouse_k33_what_questions_give
set_option Elab.async false
set_option linter.all false
set_option maxRecDepth 100000
set_option maxHeartbeats 4000000
set_option autoImplicit false
/-! The data layer: what a name holds is plain data (PyData), or a list or dict that this def alone holds; the heap is told once, here. -/
namespace DL
open PySem PySem.Spec L2

inductive Sl where
  | d (x : PyData)
  | l (xs : List PyData)
  | m (kvs : List (Key × PyData))
  | t (kvs : List (List Key × PyData))
  /-- a range -/
  | g (lo hi : Int)
abbrev En := List (Option Sl)
inductive Rv where
  | d (x : PyData)
  | o (i : Nat)
  | n (s : Sl)

/-- the heap without what is held alone -/
def HW (H : Hp) (W : List Addr) : Hp := fun b => if b ∈ W then none else H b
section
variable {K : PySem.W.Frag} {H H' H1 H2 : Hp} {W W' W1 W2 : List Addr} {A : List (Option Addr)} {a b p : Addr} {o : HO} {v : V} {x : PyData} {vs : List V} {xs : List PyData}
theorem hw_some (h : HW H W b = some o) : b ∉ W ∧ H b = some o := by
  unfold HW at h
  by_cases e : b ∈ W
  · rw [if_pos e] at h; cases h
  · rw [if_neg e] at h; exact ⟨e, h⟩
theorem hw_of (e : b ∉ W) (h : H b = some o) : HW H W b = some o := by
  unfold HW; rw [if_neg e]; exact h
theorem hw_same : Same (HW H W) H := fun b o h => (hw_some h).2
theorem same_t {xs : List V} (e : Same H H') (h : SqT K H a xs) : SqT K H' a xs := by
  rcases h with (h | ⟨o, h⟩) | h
  · exact .inl (.inl (e _ _ h))
  · exact .inl (.inr ⟨o, e _ _ h⟩)
  · exact .inr h
mutual
theorem dp_mono (e : Same H H') : ∀ (x : PyData) {v : V}, Dp K H v x → Dp K H' v x
  | .none, _, h => by cases h; exact .non
  | .bool _, _, h => by cases h; exact .bl _
  | .int _, _, h => by cases h; exact .int _
  | .str _, _, h => by cases h; exact .str _
  | .list ds, _, h => by
    cases h with
    | lst s r => exact .lst (e.seq s) (dpa_mono e ds r)
  | .tuple ds, _, h => by
    cases h with
    | tup s r => exact .tup (same_t e s) (dpa_mono e ds r)
  | .dict _, _, h => by cases h
theorem dpa_mono (e : Same H H') : ∀ (ds : List PyData) {vs : List V}, DpAll K H vs ds → DpAll K H' vs ds
  | [], _, h => by cases h; exact .nil
  | d :: ds, _, h => by
    cases h with
    | cons a b => exact .cons (dp_mono e d a) (dpa_mono e ds b)
end

/-- what a step may change: nothing but what stands in A; what is new may be held alone -/
structure Stp (A : List (Option Addr)) (H : Hp) (W : List Addr) (H' : Hp) (W' : List Addr) : Prop where
  ext : ∀ b o, H b = some o → some b ∉ A → H' b = some o
  there : ∀ b, H b ≠ none → H' b ≠ none
  up : ∀ p, p ∈ W → p ∈ W'
  fr : ∀ p, p ∈ W' → p ∈ W ∨ (H p = none ∧ H' p ≠ none)
theorem Stp.refl : Stp A H W H W := ⟨fun _ _ h _ => h, fun _ h => h, fun _ h => h, fun _ h => .inl h⟩
theorem Stp.back (s : Stp A H W H' W') (h : H' p = none) : H p = none := by
  cases e : H p with
  | none => rfl
  | some o => exact absurd h (s.there p (by rw [e]; simp))
theorem Stp.trans (s : Stp A H W H1 W1) (t : Stp A H1 W1 H2 W2) : Stp A H W H2 W2 :=
  ⟨fun b o h n => t.ext b o (s.ext b o h n) n, fun b h => t.there b (s.there b h), fun p h => t.up p (s.up p h), fun p h => (t.fr p h).elim (fun z => (s.fr p z).imp id fun q => ⟨q.1, t.there p q.2⟩) fun z => .inr ⟨s.back z.1, z.2⟩⟩
def AinW (A : List (Option Addr)) (W : List Addr) : Prop := ∀ a, some a ∈ A → a ∈ W
theorem Stp.same (s : Stp A H W H' W') (h : AinW A W) : Same (HW H W) (HW H' W') := fun b o e => by
  obtain ⟨n, e⟩ := hw_some e
  refine hw_of (fun z => ?_) (s.ext b o e fun z => n (h b z))
  rcases s.fr b z with q | q
  · exact n q
  · rw [e] at q; cases q.1
theorem Stp.dp (s : Stp A H W H' W') (h : AinW A W) (r : Dp K (HW H W) v x) : Dp K (HW H' W') v x := dp_mono (s.same h) x r
theorem Stp.dpa (s : Stp A H W H' W') (h : AinW A W) (r : DpAll K (HW H W) vs xs) : DpAll K (HW H' W') vs xs := dpa_mono (s.same h) xs r
theorem Stp.ain (s : Stp A H W H' W') (h : AinW A W) : AinW A W' := fun a z => s.up a (h a z)

/-- an object that is held alone, by its content -/
def OwR (K : PySem.W.Frag) (H : Hp) (W : List Addr) (p : Addr) : Sl → Prop
  | .d _ => False
  | .l xs => ∃ vs, H p = some (.lst vs) ∧ DpAll K (HW H W) vs xs
  | .m kvs => ∃ ws, H p = some (.dK ws) ∧ ws.map (·.1) = kvs.map (·.1) ∧ DpAll K (HW H W) (ws.map (·.2)) (kvs.map (·.2))
  | .t kvs => ∃ ws, H p = some (.dT ws) ∧ ws.map (·.1) = kvs.map (·.1) ∧ DpAll K (HW H W) (ws.map (·.2)) (kvs.map (·.2))
  | .g lo hi => H p = some (.rng lo hi)
theorem OwR.mono {s : Sl} (e : Same (HW H W) (HW H' W')) (k : H' p = H p) (h : OwR K H W p s) : OwR K H' W' p s := by
  cases s with
  | d _ => exact h
  | l xs => obtain ⟨vs, a, b⟩ := h; exact ⟨vs, k.trans a, dpa_mono e _ b⟩
  | m kvs => obtain ⟨vs, a, c, b⟩ := h; exact ⟨vs, k.trans a, c, dpa_mono e _ b⟩
  | t kvs => obtain ⟨vs, a, c, b⟩ := h; exact ⟨vs, k.trans a, c, dpa_mono e _ b⟩
  | g _ _ => exact k.trans h
theorem OwR.ex {s : Sl} (h : OwR K H W p s) : ∃ o, H p = some o := by
  cases s with
  | d _ => exact h.elim
  | l xs => obtain ⟨vs, a, b⟩ := h; exact ⟨_, a⟩
  | m kvs => obtain ⟨vs, a, b⟩ := h; exact ⟨_, a⟩
  | t kvs => obtain ⟨vs, a, b⟩ := h; exact ⟨_, a⟩
  | g _ _ => exact ⟨_, h⟩
theorem OwR.step {s : Sl} (h : OwR K H W p s) (st : Stp A H W H' W') (ha : AinW A W) (hp : some p ∉ A) : OwR K H' W' p s := by
  obtain ⟨o, e⟩ := h.ex
  exact h.mono (st.same ha) ((st.ext p o e hp).trans e.symm)
def Sl.isD : Sl → Bool
  | .d _ => true
  | _ => false

/-- the names of the def, by what they hold; A: where what is held alone stands -/
structure EnR (K : PySem.W.Frag) (H : Hp) (W : List Addr) (A : List (Option Addr)) (env : En) (σ : St) : Prop where
  len : σ.length = env.length
  lenA : A.length = env.length
  dat : ∀ (i : Nat) (x : PyData), env[i]? = some (some (Sl.d x)) → A[i]? = some none ∧ ∃ v : V, σ[i]? = some (some v) ∧ Dp K (HW H W) v x
  own : ∀ (i : Nat) (s : Sl), env[i]? = some (some s) → s.isD = false → ∃ a : Addr, A[i]? = some (some a) ∧ σ[i]? = some (some (V.ref a)) ∧ OwR K H W a s
  back : ∀ (i : Nat) (a : Addr), A[i]? = some (some a) → a ∈ W ∧ ∃ s : Sl, env[i]? = some (some s) ∧ s.isD = false
  inj : ∀ (i j : Nat) (a : Addr), A[i]? = some (some a) → A[j]? = some (some a) → i = j
  trk : ∀ p, p ∈ W → H p ≠ none
theorem EnR.ain {env : En} {σ : St} (r : EnR K H W A env σ) : AinW A W := fun a h => by
  obtain ⟨i, hi⟩ := List.mem_iff_getElem?.mp h
  exact (r.back i a hi).1
/-- all that the names tell stays -/
theorem EnR.keep {env : En} {σ : St} (r : EnR K H W A env σ) (s : Stp A H W H' W') (k : ∀ a, some a ∈ A → H' a = H a) : EnR K H' W' A env σ := by
  have e := s.same r.ain
  refine ⟨r.len, r.lenA, fun i x h => ?_, fun i z h hz => ?_, fun i a h => ?_, r.inj, fun p hp => (s.fr p hp).elim (fun z => s.there p (r.trk p z)) fun z => z.2⟩
  · obtain ⟨a, v, q, w⟩ := r.dat i x h
    exact ⟨a, v, q, dp_mono e x w⟩
  · obtain ⟨a, q, q2, w⟩ := r.own i z h hz
    exact ⟨a, q, q2, w.mono e (k a (List.mem_of_getElem? q))⟩
  · obtain ⟨q, w⟩ := r.back i a h
    exact ⟨s.up a q, w⟩

/-- a value at hand: what came since H0, W0 -/
def RvR (K : PySem.W.Frag) (H0 : Hp) (W0 : List Addr) (H : Hp) (W : List Addr) (A : List (Option Addr)) : Rv → V → Prop
  | .d x, v => Dp K (HW H W) v x
  | .o i, v => ∃ a : Addr, A[i]? = some (some a) ∧ v = .ref a
  | .n s, v => ∃ p, v = .ref p ∧ H0 p = none ∧ p ∈ W ∧ p ∉ W0 ∧ OwR K H W p s
theorem RvR.step {H0 : Hp} {W0 : List Addr} {rv : Rv} (r : RvR K H0 W0 H W A rv v) (s : Stp A H W H' W') (ha : AinW A W) (ha0 : AinW A W0) : RvR K H0 W0 H' W' A rv v := by
  cases rv with
  | d x => exact s.dp ha r
  | o i => exact r
  | n z =>
    obtain ⟨p, e, n, m, nm, ow⟩ := r
    exact ⟨p, e, n, s.up p m, nm, OwR.step ow s ha fun q => nm (ha0 p q)⟩
theorem RvR.from {H0 H1 : Hp} {W0 W1 : List Addr} {rv : Rv} (s : Stp A H0 W0 H1 W1) (r : RvR K H1 W1 H W A rv v) : RvR K H0 W0 H W A rv v := by
  cases rv with
  | d x => exact r
  | o i => exact r
  | n z =>
    obtain ⟨p, e, n, m, nm, ow⟩ := r
    exact ⟨p, e, s.back n, m, fun q => nm (s.up p q), ow⟩
end

/-! ### judgements -/
abbrev TD := En → (Rv → En → Prop) → Prop
abbrev TDA := En → (List Rv → En → Prop) → Prop
abbrev TDT := En → (Bool → En → Prop) → Prop
def PD (X : Cx) (e : Expr) (t : TD) : Prop := ∃ te, PE X e te ∧ ∀ (σ : St) (H : Hp) (W : List Addr) (A : List (Option Addr)) (env : En) (Q : VK) (Qd : Rv → En → Prop), EnR X.K H W A env σ → t env Qd →
  (∀ v H' W' env' rv, EnR X.K H' W' A env' σ → Stp A H W H' W' → RvR X.K H W H' W' A rv v → Qd rv env' → Q v H') → te σ H Q
def PDT (X : Cx) (e : Expr) (t : TDT) : Prop := ∃ tt, PT X e tt ∧ ∀ (σ : St) (H : Hp) (W : List Addr) (A : List (Option Addr)) (env : En) (Q : Bool → Hp → Prop) (Qd : Bool → En → Prop), EnR X.K H W A env σ → t env Qd →
  (∀ b H' W' env', EnR X.K H' W' A env' σ → Stp A H W H' W' → Qd b env' → Q b H') → tt σ H Q
/-- a list of values at hand -/
inductive RvRs (K : PySem.W.Frag) (H : Hp) (W : List Addr) (A : List (Option Addr)) : Hp → List Addr → List Rv → List V → Prop
  | nil {H0 : Hp} {W0 : List Addr} : RvRs K H W A H0 W0 [] []
  | cons {H0 : Hp} {W0 : List Addr} {rv : Rv} {v : V} {rvs : List Rv} {vs : List V} {H1 : Hp} {W1 : List Addr} : RvR K H0 W0 H W A rv v → (∀ p s, rv = .n s → v = .ref p → p ∈ W1) → Stp A H0 W0 H1 W1 → RvRs K H W A H1 W1 rvs vs → RvRs K H W A H0 W0 (rv :: rvs) (v :: vs)
def PDA (X : Cx) (es : List Expr) (t : TDA) : Prop := ∃ ta, PA X es ta ∧ ∀ (σ : St) (H : Hp) (W : List Addr) (A : List (Option Addr)) (env : En) (Q : List V → Hp → Prop) (Qd : List Rv → En → Prop), EnR X.K H W A env σ → t env Qd →
  (∀ vs H' W' env' rvs, EnR X.K H' W' A env' σ → Stp A H W H' W' → RvRs X.K H' W' A H W rvs vs → Qd rvs env' → Q vs H') → ta σ H Q
end DL

set_option Elab.async false
set_option linter.all false
set_option maxRecDepth 100000
set_option maxHeartbeats 4000000
set_option autoImplicit false
namespace L2
open PySem PySem.Spec
section
variable {K : PySem.W.Frag} {H : Hp}
theorem DpAll.len : ∀ {vs : List V} {xs : List PyData}, DpAll K H vs xs → vs.length = xs.length
  | _, _, .nil => rfl
  | _, _, .cons _ r => by simp [DpAll.len r]
theorem DpAll.get : ∀ {vs : List V} {xs : List PyData} {i : Nat} {x : PyData}, DpAll K H vs xs → xs[i]? = some x → ∃ v, vs[i]? = some v ∧ Dp K H v x
  | _, _, _, _, .nil, e => by simp at e
  | _, _, 0, _, .cons r _, e => by simp at e; subst e; exact ⟨_, rfl, r⟩
  | _, _, i + 1, _, .cons _ t, e => by
    obtain ⟨v, h1, h2⟩ := DpAll.get (i := i) t (by simpa using e)
    exact ⟨v, by simpa using h1, h2⟩
theorem DpAll.getV : ∀ {vs : List V} {xs : List PyData} {i : Nat} {v : V}, DpAll K H vs xs → vs[i]? = some v → ∃ x, xs[i]? = some x ∧ Dp K H v x
  | _, _, _, _, .nil, e => by simp at e
  | _, _, 0, _, .cons r _, e => by simp at e; subst e; exact ⟨_, rfl, r⟩
  | _, _, i + 1, _, .cons _ t, e => by
    obtain ⟨v, h1, h2⟩ := DpAll.getV (i := i) t (by simpa using e)
    exact ⟨v, by simpa using h1, h2⟩
theorem DpAll.app : ∀ {vs ws : List V} {xs ys : List PyData}, DpAll K H vs xs → DpAll K H ws ys → DpAll K H (vs ++ ws) (xs ++ ys)
  | _, _, _, _, .nil, s => s
  | _, _, _, _, .cons r t, s => .cons r (DpAll.app t s)
theorem DpAll.take : ∀ {vs : List V} {xs : List PyData} (n : Nat), DpAll K H vs xs → DpAll K H (vs.take n) (xs.take n)
  | _, _, 0, _ => .nil
  | _, _, _ + 1, .nil => .nil
  | _, _, n + 1, .cons r t => .cons r (DpAll.take n t)
theorem DpAll.drop : ∀ {vs : List V} {xs : List PyData} (n : Nat), DpAll K H vs xs → DpAll K H (vs.drop n) (xs.drop n)
  | _, _, 0, r => r
  | _, _, _ + 1, .nil => .nil
  | _, _, n + 1, .cons _ t => DpAll.drop n t
theorem DpAll.set {v : V} {x : PyData} (r : Dp K H v x) : ∀ {vs : List V} {xs : List PyData} (i : Nat), DpAll K H vs xs → DpAll K H (vs.set i v) (xs.set i x)
  | _, _, _, .nil => .nil
  | _, _, 0, .cons _ t => .cons r t
  | _, _, i + 1, .cons q t => .cons q (DpAll.set r i t)
theorem DpAll.erase : ∀ {vs : List V} {xs : List PyData} (i : Nat), DpAll K H vs xs → DpAll K H (vs.eraseIdx i) (xs.eraseIdx i)
  | _, _, _, .nil => .nil
  | _, _, 0, .cons _ t => t
  | _, _, i + 1, .cons q t => .cons q (DpAll.erase i t)
theorem DpAll.ints : ∀ {vs : List V} {ns : List Int}, DpAll K H vs (ns.map PyData.int) → vs = ns.map V.int
  | _, [], h => by cases h; rfl
  | _, n :: ns, h => by
    rw [List.map_cons] at h
    cases h with
    | cons a b => cases a; rw [DpAll.ints b]; rfl
theorem DpAll.of_ints : ∀ (ns : List Int), DpAll K H (ns.map V.int) (ns.map PyData.int)
  | [] => .nil
  | n :: ns => .cons (.int n) (DpAll.of_ints ns)
theorem DpAll.strs : ∀ {vs : List V} {ns : List Str}, DpAll K H vs (ns.map PyData.str) → vs = ns.map V.str
  | _, [], h => by cases h; rfl
  | _, n :: ns, h => by
    rw [List.map_cons] at h
    cases h with
    | cons a b => cases a; rw [DpAll.strs b]; rfl
theorem DpAll.of_strs : ∀ (ns : List Str), DpAll K H (ns.map V.str) (ns.map PyData.str)
  | [] => .nil
  | n :: ns => .cons (.str n) (DpAll.of_strs ns)
theorem DpAll.bools : ∀ {vs : List V} {ns : List Bool}, DpAll K H vs (ns.map PyData.bool) → vs = ns.map V.bl
  | _, [], h => by cases h; rfl
  | _, n :: ns, h => by
    rw [List.map_cons] at h
    cases h with
    | cons a b => cases a; rw [DpAll.bools b]; rfl

end
end L2
namespace DL
open PySem PySem.Spec L2

/-- what a value at hand is, when it is read -/
def res (env : En) : Rv → Option PyData
  | .d x => some x
  | .o i => match env[i]? with
    | some (some (.l xs)) => some (.list xs)
    | _ => none
  | .n (.l xs) => some (.list xs)
  | .n _ => none
/-- data, open at the top -/
def Dq (K : PySem.W.Frag) (H : Hp) (W : List Addr) (v : V) : PyData → Prop
  | .list xs => ∃ a vs, v = .ref a ∧ SqL K H a vs ∧ DpAll K (HW H W) vs xs
  | x => Dp K (HW H W) v x
section
variable {K : PySem.W.Frag} {H H' H0 H1 H2 : Hp} {W W' W0 W1 W2 : List Addr} {A : List (Option Addr)} {a b p : Addr} {o : HO} {v : V} {x : PyData} {vs : List V} {xs : List PyData} {env : En} {σ : L2.St}
theorem Dq.of_dp (h : Dp K (HW H W) v x) : Dq K H W v x := by
  cases x with
  | list xs => cases h with | lst s r => exact ⟨_, _, rfl, hw_same.seq s, r⟩
  | _ => exact h
theorem Dq.dp (h : Dq K H W v x) : Dp K H v x := by
  cases x with
  | list xs => obtain ⟨a, vs, rfl, s, r⟩ := h; exact .lst s (dpa_mono hw_same _ r)
  | tuple xs => exact dp_mono hw_same _ h
  | dict _ => cases h
  | none => exact dp_mono hw_same _ h
  | bool _ => exact dp_mono hw_same _ h
  | int _ => exact dp_mono hw_same _ h
  | str _ => exact dp_mono hw_same _ h
theorem res_o {i : Nat} (e : res env (.o i) = some x) : ∃ xs, env[i]? = some (some (.l xs)) ∧ x = .list xs := by
  unfold res at e
  dsimp only at e
  split at e
  · rename_i xs hx
    cases e
    exact ⟨xs, hx, rfl⟩
  · cases e
theorem Dq.of_rv {rv : Rv} (E : EnR K H W A env σ) (r : RvR K H0 W0 H W A rv v) (e : res env rv = some x) : Dq K H W v x := by
  cases rv with
  | d y => cases e; exact .of_dp r
  | o i =>
    obtain ⟨a, ha, rfl⟩ := r
    obtain ⟨xs, hx, rfl⟩ := res_o e
    obtain ⟨a', ha', _, vs, h1, h2⟩ := E.own i _ hx rfl
    rw [ha] at ha'; cases ha'
    exact ⟨a, vs, rfl, SqL.of h1, h2⟩
  | n s =>
    cases s with
    | l xs =>
      cases e
      obtain ⟨p, rfl, _, _, _, vs, h1, h2⟩ := r
      exact ⟨p, vs, rfl, SqL.of h1, h2⟩
    | _ => cases e
theorem Dq.int {i : Int} (h : Dq K H W v (.int i)) : v = .int i := by cases h; rfl
theorem Dq.str {i : Str} (h : Dq K H W v (.str i)) : v = .str i := by cases h; rfl
theorem Dq.bl {i : Bool} (h : Dq K H W v (.bool i)) : v = .bl i := by cases h; rfl
theorem Dq.non (h : Dq K H W v .none) : v = .non := by cases h; rfl
/-! ### what only grows -/
structure Grow (H : Hp) (W : List Addr) (H' : Hp) (W' : List Addr) : Prop where
  same : Same H H'
  up : ∀ p, p ∈ W → p ∈ W'
  fr : ∀ p, p ∈ W' → p ∈ W ∨ (H p = none ∧ H' p ≠ none)
theorem Grow.refl : Grow H W H W := ⟨Same.refl _, fun _ h => h, fun _ h => .inl h⟩
theorem Grow.stp (g : Grow H W H' W') : Stp A H W H' W' := ⟨fun b o h _ => g.same b o h, fun b h => by
  cases e : H b with
  | none => exact absurd e h
  | some o => rw [g.same b o e]; simp, g.up, g.fr⟩
theorem Grow.en (g : Grow H W H' W') (E : EnR K H W A env σ) : EnR K H' W' A env σ := E.keep g.stp fun a ha => by
  obtain ⟨i, hi⟩ := List.mem_iff_getElem?.mp ha
  obtain ⟨hw, s, hs, hd⟩ := E.back i a hi
  obtain ⟨a', q, _, ow⟩ := E.own i s hs hd
  rw [hi] at q; cases q
  obtain ⟨o, e⟩ := ow.ex
  rw [e]; exact g.same a o e
/-- a new object, seen by all -/
theorem grow_new (hp : H p = none) : Grow H W (upd H p o) W := ⟨fun b u e => by rw [upd_ne (ne_of_none e hp)]; exact e, fun _ h => h, fun _ h => .inl h⟩
/-- a new object, held alone -/
theorem grow_own (hp : H p = none) : Grow H W (upd H p o) (p :: W) := ⟨fun b u e => by rw [upd_ne (ne_of_none e hp)]; exact e, fun _ h => List.mem_cons_of_mem _ h, fun q h => by
  rcases List.mem_cons.mp h with rfl | h
  · exact .inr ⟨hp, by rw [upd_same]; simp⟩
  · exact .inl h⟩
/-- what an operation that makes things alone hands on -/
def Fin1 (K : PySem.W.Frag) (H : Hp) (W : List Addr) (Qd : Rv → Prop) (Q : VK) : Prop := ∀ v H' W' rv, Grow H W H' W' → RvR K H W H' W' [] rv v → Qd rv → Q v H'
theorem Fin1.d {Q : VK} {Qd : Rv → Prop} (f : Fin1 K H W Qd Q) (h : Dp K (HW H W) v x) (q : Qd (.d x)) : Q v H := f v H W (.d x) .refl h q
theorem Fin1.int {Q : VK} {Qd : Rv → Prop} (f : Fin1 K H W Qd Q) {i : Int} (q : Qd (.d (.int i))) : Q (.int i) H := f.d (.int i) q
theorem Fin1.bl {Q : VK} {Qd : Rv → Prop} (f : Fin1 K H W Qd Q) {i : Bool} (q : Qd (.d (.bool i))) : Q (.bl i) H := f.d (.bl i) q
theorem Fin1.str {Q : VK} {Qd : Rv → Prop} (f : Fin1 K H W Qd Q) {i : Str} (q : Qd (.d (.str i))) : Q (.str i) H := f.d (.str i) q
/-- a new tuple -/
theorem Fin1.tup {Q : VK} {Qd : Rv → Prop} (f : Fin1 K H W Qd Q) (hw : ∀ p, p ∈ W → H p ≠ none) (hp : H p = none) (h : DpAll K (HW H W) vs xs) (q : Qd (.d (.tuple xs))) : Q (.ref p) (upd H p (.tup vs)) := by
  have g : Grow H W (upd H p (.tup vs)) W := grow_new hp
  refine f _ _ W (.d (.tuple xs)) g ?_ q
  have nw : p ∉ W := fun z => hw p z hp
  exact .tup (.inl (.inl (hw_of nw upd_same))) (dpa_mono ((g.stp (A := [])).same fun _ z => absurd z (by simp)) _ h)
/-- a new list -/
theorem Fin1.lst {Q : VK} {Qd : Rv → Prop} (f : Fin1 K H W Qd Q) (hw : ∀ p, p ∈ W → H p ≠ none) (hp : H p = none) (h : DpAll K (HW H W) vs xs) (q : Qd (.n (.l xs))) : Q (.ref p) (upd H p (.lst vs)) := by
  have g : Grow H W (upd H p (.lst vs)) (p :: W) := grow_own hp
  refine f _ _ (p :: W) (.n (.l xs)) g ⟨p, rfl, hp, List.mem_cons_self, fun z => hw p z hp, vs, upd_same, ?_⟩ q
  exact dpa_mono ((g.stp (A := [])).same fun _ z => absurd z (by simp)) _ h
end

/-! ### operations on two values, by what they are -/
def OpD (X : Cx) (f : Value → Value → Sem Value) (r : PyData → PyData → (Rv → Prop) → Prop) : Prop :=
  ∃ rV, OpR X f rV ∧ ∀ (H : Hp) (W : List Addr) (x y : V) (a b : PyData) (Q : VK) (Qd : Rv → Prop), (∀ p, p ∈ W → H p ≠ none) → Dq X.K H W x a → Dq X.K H W y b → r a b Qd → Fin1 X.K H W Qd Q → rV x y H Q
theorem orR {X : Cx} {f : Value → Value → Sem Value} {r r' : R2} (h : OpR X f r) (h' : OpR X f r') : OpR X f (fun x y H Q => r x y H Q ∨ r' x y H Q) := by
  intro pins s σ H x y v u Q I rx ry q
  rcases q with q | q
  · exact h pins s σ H x y v u Q I rx ry q
  · exact h' pins s σ H x y v u Q I rx ry q
def tdBin (r : PyData → PyData → (Rv → Prop) → Prop) (ta tb : TD) : TD := fun env Q => ta env fun x env1 => tb env1 fun y env2 => match res env2 x, res env2 y with
  | some a, some b => r a b fun z => Q z env2
  | _, _ => False
section
variable {X : Cx} {a b c : Expr} {ta tb tc : TD} {pos : Pos}
theorem pd_two {rV : R2} {r : PyData → PyData → (Rv → Prop) → Prop} {e : Expr} {te1 te2 : TE} (hr : ∀ (H : Hp) (W : List Addr) (x y : V) (a b : PyData) (Q : VK) (Qd : Rv → Prop), (∀ p, p ∈ W → H p ≠ none) → Dq X.K H W x a → Dq X.K H W y b → r a b Qd → Fin1 X.K H W Qd Q → rV x y H Q)
    (h1 : ∀ (σ : L2.St) (H : Hp) (W : List Addr) (A : List (Option Addr)) (env : En) (Q : VK) (Qd : Rv → En → Prop), EnR X.K H W A env σ → ta env Qd → (∀ v H' W' env' rv, EnR X.K H' W' A env' σ → Stp A H W H' W' → RvR X.K H W H' W' A rv v → Qd rv env' → Q v H') → te1 σ H Q)
    (h2 : ∀ (σ : L2.St) (H : Hp) (W : List Addr) (A : List (Option Addr)) (env : En) (Q : VK) (Qd : Rv → En → Prop), EnR X.K H W A env σ → tb env Qd → (∀ v H' W' env' rv, EnR X.K H' W' A env' σ → Stp A H W H' W' → RvR X.K H W H' W' A rv v → Qd rv env' → Q v H') → te2 σ H Q)
    (he : PE X e (tOp rV te1 te2)) : PD X e (tdBin r ta tb) := by
  refine ⟨_, he, fun σ H W A env Q Qd E ht k => ?_⟩
  refine h1 σ H W A env _ _ E ht fun x H1 W1 env1 rx E1 S1 R1 q1 => ?_
  refine h2 σ H1 W1 A env1 _ _ E1 q1 fun y H2 W2 env2 ry E2 S2 R2 q2 => ?_
  have R1' := R1.step S2 E1.ain E.ain
  split at q2
  · rename_i p q ep eq
    refine hr H2 W2 x y p q Q _ E2.trk (.of_rv E2 R1' ep) (.of_rv E2 R2 eq) q2 fun v H3 W3 rv g R3 q3 => ?_
    refine k v H3 W3 env2 rv (g.en E2) ((S1.trans S2).trans g.stp) ?_ q3
    have R3' : RvR X.K H2 W2 H3 W3 A rv v := by
      cases rv with
      | d x => exact R3
      | o i => obtain ⟨a, ha, _⟩ := R3; cases i <;> simp at ha
      | n s => exact R3
    exact R3'.from (S1.trans S2)
  · exact q2.elim
theorem pd_op {op : Operator} {r : PyData → PyData → (Rv → Prop) → Prop} (ho : OpD X (binaryOp op) r) (ha : PD X a ta) (hb : PD X b tb) : PD X (.BinOp a op b pos) (tdBin r ta tb) := by
  obtain ⟨rV, h1, h2⟩ := ho
  obtain ⟨t1, p1, q1⟩ := ha
  obtain ⟨t2, p2, q2⟩ := hb
  exact pd_two h2 q1 q2 (pe_op h1 p1 p2)
theorem pd_cmp {op : CmpOp} {r : PyData → PyData → (Rv → Prop) → Prop} (ho : OpD X (compareOp op) r) (ha : PD X a ta) (hb : PD X b tb) (hm : behindInMarks op b = false := by first | exact nomark _ | rfl) : PD X (.Compare a [op] [b] pos) (tdBin r ta tb) := by
  obtain ⟨rV, h1, h2⟩ := ho
  obtain ⟨t1, p1, q1⟩ := ha
  obtain ⟨t2, p2, q2⟩ := hb
  exact pd_two h2 q1 q2 (pe_cmpR h1 p1 p2 hm)
end

/-! ### the operations -/
def rdAdd : PyData → PyData → (Rv → Prop) → Prop
  | .int i, .int j, Q => Q (.d (.int (i + j)))
  | .str a, .str b, Q => a.length + b.length ≤ sizeLine ∧ Q (.d (.str (a ++ b)))
  | .list a, .list b, Q => a.length + b.length ≤ sizeLine ∧ Q (.n (.l (a ++ b)))
  | .tuple a, .tuple b, Q => a.length + b.length ≤ sizeLine ∧ Q (.d (.tuple (a ++ b)))
  | _, _, _ => False
def rdSub : PyData → PyData → (Rv → Prop) → Prop
  | .int i, .int j, Q => Q (.d (.int (i - j)))
  | _, _, _ => False
def rdMul : PyData → PyData → (Rv → Prop) → Prop
  | .int i, .int j, Q => CMul i j ∧ Q (.d (.int (i * j)))
  | _, _, _ => False
def rdMulW : PyData → PyData → (Rv → Prop) → Prop
  | .int i, .int j, Q => CMulW i j ∧ Q (.d (.int (i * j)))
  | _, _, _ => False
def rdMod : PyData → PyData → (Rv → Prop) → Prop
  | .int i, .int j, Q => 0 < j ∧ Q (.d (.int (i % j)))
  | _, _, _ => False
def rdDiv : PyData → PyData → (Rv → Prop) → Prop
  | .int i, .int j, Q => CDivW i j ∧ Q (.d (.int (i / j)))
  | _, _, _ => False
def rdPow : PyData → PyData → (Rv → Prop) → Prop
  | .int i, .int j, Q => CPow i j ∧ Q (.d (.int (i ^ j.toNat)))
  | _, _, _ => False
def rdCmp (f : Int → Int → Bool) : PyData → PyData → (Rv → Prop) → Prop
  | .int i, .int j, Q => Q (.d (.bool (f i j)))
  | _, _, _ => False
def rdEq : PyData → PyData → (Rv → Prop) → Prop := fun a b Q => SeqAt.shaped a = true ∧ SeqAt.shaped b = true ∧ Q (.d (.bool (PyData.eqv a b)))
def rdNe : PyData → PyData → (Rv → Prop) → Prop := fun a b Q => SeqAt.shaped a = true ∧ SeqAt.shaped b = true ∧ Q (.d (.bool (!PyData.eqv a b)))
section
variable {X : Cx}
theorem od_ints {f : Value → Value → Sem Value} {C : Int → Int → Prop} {g : Int → Int → Int} {r : PyData → PyData → (Rv → Prop) → Prop} (h : OpR X f (rI C fun i j => .int (g i j)))
    (hr : ∀ a b Q, r a b Q → ∃ i j, a = .int i ∧ b = .int j ∧ C i j ∧ Q (.d (.int (g i j)))) : OpD X f r := by
  refine ⟨_, h, fun H W x y a b Q Qd hw ra rb q k => ?_⟩
  obtain ⟨i, j, rfl, rfl, hc, q⟩ := hr a b Qd q
  exact ⟨i, j, ra.int, rb.int, hc, k.int q⟩
theorem od_sub : OpD X (binaryOp .Sub) rdSub := by
  refine ⟨_, op_sub, fun H W x y a b Q Qd hw ra rb q k => ?_⟩
  unfold rdSub at q
  split at q
  · exact ⟨_, _, ra.int, rb.int, k.int q⟩
  · exact q.elim
theorem od_mul : OpD X (binaryOp .Mult) rdMul := od_ints op_mul fun a b Q q => by
  unfold rdMul at q
  split at q
  · exact ⟨_, _, rfl, rfl, q⟩
  · exact q.elim
theorem od_mulW : OpD X (binaryOp .Mult) rdMulW := od_ints op_mulW fun a b Q q => by
  unfold rdMulW at q
  split at q
  · exact ⟨_, _, rfl, rfl, q⟩
  · exact q.elim
theorem od_mod : OpD X (binaryOp .Mod) rdMod := od_ints op_mod fun a b Q q => by
  unfold rdMod at q
  split at q
  · exact ⟨_, _, rfl, rfl, q⟩
  · exact q.elim
theorem od_div : OpD X (binaryOp .FloorDiv) rdDiv := od_ints op_fdivW fun a b Q q => by
  unfold rdDiv at q
  split at q
  · exact ⟨_, _, rfl, rfl, q⟩
  · exact q.elim
theorem od_pow : OpD X (binaryOp .Pow) rdPow := od_ints op_pow fun a b Q q => by
  unfold rdPow at q
  split at q
  · exact ⟨_, _, rfl, rfl, q⟩
  · exact q.elim
theorem od_cmp {op : CmpOp} {f : Int → Int → Bool} (h : OpR X (compareOp op) (rI0 fun i j => .bl (f i j))) : OpD X (compareOp op) (rdCmp f) := by
  refine ⟨_, h, fun H W x y a b Q Qd hw ra rb q k => ?_⟩
  unfold rdCmp at q
  split at q
  · exact ⟨_, _, ra.int, rb.int, k.bl q⟩
  · exact q.elim
theorem od_lt : OpD X (compareOp .Lt) (rdCmp fun i j => decide (i < j)) := od_cmp op_lt
theorem od_le : OpD X (compareOp .LtE) (rdCmp fun i j => decide (i ≤ j)) := od_cmp op_le
theorem od_gt : OpD X (compareOp .Gt) (rdCmp fun i j => decide (j < i)) := od_cmp op_gt
theorem od_ge : OpD X (compareOp .GtE) (rdCmp fun i j => decide (j ≤ i)) := od_cmp op_ge
theorem od_eq (hu : X.A.units + 64 < cLine) : OpD X (compareOp .Eq) rdEq := by
  refine ⟨_, op_eqD hu, fun H W x y a b Q Qd hw ra rb q k => ?_⟩
  obtain ⟨h1, h2, q⟩ := q
  exact ⟨a, b, ra.dp, rb.dp, h1, h2, k.bl q⟩
theorem od_ne (hu : X.A.units + 64 < cLine) : OpD X (compareOp .NotEq) rdNe := by
  refine ⟨_, op_neD hu, fun H W x y a b Q Qd hw ra rb q k => ?_⟩
  obtain ⟨h1, h2, q⟩ := q
  exact ⟨a, b, ra.dp, rb.dp, h1, h2, k.bl q⟩
/-- two lists joined, each tracked or an object of the module -/
def rCatQ (K : PySem.W.Frag) : R2 := fun x y H Q => ∃ l b xs zs, x = .ref l ∧ y = .ref b ∧ SqL K H l xs ∧ SqL K H b zs ∧ xs.length + zs.length ≤ sizeLine ∧ ∀ p, H p = none → Q (.ref p) (upd H p (.lst (xs ++ zs)))
theorem op_catQ : OpR X (binaryOp .Add) (rCatQ X.K) := by
  intro pins s σ H x y v u Q I rx ry h
  obtain ⟨l, b, xs, zs, rfl, rfl, hH, hB, hz, q⟩ := h
  cases rx
  cases ry
  obtain ⟨its, r, pl, _⟩ := I.list hH
  obtain ⟨its2, r2, pl2, _⟩ := I.list hB
  have l1 := r.length
  have l2 := r2.length
  obtain ⟨⟨c1, dd1, da1, sl1⟩, ho, e1, n, hd⟩ := pl.isList
  obtain ⟨⟨c2, dd2, da2, sl2⟩, ho2, e2, n2, hd2⟩ := pl2.isList
  simp only at e1 hd e2 hd2
  subst e1 hd e2 hd2
  have e : its.toArray ++ its2.toArray = (its ++ its2).toArray := by simp
  have hs : its.toArray.size + its2.toArray.size ≤ sizeLine := by rw [List.size_toArray, List.size_toArray]; omega
  refine concat_meets ⟨_, ho, rfl⟩ ⟨_, ho2, rfl⟩ noFill_list_add seq_list_add PySem.F.slot_list_add PySem.F.entry_list_add (PySem.F.args_list_add_2 _ _) (PyProof.Rows.list_addW l b its.toArray its2.toArray n n2 dd1 dd2 sl1 sl2 hs) ⟨ho, ho2, ?_⟩
  rw [e]
  exact ⟨.ref _, _, I.lnew (t' := s.toks) (r.append r2) (by rw [List.length_append]; omega), rfl, q _ I.fresh⟩
theorem od_add : OpD X (binaryOp .Add) rdAdd := by
  refine ⟨_, orR (orR op_add op_add_str) (orR op_catQ op_catA), fun H W x y a b Q Qd hw ra rb q k => ?_⟩
  unfold rdAdd at q
  split at q
  · exact .inl (.inl ⟨_, _, ra.int, rb.int, k.int q⟩)
  · exact .inl (.inr ⟨_, _, ra.str, rb.str, q.1, k.str q.2⟩)
  · obtain ⟨p, vs, rfl, s1, d1⟩ := ra
    obtain ⟨p', vs', rfl, s2, d2⟩ := rb
    exact .inr (.inl ⟨p, p', vs, vs', rfl, rfl, s1, s2, by rw [d1.len, d2.len]; exact q.1, fun z hz => k.lst hw hz (d1.app d2) q.2⟩)
  · rename_i as bs
    cases ra with
    | tup s1 d1 =>
      cases rb with
      | tup s2 d2 =>
        refine .inr (.inr ⟨_, _, _, _, rfl, rfl, same_t hw_same s1, same_t hw_same s2, by rw [d1.len, d2.len]; exact q.1, fun e => ?_, fun e e2 => ?_, fun _ _ z hz => k.tup hw hz (d1.app d2) q.2⟩)
        · subst e
          cases d1
          exact k.d (.tup s2 d2) q.2
        · subst e2
          cases d2
          rw [List.append_nil] at q
          exact k.d (.tup s1 d1) q.2
  · exact q.elim
end
end DL

set_option Elab.async false
set_option linter.all false
set_option maxRecDepth 100000
set_option maxHeartbeats 4000000
set_option autoImplicit false
namespace DL
open PySem PySem.Spec L2

/-! ### names, constants -/
def tdV (i : Nat) : TD := fun env Q => match env[i]? with
  | some (some (.d x)) => Q (.d x) env
  | some (some _) => Q (.o i) env
  | _ => False
def tdC (x : PyData) : TD := fun env Q => Q (.d x) env
section
variable {X : Cx} {e a b c : Expr} {es : List Expr} {ta tb tc : TD} {pos : Pos}
theorem pd_var {i : Nat} {x : Str} (h : PE X (.Name x pos) (tVar i)) : PD X (.Name x pos) (tdV i) := by
  refine ⟨_, h, fun σ H W A env Q Qd E ht k => ?_⟩
  unfold tdV at ht
  split at ht
  · rename_i y hy
    obtain ⟨_, v, hv, hd⟩ := E.dat i y hy
    exact ⟨v, hv, k v H W env (.d y) E .refl hd ht⟩
  · rename_i s hn hs
    have hf : s.isD = false := by
      cases s with
      | d x => exact absurd hs (by intro z; exact hn x (by simpa using z))
      | _ => rfl
    obtain ⟨p, hp, hv, ow⟩ := E.own i s hs hf
    exact ⟨_, hv, k _ H W env (.o i) E .refl ⟨p, hp, rfl⟩ ht⟩
  · exact ht.elim
theorem pdv (i : Nat) {x : Str} (hN : X.N[i]? = some x := by rfl) (hv : Vis X.env.scope x := by first | exact Or.inl rfl | exact Or.inr (Or.inl rfl) | exact Or.inr (Or.inr rfl)) (hd : (x == ("__debug__" : Str)) = false := by decide)
    (hcd : (x == ("__classdict__" : Str)) = false := by decide) : PD X (.Name x pos) (tdV i) := pd_var (pe_var hN hv hd hcd)
theorem pd_c {v : V} {x : PyData} (h : PE X e (tC v)) (hx : ∀ K H, Dp K H v x) : PD X e (tdC x) := ⟨_, h, fun σ H W A env Q Qd E ht k => k v H W env (.d x) E .refl (hx _ _) ht⟩
theorem pd_int {i : Int} {j : Nat} : PD X (.Constant (.int i) j pos) (tdC (.int i)) := pd_c pe_int fun _ _ => .int _
theorem pd_str {i : Str} {j : Nat} : PD X (.Constant (.str i) j pos) (tdC (.str i)) := pd_c pe_str fun _ _ => .str _
theorem pd_bl {i : Bool} {j : Nat} : PD X (.Constant (.bool i) j pos) (tdC (.bool i)) := pd_c pe_bl fun _ _ => .bl _
theorem pd_non {j : Nat} : PD X (.Constant .none j pos) (tdC .none) := pd_c pe_non fun _ _ => .non
/-- a number or text of the module's top -/
theorem pd_gint {x : Str} {i : Int} {t : Tok} (hg : Gl X x) (hm : X.mg x = some (.int i t)) (hd : (x == ("__debug__" : Str)) = false := by decide) : PD X (.Name x pos) (tdC (.int i)) := pd_c (pe_glob (v := .int i) hg hm ⟨t, rfl⟩ hd) fun _ _ => .int _
theorem pd_gstr {x : Str} {i : Str} {t : Tok} (hg : Gl X x) (hm : X.mg x = some (.str i t)) (hd : (x == ("__debug__" : Str)) = false := by decide) : PD X (.Name x pos) (tdC (.str i)) := pd_c (pe_glob (v := .str i) hg hm ⟨t, rfl⟩ hd) fun _ _ => .str _

/-! ### lists of arguments -/
def tdNil : TDA := fun env Q => Q [] env
def tdCons (t : TD) (u : TDA) : TDA := fun env Q => t env fun x env1 => u env1 fun xs env2 => Q (x :: xs) env2
theorem pda_nil : PDA X [] tdNil := ⟨_, pa_nil, fun σ H W A env Q Qd E ht k => k [] H W env [] E .refl .nil ht⟩
theorem pda_cons {u : TDA} (ha : PD X e ta) (hr : PDA X es u) (hs : starEach (e :: es) X.env = (false, eval e X.env) :: starEach es X.env := by rfl) : PDA X (e :: es) (tdCons ta u) := by
  obtain ⟨t1, p1, q1⟩ := ha
  obtain ⟨t2, p2, q2⟩ := hr
  refine ⟨_, pa_cons p1 p2 hs, fun σ H W A env Q Qd E ht k => ?_⟩
  refine q1 σ H W A env _ _ E ht fun x H1 W1 env1 rx E1 S1 R1 h1 => ?_
  refine q2 σ H1 W1 A env1 _ _ E1 h1 fun xs H2 W2 env2 rxs E2 S2 R2 h2 => ?_
  refine k (x :: xs) H2 W2 env2 (rx :: rxs) E2 (S1.trans S2) (.cons (R1.step S2 E1.ain E.ain) (fun p s e1 e2 => ?_) S1 R2) h2
  subst e1
  obtain ⟨p', e3, _, m, _⟩ := R1
  rw [e2] at e3; cases e3
  exact m
end
/-- data for keeping: new lists are let go -/
def resAll : List Rv → Option (List PyData)
  | [] => some []
  | .d x :: r => (resAll r).map (x :: ·)
  | .n (.l xs) :: r => (resAll r).map (.list xs :: ·)
  | _ :: _ => none
/-- data for reading -/
def resR (env : En) : List Rv → Option (List PyData)
  | [] => some []
  | rv :: r => match res env rv with
    | some x => (resR env r).map (x :: ·)
    | none => none
section
variable {K : PySem.W.Frag} {H H' H0 H1 H2 : Hp} {W W' W0 W1 W2 : List Addr} {A : List (Option Addr)} {a b p : Addr} {o : HO} {v : V} {x : PyData} {vs : List V} {xs : List PyData} {env : En} {σ : L2.St}
def rel (W : List Addr) (p : Addr) : List Addr := W.filter fun q => decide (q ≠ p)
theorem mem_rel {q : Addr} : q ∈ rel W p ↔ q ∈ W ∧ q ≠ p := by unfold rel; simp
theorem rel_same : Same (HW H W) (HW H (rel W p)) := fun b o h => by
  obtain ⟨h1, h2⟩ := hw_some h
  exact hw_of (fun z => h1 (mem_rel.mp z).1) h2
theorem sub_same (h : ∀ q, q ∈ W' → q ∈ W) : Same (HW H W) (HW H W') := fun b o e => by
  obtain ⟨h1, h2⟩ := hw_some e
  exact hw_of (fun z => h1 (h b z)) h2
theorem EnR.sub (E : EnR K H W A env σ) (h : ∀ q, q ∈ W' → q ∈ W) (ha : AinW A W') : EnR K H W' A env σ := by
  refine ⟨E.len, E.lenA, fun i x h1 => ?_, fun i s h1 hs => ?_, fun i a h1 => ?_, E.inj, fun q hq => E.trk q (h q hq)⟩
  · obtain ⟨a, v, b, c⟩ := E.dat i x h1
    exact ⟨a, v, b, dp_mono (sub_same h) _ c⟩
  · obtain ⟨a, b, c, d⟩ := E.own i s h1 hs
    exact ⟨a, b, c, d.mono (sub_same h) rfl⟩
  · obtain ⟨a1, b⟩ := E.back i a h1
    exact ⟨ha a (List.mem_of_getElem? h1), b⟩
theorem Stp.sub (S : Stp A H0 W0 H W) (h : ∀ q, q ∈ W' → q ∈ W) (k : ∀ q, q ∈ W → q ∈ W0 → q ∈ W') : Stp A H0 W0 H W' :=
  ⟨S.ext, S.there, fun q hq => k q (S.up q hq) hq, fun q hq => S.fr q (h q hq)⟩
/-- what is kept as data is let go -/
theorem RvRs.keep : ∀ {rvs : List Rv} {vs : List V} {H0 : Hp} {W0 : List Addr} {xs : List PyData}, RvRs K H W A H0 W0 rvs vs → resAll rvs = some xs →
    ∃ W', (∀ q, q ∈ W' → q ∈ W) ∧ (∀ q, q ∈ W → q ∈ W0 → q ∈ W') ∧ DpAll K (HW H W') vs xs := by
  intro rvs
  induction rvs with
  | nil =>
    intro vs H0 W0 xs r e
    cases r
    cases e
    exact ⟨W, fun _ h => h, fun _ h _ => h, .nil⟩
  | cons rv rvs ih =>
    intro vs H0 W0 xs r e
    cases r with
    | @cons _ _ _ v _ vs H1 W1 r1 m S1 r2 =>
      cases rv with
      | d x =>
        obtain ⟨ys, e1, e2⟩ := Option.map_eq_some_iff.mp (show (resAll rvs).map (x :: ·) = some xs from e)
        subst e2
        obtain ⟨W', h1, h2, d⟩ := ih r2 e1
        exact ⟨W', h1, fun q hq z => h2 q hq (S1.up q z), .cons (dp_mono (sub_same h1) _ r1) d⟩
      | o i => cases e
      | n s =>
        cases s with
        | l zs =>
          obtain ⟨ys, e1, e2⟩ := Option.map_eq_some_iff.mp (show (resAll rvs).map (.list zs :: ·) = some xs from e)
          subst e2
          obtain ⟨W', h1, h2, d⟩ := ih r2 e1
          obtain ⟨p, rfl, _, _, np, ws, hp, dz⟩ := r1
          have hs : ∀ q, q ∈ rel W' p → q ∈ W := fun q hq => h1 q (mem_rel.mp hq).1
          refine ⟨rel W' p, hs, fun q hq z => mem_rel.mpr ⟨h2 q hq (S1.up q z), fun e => np (by rw [← e]; exact z)⟩, .cons (.lst (.inl (.inl (hw_of (fun z => (mem_rel.mp z).2 rfl) hp))) (dpa_mono (sub_same hs) _ dz)) (dpa_mono rel_same _ d)⟩
        | d _ => cases e
        | m _ => cases e
        | t _ => cases e
        | g _ _ => cases e
/-- data that is read -/
inductive DqAll (K : PySem.W.Frag) (H : Hp) (W : List Addr) : List V → List PyData → Prop
  | nil : DqAll K H W [] []
  | cons {v : V} {x : PyData} {vs : List V} {xs : List PyData} : Dq K H W v x → DqAll K H W vs xs → DqAll K H W (v :: vs) (x :: xs)
theorem RvRs.read : ∀ {rvs : List Rv} {vs : List V} {H0 : Hp} {W0 : List Addr} {xs : List PyData}, RvRs K H W A H0 W0 rvs vs → EnR K H W A env σ → resR env rvs = some xs → DqAll K H W vs xs := by
  intro rvs
  induction rvs with
  | nil =>
    intro vs H0 W0 xs r E e
    cases r
    cases e
    exact .nil
  | cons rv rvs ih =>
    intro vs H0 W0 xs r E e
    cases r with
    | @cons _ _ _ v _ vs H1 W1 r1 m S1 r2 =>
      unfold resR at e
      split at e
      · rename_i x ex
        obtain ⟨ys, e1, e2⟩ := Option.map_eq_some_iff.mp e
        subst e2
        exact .cons (.of_rv E r1 ex) (ih r2 E e1)
      · cases e
end
end DL

set_option Elab.async false
set_option linter.all false
set_option maxRecDepth 100000
set_option maxHeartbeats 4000000
set_option autoImplicit false
namespace DL
open PySem PySem.Spec L2

section
variable {K : PySem.W.Frag} {H H0 : Hp} {W W0 : List Addr} {A : List (Option Addr)} {env : En} {σ : L2.St} {Q : VK} {Qd : Rv → En → Prop}
theorem fin_up (E : EnR K H W A env σ) (S : Stp A H0 W0 H W) (k : ∀ v H' W' env' rv, EnR K H' W' A env' σ → Stp A H0 W0 H' W' → RvR K H0 W0 H' W' A rv v → Qd rv env' → Q v H') : Fin1 K H W (fun z => Qd z env) Q := by
  intro v H' W' rv g R q
  refine k v H' W' env rv (g.en E) (S.trans g.stp) ?_ q
  have R' : RvR K H W H' W' A rv v := by
    cases rv with
    | d x => exact R
    | o i => obtain ⟨a, ha, _⟩ := R; cases i <;> simp at ha
    | n s => exact R
  exact R'.from S
end

/-! ### displays -/
def tdTup (t : TDA) : TD := fun env Q => t env fun rvs env1 => match resAll rvs with
  | some xs => xs.length ≤ sizeLine ∧ Q (.d (.tuple xs)) env1
  | none => False
def tdLst (t : TDA) : TD := fun env Q => t env fun rvs env1 => match resAll rvs with
  | some xs => xs.length ≤ sizeLine ∧ Q (.n (.l xs)) env1
  | none => False
/-- a built-in called, by what its arguments are -/
def BD (X : Cx) (f : Value) (r : List PyData → (Rv → Prop) → Prop) : Prop :=
  ∃ rV, CallR X f rV ∧ ∀ (H : Hp) (W : List Addr) (vs : List V) (xs : List PyData) (Q : VK) (Qd : Rv → Prop), (∀ p, p ∈ W → H p ≠ none) → DqAll X.K H W vs xs → r xs Qd → Fin1 X.K H W Qd Q → rV vs H Q
def tdB (r : List PyData → (Rv → Prop) → Prop) (t : TDA) : TD := fun env Q => t env fun rvs env1 => match resR env1 rvs with
  | some xs => r xs fun z => Q z env1
  | none => False
section
variable {X : Cx} {e a b c : Expr} {es : List Expr} {ta tb tc : TD} {pos p : Pos} {t : TDA} {x : Str}
theorem pd_tup {k : Nat} (h : PDA X es t) : PD X (.Tuple es k pos) (tdTup t) := by
  obtain ⟨t1, p1, q1⟩ := h
  refine ⟨_, pe_tup p1, fun σ H W A env Q Qd E ht k => ?_⟩
  refine q1 σ H W A env _ _ E ht fun vs H1 W1 env1 rvs E1 S1 R1 h1 => ?_
  split at h1
  · rename_i xs ex
    obtain ⟨W', s1, s2, d⟩ := R1.keep ex
    have E' := E1.sub s1 fun a ha => s2 a (E1.ain a ha) (E.ain a ha)
    have S' := S1.sub s1 s2
    refine ⟨by rw [d.len]; exact h1.1, fun p hp => ?_⟩
    exact (fin_up E' S' k).tup E'.trk hp d h1.2
  · exact h1.elim
theorem pd_lst (h : PDA X es t) : PD X (.List es pos) (tdLst t) := by
  obtain ⟨t1, p1, q1⟩ := h
  refine ⟨_, pe_lst p1, fun σ H W A env Q Qd E ht k => ?_⟩
  refine q1 σ H W A env _ _ E ht fun vs H1 W1 env1 rvs E1 S1 R1 h1 => ?_
  split at h1
  · rename_i xs ex
    obtain ⟨W', s1, s2, d⟩ := R1.keep ex
    have E' := E1.sub s1 fun a ha => s2 a (E1.ain a ha) (E.ain a ha)
    have S' := S1.sub s1 s2
    refine ⟨by rw [d.len]; exact h1.1, fun p hp => ?_⟩
    exact (fin_up E' S' k).lst E'.trk hp d h1.2
  · exact h1.elim
theorem pd_bd {rV : List V → Hp → VK → Prop} {r : List PyData → (Rv → Prop) → Prop} {t1 : TA} (h2 : ∀ (H : Hp) (W : List Addr) (vs : List V) (xs : List PyData) (Q : VK) (Qd : Rv → Prop), (∀ p, p ∈ W → H p ≠ none) → DqAll X.K H W vs xs → r xs Qd → Fin1 X.K H W Qd Q → rV vs H Q)
    (q1 : ∀ (σ : L2.St) (H : Hp) (W : List Addr) (A : List (Option Addr)) (env : En) (Q : List V → Hp → Prop) (Qd : List Rv → En → Prop), EnR X.K H W A env σ → t env Qd → (∀ vs H' W' env' rvs, EnR X.K H' W' A env' σ → Stp A H W H' W' → RvRs X.K H' W' A H W rvs vs → Qd rvs env' → Q vs H') → t1 σ H Q)
    (he : PE X e (tCB rV t1)) : PD X e (tdB r t) := by
  refine ⟨_, he, fun σ H W A env Q Qd E ht k => ?_⟩
  refine q1 σ H W A env _ _ E ht fun vs H1 W1 env1 rvs E1 S1 R1 h1 => ?_
  split at h1
  · rename_i xs ex
    exact h2 H1 W1 vs xs Q _ E1.trk (R1.read E1 ex) h1 (fin_up E1 S1 k)
  · exact h1.elim
theorem pd_callB {id : String} {r : List PyData → (Rv → Prop) → Prop} (hb : BD X (.builtin id) r) (hg : Gl X x) (hm : X.mg x = none) (hv : bootBuiltins x = some (.builtin id)) (ha : PDA X (e :: es) t) (hn : x ≠ "__name__" := by decide) (hdb : (x == ("__debug__" : Str)) = false := by decide)
    (he : starEach (e :: es) X.env = (false, eval e X.env) :: starEach es X.env := by rfl) (hpl : (backTo pos (starEach es X.env)).any (·.1) = false := by rfl) : PD X (.Call (.Name x p) (e :: es) [] pos) (tdB r t) := by
  obtain ⟨rV, h1, h2⟩ := hb
  obtain ⟨t1, p1, q1⟩ := ha
  exact pd_bd h2 q1 (pe_callB h1 hg hm hv p1 hn hdb he hpl)
theorem pd_callTy {T : String} {r : List PyData → (Rv → Prop) → Prop} (hb : BD X (.type T) r) (hg : Gl X x) (hm : X.mg x = none) (hv : bootBuiltins x = some (.type T)) (ha : PDA X (e :: es) t) (hn : x ≠ "__name__" := by decide) (hdb : (x == ("__debug__" : Str)) = false := by decide)
    (he : starEach (e :: es) X.env = (false, eval e X.env) :: starEach es X.env := by rfl) (hpl : (backTo pos (starEach es X.env)).any (·.1) = false := by rfl) : PD X (.Call (.Name x p) (e :: es) [] pos) (tdB r t) := by
  obtain ⟨rV, h1, h2⟩ := hb
  obtain ⟨t1, p1, q1⟩ := ha
  exact pd_bd h2 q1 (pe_callTy h1 hg hm hv p1 hn hdb he hpl)
end

/-! ### the built-ins -/
theorem dqall1 {K : PySem.W.Frag} {H : Hp} {W : List Addr} {vs : List V} {x : PyData} (h : DqAll K H W vs [x]) : ∃ v, vs = [v] ∧ Dq K H W v x := by
  cases h with
  | cons a b => cases b; exact ⟨_, rfl, a⟩
theorem dqall2 {K : PySem.W.Frag} {H : Hp} {W : List Addr} {vs : List V} {x y : PyData} (h : DqAll K H W vs [x, y]) : ∃ v u, vs = [v, u] ∧ Dq K H W v x ∧ Dq K H W u y := by
  cases h with
  | cons a b => cases b with
    | cons b c => cases c; exact ⟨_, _, rfl, a, b⟩
def rdLen : List PyData → (Rv → Prop) → Prop
  | [.list xs], Q => Q (.d (.int xs.length))
  | [.tuple xs], Q => Q (.d (.int xs.length))
  | [.str x], Q => x.length ≤ sizeLine ∧ Q (.d (.int x.length))
  | _, _ => False
def rdInt : List PyData → (Rv → Prop) → Prop
  | [.int i], Q => Q (.d (.int i))
  | [.bool b], Q => Q (.d (.int (if b then 1 else 0)))
  | _, _ => False
def rdAbs : List PyData → (Rv → Prop) → Prop
  | [.int i], Q => Q (.d (.int (if i < 0 then -i else i)))
  | _, _ => False
def rdMax2 : List PyData → (Rv → Prop) → Prop
  | [.int i, .int j], Q => Q (.d (.int (if j > i then j else i)))
  | _, _ => False
def rdMin2 : List PyData → (Rv → Prop) → Prop
  | [.int i, .int j], Q => Q (.d (.int (if j < i then j else i)))
  | _, _ => False
def rdOrd : List PyData → (Rv → Prop) → Prop
  | [.str x], Q => x.length = 1 ∧ Q (.d (.int (x.cps.getD 0 0 : Nat)))
  | _, _ => False
def rdTuple : List PyData → (Rv → Prop) → Prop
  | [.list xs], Q => Q (.d (.tuple xs))
  | [.tuple xs], Q => Q (.d (.tuple xs))
  | _, _ => False
def rdList : List PyData → (Rv → Prop) → Prop
  | [.list xs], Q => Q (.n (.l xs))
  | [.tuple xs], Q => Q (.n (.l xs))
  | _, _ => False
def intsOf : List PyData → Option (List Int)
  | [] => some []
  | .int i :: r => (intsOf r).map (i :: ·)
  | _ :: _ => none
theorem intsOf_map : ∀ ns : List Int, intsOf (ns.map PyData.int) = some ns
  | [] => rfl
  | n :: ns => by rw [List.map_cons]; unfold intsOf; rw [intsOf_map ns]; rfl
theorem intsOf_eq : ∀ {xs : List PyData} {ns : List Int}, intsOf xs = some ns → xs = ns.map PyData.int
  | [], _, h => by cases h; rfl
  | .int i :: r, ns, h => by
    obtain ⟨ms, e1, e2⟩ := Option.map_eq_some_iff.mp (show (intsOf r).map (i :: ·) = some ns from h)
    subst e2
    rw [intsOf_eq e1]; rfl
  | .none :: _, _, h => by cases h
  | .bool _ :: _, _, h => by cases h
  | .str _ :: _, _, h => by cases h
  | .list _ :: _, _, h => by cases h
  | .tuple _ :: _, _, h => by cases h
  | .dict _ :: _, _, h => by cases h
/-- sorted of a list of ints -/
def rdSorted : List PyData → (Rv → Prop) → Prop
  | [.list xs], Q => ∃ ns : List Int, xs = ns.map PyData.int ∧ ∀ ms : List Int, ms.Perm ns → ms.Pairwise (· ≤ ·) → Q (.n (.l (ms.map PyData.int)))
  | _, _ => False
def rdSum : List PyData → (Rv → Prop) → Prop
  | [.list xs], Q => ∃ ns : List Int, xs = ns.map PyData.int ∧ Q (.d (.int ns.sum))
  | _, _ => False
def rdAll : List PyData → (Rv → Prop) → Prop
  | [.list xs], Q => ∃ ns : List Bool, xs = ns.map PyData.bool ∧ Q (.d (.bool (ns.all id)))
  | _, _ => False
def rdAny : List PyData → (Rv → Prop) → Prop
  | [.list xs], Q => ∃ ns : List Bool, xs = ns.map PyData.bool ∧ Q (.d (.bool (ns.any id)))
  | _, _ => False
section
variable {X : Cx}
theorem bd_len : BD X (.builtin "len") rdLen := by
  refine ⟨_, call_len_seq.or call_len_str, fun H W vs xs Q Qd hw r q k => ?_⟩
  unfold rdLen at q
  split at q
  · obtain ⟨v, rfl, p, ws, rfl, s, d⟩ := dqall1 r
    exact .inl ⟨p, ws, rfl, .inl s, by rw [d.len]; exact k.int q⟩
  · obtain ⟨v, rfl, d⟩ := dqall1 r
    cases d with
    | tup s d => exact .inl ⟨_, _, rfl, .inr (same_t hw_same s), by rw [d.len]; exact k.int q⟩
  · obtain ⟨v, rfl, d⟩ := dqall1 r
    exact .inr ⟨_, by rw [d.str], q.1, k.int q.2⟩
  · exact q.elim
theorem bd_int : BD X (.type "int") rdInt := by
  refine ⟨_, call_int1, fun H W vs xs Q Qd hw r q k => ?_⟩
  unfold rdInt at q
  split at q
  · obtain ⟨v, rfl, d⟩ := dqall1 r
    exact .inl ⟨_, by rw [d.int], k.int q⟩
  · obtain ⟨v, rfl, d⟩ := dqall1 r
    exact .inr ⟨_, by rw [d.bl], k.int q⟩
  · exact q.elim
theorem bd_abs : BD X (.builtin "abs") rdAbs := by
  refine ⟨_, call_abs, fun H W vs xs Q Qd hw r q k => ?_⟩
  unfold rdAbs at q
  split at q
  · obtain ⟨v, rfl, d⟩ := dqall1 r
    exact ⟨_, by rw [d.int], k.int q⟩
  · exact q.elim
theorem bd_max2 (hc : X.calm = true) : BD X (.builtin "max") rdMax2 := by
  refine ⟨_, call_max2 hc, fun H W vs xs Q Qd hw r q k => ?_⟩
  unfold rdMax2 at q
  split at q
  · obtain ⟨v, u, rfl, d, d2⟩ := dqall2 r
    exact ⟨_, _, by rw [d.int, d2.int], k.int q⟩
  · exact q.elim
theorem bd_min2 (hc : X.calm = true) : BD X (.builtin "min") rdMin2 := by
  refine ⟨_, call_min2 hc, fun H W vs xs Q Qd hw r q k => ?_⟩
  unfold rdMin2 at q
  split at q
  · obtain ⟨v, u, rfl, d, d2⟩ := dqall2 r
    exact ⟨_, _, by rw [d.int, d2.int], k.int q⟩
  · exact q.elim
theorem bd_ord : BD X (.builtin "ord") rdOrd := by
  refine ⟨_, call_ord, fun H W vs xs Q Qd hw r q k => ?_⟩
  unfold rdOrd at q
  split at q
  · obtain ⟨v, rfl, d⟩ := dqall1 r
    exact ⟨_, by rw [d.str], q.1, k.int q.2⟩
  · exact q.elim
theorem bd_tuple : BD X (.type "tuple") rdTuple := by
  refine ⟨_, call_tuple_of, fun H W vs xs Q Qd hw r q k => ?_⟩
  unfold rdTuple at q
  split at q
  · obtain ⟨v, rfl, p, ws, rfl, s, d⟩ := dqall1 r
    exact ⟨p, ws, rfl, .inl ⟨s, fun l hl => k.tup hw hl d q⟩⟩
  · obtain ⟨v, rfl, d⟩ := dqall1 r
    cases d with
    | tup s d => exact ⟨_, _, rfl, .inr ⟨same_t hw_same s, k.d (.tup s d) q⟩⟩
  · exact q.elim
theorem bd_list : BD X (.type "list") rdList := by
  refine ⟨_, call_list_of, fun H W vs xs Q Qd hw r q k => ?_⟩
  unfold rdList at q
  split at q
  · obtain ⟨v, rfl, p, ws, rfl, s, d⟩ := dqall1 r
    exact ⟨p, ws, rfl, .inl s, fun l hl => k.lst hw hl d q⟩
  · obtain ⟨v, rfl, d⟩ := dqall1 r
    cases d with
    | tup s d => exact ⟨_, _, rfl, .inr (same_t hw_same s), fun l hl => k.lst hw hl d q⟩
  · exact q.elim
theorem bd_sorted : BD X (.builtin "sorted") rdSorted := by
  refine ⟨_, cr_sortedI, fun H W vs xs Q Qd hw r q k => ?_⟩
  unfold rdSorted at q
  split at q
  · obtain ⟨v, rfl, p, ws, rfl, s, d⟩ := dqall1 r
    obtain ⟨ns, rfl, q⟩ := q
    rw [d.ints] at s
    exact ⟨p, ns, rfl, s, fun ms l h1 h2 hl => k.lst hw hl (.of_ints ms) (q ms h1 h2)⟩
  · exact q.elim
theorem bd_sum (hc : X.calm = true) : BD X (.builtin "sum") rdSum := by
  refine ⟨_, cr_sum hc, fun H W vs xs Q Qd hw r q k => ?_⟩
  unfold rdSum at q
  split at q
  · obtain ⟨v, rfl, p, ws, rfl, s, d⟩ := dqall1 r
    obtain ⟨ns, rfl, q⟩ := q
    rw [d.ints] at s
    exact ⟨p, ns, rfl, s, k.int q⟩
  · exact q.elim
theorem bd_all (hc : X.calm = true) : BD X (.builtin "all") rdAll := by
  refine ⟨_, cr_all hc, fun H W vs xs Q Qd hw r q k => ?_⟩
  unfold rdAll at q
  split at q
  · obtain ⟨v, rfl, p, ws, rfl, s, d⟩ := dqall1 r
    obtain ⟨ns, rfl, q⟩ := q
    rw [d.bools] at s
    exact ⟨p, ns, rfl, s, k.bl q⟩
  · exact q.elim
theorem bd_any (hc : X.calm = true) : BD X (.builtin "any") rdAny := by
  refine ⟨_, cr_any hc, fun H W vs xs Q Qd hw r q k => ?_⟩
  unfold rdAny at q
  split at q
  · obtain ⟨v, rfl, p, ws, rfl, s, d⟩ := dqall1 r
    obtain ⟨ns, rfl, q⟩ := q
    rw [d.bools] at s
    exact ⟨p, ns, rfl, s, k.bl q⟩
  · exact q.elim
end

/-! ### subscripts and slices -/
def rdIx : PyData → PyData → (Rv → Prop) → Prop
  | .list xs, .int i, Q => match atI xs i with
    | some x => Q (.d x)
    | none => False
  | .tuple xs, .int i, Q => match atI xs i with
    | some x => Q (.d x)
    | none => False
  | .str z, .int i, Q => z.length ≤ sizeLine ∧ match atI z.cps.toList i with
    | some c => Q (.d (.str ⟨#[c]⟩))
    | none => False
  | _, _, _ => False
def cutL (xs : List PyData) (lo hi : Option Int) : List PyData := (xs.drop (HT.sIx xs.length 0 lo)).take (HT.sIx xs.length xs.length hi - HT.sIx xs.length 0 lo)
abbrev TDO := En → (Option Int → En → Prop) → Prop
def PDO (X : Cx) (e : Option Expr) (t : TDO) : Prop := ∃ to, PO X e to ∧ ∀ (σ : L2.St) (H : Hp) (W : List Addr) (A : List (Option Addr)) (env : En) (Q : Option Int → Hp → Prop) (Qd : Option Int → En → Prop), EnR X.K H W A env σ → t env Qd →
  (∀ b H' W' env', EnR X.K H' W' A env' σ → Stp A H W H' W' → Qd b env' → Q b H') → to σ H Q
def tdNoPart : TDO := fun env Q => Q none env
def tdPart (t : TD) : TDO := fun env Q => t env fun x env1 => match res env1 x with
  | some (.int i) => Q (some i) env1
  | _ => False
def rdSl (x : PyData) (lo hi : Option Int) (Q : Rv → Prop) : Prop := match x with
  | .list xs => Q (.n (.l (cutL xs lo hi)))
  | .tuple xs => Q (.d (.tuple (cutL xs lo hi)))
  | .str z => z.length ≤ sizeLine ∧ Q (.d (.str (cutS z lo hi)))
  | _ => False
def tdSl (t : TD) (tl th : TDO) : TD := fun env Q => t env fun x env1 => tl env1 fun lo env2 => th env2 fun hi env3 => match res env3 x with
  | some y => rdSl y lo hi fun z => Q z env3
  | none => False
section
variable {X : Cx} {e a b c : Expr} {ta tb tc : TD} {pos p2 : Pos} {tl th : TDO} {lo hi : Option Expr}
theorem atI_dp {K : PySem.W.Frag} {H : Hp} {vs : List V} {xs : List PyData} {i : Int} {x : PyData} (d : DpAll K H vs xs) (h : atI xs i = some x) : ∃ v, atI vs i = some v ∧ Dp K H v x := by
  unfold atI at h ⊢
  rw [d.len]
  obtain ⟨j, h1, h2⟩ := Option.bind_eq_some_iff.mp h
  obtain ⟨v, e1, e2⟩ := d.get h2
  exact ⟨v, by rw [h1]; exact e1, e2⟩
theorem pd_ix (ha : PD X a ta) (hb : PD X b tb) (hs : PlainIx b := by exact fun _ _ => rfl) : PD X (.Subscript a b pos) (tdBin rdIx ta tb) := by
  obtain ⟨t1, p1, q1⟩ := ha
  obtain ⟨t2, p2, q2⟩ := hb
  refine pd_two (fun H W x y a b Q Qd hw ra rb q k => ?_) q1 q2 (pe_ix ix_seq p1 p2 hs)
  unfold rdIx at q
  split at q
  · split at q
    · rename_i ex
      obtain ⟨p, ws, rfl, s, d⟩ := ra
      obtain ⟨v, h1, h2⟩ := atI_dp d ex
      exact .inl ⟨p, ws, _, v, rfl, rb.int, s, h1, k.d h2 q⟩
    · exact q.elim
  · split at q
    · rename_i ex
      cases ra with
      | tup s d =>
        obtain ⟨v, h1, h2⟩ := atI_dp d ex
        exact .inr (.inl ⟨_, _, _, v, rfl, rb.int, same_t hw_same s, h1, k.d h2 q⟩)
    · exact q.elim
  · obtain ⟨hz, q⟩ := q
    split at q
    · rename_i ex
      exact .inr (.inr ⟨_, _, _, ra.str, rb.int, hz, ex, k.str q⟩)
    · exact q.elim
  · exact q.elim
theorem pdo_none : PDO X none tdNoPart := ⟨_, po_none, fun σ H W A env Q Qd E ht k => k none H W env E .refl ht⟩
theorem pdo_some (h : PD X e ta) : PDO X (some e) (tdPart ta) := by
  obtain ⟨t1, p1, q1⟩ := h
  refine ⟨_, po_some p1, fun σ H W A env Q Qd E ht k => ?_⟩
  refine q1 σ H W A env _ _ E ht fun v H1 W1 env1 rv E1 S1 R1 h1 => ?_
  split at h1
  · rename_i i ei
    exact ⟨i, (Dq.of_rv E1 R1 ei).int, k _ H1 W1 env1 E1 S1 h1⟩
  · exact h1.elim
theorem cut_dp {K : PySem.W.Frag} {H : Hp} {vs : List V} {xs : List PyData} {lo hi : Option Int} (d : DpAll K H vs xs) : DpAll K H (cutV vs lo hi) (cutL xs lo hi) := by
  unfold cutV cutL
  rw [d.len]
  exact (d.drop _).take _
theorem cutL_whole {xs : List PyData} {lo hi : Option Int} (h1 : HT.sIx xs.length 0 lo = 0) (h2 : HT.sIx xs.length xs.length hi = xs.length) : cutL xs lo hi = xs := by
  unfold cutL
  rw [h1, h2]
  simp
theorem pd_slice (ha : PD X e ta) (hl : PDO X lo tl) (hh : PDO X hi th) : PD X (.Subscript e (.Slice lo hi none p2) pos) (tdSl ta tl th) := by
  obtain ⟨t1, p1, q1⟩ := ha
  obtain ⟨t2, p2, q2⟩ := hl
  obtain ⟨t3, p3, q3⟩ := hh
  refine ⟨_, pe_slice (sl_list.or (sl_tupA.or sl_str)) p1 p2 p3, fun σ H W A env Q Qd E ht k => ?_⟩
  refine q1 σ H W A env _ _ E ht fun x H1 W1 env1 rx E1 S1 R1 h1 => ?_
  refine q2 σ H1 W1 A env1 _ _ E1 h1 fun lo H2 W2 env2 E2 S2 h2 => ?_
  refine q3 σ H2 W2 A env2 _ _ E2 h2 fun hi H3 W3 env3 E3 S3 h3 => ?_
  have S := S2.trans S3
  have R := R1.step S E1.ain E.ain
  split at h3
  · rename_i y ey
    have D := Dq.of_rv E3 R ey
    have F := fin_up E3 (S1.trans S) k
    unfold rdSl at h3
    split at h3
    · obtain ⟨p, ws, rfl, s, d⟩ := D
      exact .inl ⟨p, ws, rfl, s, fun l hl => F.lst E3.trk hl (cut_dp d) h3⟩
    · cases D with
      | tup s d =>
        refine .inr (.inl ⟨_, _, rfl, same_t hw_same s, fun ⟨w1, w2⟩ => ?_, fun _ l hl => F.tup E3.trk hl (cut_dp d) h3⟩)
        rw [d.len] at w1 w2
        rw [cutL_whole w1 w2] at h3
        exact F.d (.tup s d) h3
    · exact .inr (.inr ⟨_, D.str, h3.1, F.str h3.2⟩)
    · exact h3.elim
  · exact h3.elim
end
end DL

set_option Elab.async false
set_option linter.all false
set_option maxRecDepth 100000
set_option maxHeartbeats 4000000
set_option autoImplicit false
namespace DL
open PySem PySem.Spec L2

def tdTest (t : TD) : TDT := fun env Q => t env fun x env1 => match res env1 x with
  | some (.bool b) => Q b env1
  | _ => False
def tdAnd (t u : TDT) : TDT := fun env Q => t env fun b env1 => if b = true then u env1 Q else Q false env1
def tdOr (t u : TDT) : TDT := fun env Q => t env fun b env1 => if b = true then Q true env1 else u env1 Q
def tdNot (t : TDT) : TDT := fun env Q => t env fun b env1 => Q (!b) env1
def tdIf (t : TDT) (u v : TD) : TD := fun env Q => t env fun b env1 => if b = true then u env1 Q else v env1 Q
def tdAndV (t u : TD) : TD := fun env Q => t env fun x env1 => match res env1 x with
  | some (.bool b) => if b = true then u env1 Q else Q (.d (.bool false)) env1
  | _ => False
def tdOrV (t u : TD) : TD := fun env Q => t env fun x env1 => match res env1 x with
  | some (.bool b) => if b = true then Q (.d (.bool true)) env1 else u env1 Q
  | _ => False
def tdNotV (t : TD) : TD := fun env Q => t env fun x env1 => match res env1 x with
  | some (.bool b) => Q (.d (.bool (!b))) env1
  | _ => False
def tdNeg (t : TD) : TD := fun env Q => t env fun x env1 => match res env1 x with
  | some (.int i) => Q (.d (.int (-i))) env1
  | _ => False
def tdIsN (t : TD) : TD := fun env Q => t env fun x env1 => match x with
  | .d .none => Q (.d (.bool true)) env1
  | _ => Q (.d (.bool false)) env1
def tdNotN (t : TD) : TD := fun env Q => t env fun x env1 => match x with
  | .d .none => Q (.d (.bool false)) env1
  | _ => Q (.d (.bool true)) env1
def PDW (X : Cx) (e : Expr) (t : TDT) : Prop := ∃ tt, PW X e tt ∧ ∀ (σ : L2.St) (H : Hp) (W : List Addr) (A : List (Option Addr)) (env : En) (Q : Bool → Hp → Prop) (Qd : Bool → En → Prop), EnR X.K H W A env σ → t env Qd →
  (∀ b H' W' env', EnR X.K H' W' A env' σ → Stp A H W H' W' → Qd b env' → Q b H') → tt σ H Q
section
variable {X : Cx} {e a b c : Expr} {rest : List Expr} {ta tb tc : TD} {t u : TDT} {pos p2 : Pos}
theorem test_go {te : TE} {t : TD} {σ : L2.St} {H : Hp} {W : List Addr} {A : List (Option Addr)} {env : En} {Q : Bool → Hp → Prop} {Qd : Bool → En → Prop}
    (q1 : ∀ (σ : L2.St) (H : Hp) (W : List Addr) (A : List (Option Addr)) (env : En) (Q : VK) (Qd : Rv → En → Prop), EnR X.K H W A env σ → t env Qd → (∀ v H' W' env' rv, EnR X.K H' W' A env' σ → Stp A H W H' W' → RvR X.K H W H' W' A rv v → Qd rv env' → Q v H') → te σ H Q)
    (E : EnR X.K H W A env σ) (ht : tdTest t env Qd) (k : ∀ b H' W' env', EnR X.K H' W' A env' σ → Stp A H W H' W' → Qd b env' → Q b H') : te σ H fun x H' => ∃ k, x = .bl k ∧ Q k H' := by
  refine q1 σ H W A env _ _ E ht fun x H1 W1 env1 rx E1 S1 R1 h1 => ?_
  split at h1
  · rename_i b eb
    exact ⟨b, (Dq.of_rv E1 R1 eb).bl, k b H1 W1 env1 E1 S1 h1⟩
  · exact h1.elim
theorem pdt_cmp {op : CmpOp} {r : PyData → PyData → (Rv → Prop) → Prop} (ho : OpD X (compareOp op) r) (ha : PD X a ta) (hb : PD X b tb) (hm : behindInMarks op b = false := by first | exact nomark _ | rfl) : PDT X (.Compare a [op] [b] pos) (tdTest (tdBin r ta tb)) := by
  obtain ⟨rV, h1, h2⟩ := ho
  obtain ⟨t1, p1, q1⟩ := ha
  obtain ⟨t2, p2, q2⟩ := hb
  refine ⟨_, pt_cmpR h1 p1 p2 hm, fun σ H W A env Q Qd E ht k => ?_⟩
  obtain ⟨te, _, qq⟩ := pd_two (e := .Compare a [op] [b] pos) h2 q1 q2 (pe_cmpR h1 p1 p2 hm)
  exact test_go (te := tOp rV t1 t2) (t := tdBin r ta tb) (fun σ H W A env Q Qd E ht k => by
    refine q1 σ H W A env _ _ E ht fun x H1 W1 env1 rx E1 S1 R1 q1 => ?_
    refine q2 σ H1 W1 A env1 _ _ E1 q1 fun y H2 W2 env2 ry E2 S2 R2 q2 => ?_
    have R1' := R1.step S2 E1.ain E.ain
    split at q2
    · rename_i p q ep eq
      exact h2 H2 W2 x y p q Q _ E2.trk (.of_rv E2 R1' ep) (.of_rv E2 R2 eq) q2 (fin_up E2 (S1.trans S2) k)
    · exact q2.elim) E ht k
theorem pdt_val (h : PD X e ta) (he : ∀ whole, isTrue e X.env whole = (do let v ← whole; standAt e.pos; holding [v] (truthy v)) := by intro _; rfl) : PDT X e (tdTest ta) := by
  obtain ⟨t1, p1, q1⟩ := h
  exact ⟨_, pt_val p1 he, fun σ H W A env Q Qd E ht k => test_go q1 E ht k⟩
theorem PDW.pt (h : PDW X e t) : PDT X e t := by
  obtain ⟨t1, p1, q1⟩ := h
  exact ⟨_, p1.pt, q1⟩
theorem pdw_and1 (h : PDT X a t) : PDW X (.BoolOp .And [a] pos) t := by
  obtain ⟨t1, p1, q1⟩ := h
  exact ⟨_, pw_and1 p1, q1⟩
theorem pdw_or1 (h : PDT X a t) : PDW X (.BoolOp .Or [a] pos) t := by
  obtain ⟨t1, p1, q1⟩ := h
  exact ⟨_, pw_or1 p1, q1⟩
theorem pdw_and (h : PDT X a t) (h' : PDW X (.BoolOp .And (b :: rest) pos) u) : PDW X (.BoolOp .And (a :: b :: rest) pos) (tdAnd t u) := by
  obtain ⟨t1, p1, q1⟩ := h
  obtain ⟨t2, p2, q2⟩ := h'
  refine ⟨_, pw_and p1 p2, fun σ H W A env Q Qd E ht k => ?_⟩
  refine q1 σ H W A env _ _ E ht fun c H1 W1 env1 E1 S1 h1 => ?_
  cases c with
  | true => exact q2 σ H1 W1 A env1 Q Qd E1 h1 fun b H2 W2 env2 E2 S2 h2 => k b H2 W2 env2 E2 (S1.trans S2) h2
  | false => exact k false H1 W1 env1 E1 S1 h1
theorem pdw_or (h : PDT X a t) (h' : PDW X (.BoolOp .Or (b :: rest) pos) u) : PDW X (.BoolOp .Or (a :: b :: rest) pos) (tdOr t u) := by
  obtain ⟨t1, p1, q1⟩ := h
  obtain ⟨t2, p2, q2⟩ := h'
  refine ⟨_, pw_or p1 p2, fun σ H W A env Q Qd E ht k => ?_⟩
  refine q1 σ H W A env _ _ E ht fun c H1 W1 env1 E1 S1 h1 => ?_
  cases c with
  | false => exact q2 σ H1 W1 A env1 Q Qd E1 h1 fun b H2 W2 env2 E2 S2 h2 => k b H2 W2 env2 E2 (S1.trans S2) h2
  | true => exact k true H1 W1 env1 E1 S1 h1
theorem pdt_not (h : PDT X a t) : PDT X (.UnaryOp .Not a pos) (tdNot t) := by
  obtain ⟨t1, p1, q1⟩ := h
  exact ⟨_, pt_not p1, fun σ H W A env Q Qd E ht k => q1 σ H W A env _ _ E ht fun b H1 W1 env1 E1 S1 h1 => k (!b) H1 W1 env1 E1 S1 h1⟩
theorem pd_ifExp (h : PDT X c t) (ha : PD X a ta) (hb : PD X b tb) : PD X (.IfExp c a b pos) (tdIf t ta tb) := by
  obtain ⟨t1, p1, q1⟩ := h
  obtain ⟨t2, p2, q2⟩ := ha
  obtain ⟨t3, p3, q3⟩ := hb
  refine ⟨_, pe_ifExp p1 p2 p3, fun σ H W A env Q Qd E ht k => ?_⟩
  refine q1 σ H W A env _ _ E ht fun c H1 W1 env1 E1 S1 h1 => ?_
  cases c with
  | true => exact q2 σ H1 W1 A env1 Q Qd E1 h1 fun v H2 W2 env2 rv E2 S2 R2 h2 => k v H2 W2 env2 rv E2 (S1.trans S2) (R2.from S1) h2
  | false => exact q3 σ H1 W1 A env1 Q Qd E1 h1 fun v H2 W2 env2 rv E2 S2 R2 h2 => k v H2 W2 env2 rv E2 (S1.trans S2) (R2.from S1) h2
theorem pd_one {op : BoolOp} (h : PD X a ta) : PD X (.BoolOp op [a] pos) ta := by
  obtain ⟨t1, p1, q1⟩ := h
  exact ⟨_, pe_one p1, q1⟩
theorem pd_and (h : PD X a ta) (h' : PD X (.BoolOp .And (b :: rest) pos) tb) : PD X (.BoolOp .And (a :: b :: rest) pos) (tdAndV ta tb) := by
  obtain ⟨t1, p1, q1⟩ := h
  obtain ⟨t2, p2, q2⟩ := h'
  refine ⟨_, pe_and p1 p2, fun σ H W A env Q Qd E ht k => ?_⟩
  refine q1 σ H W A env _ _ E ht fun x H1 W1 env1 rx E1 S1 R1 h1 => ?_
  split at h1
  · rename_i c ec
    refine ⟨c, (Dq.of_rv E1 R1 ec).bl, ?_⟩
    cases c with
    | true => exact q2 σ H1 W1 A env1 Q Qd E1 h1 fun v H2 W2 env2 rv E2 S2 R2 h2 => k v H2 W2 env2 rv E2 (S1.trans S2) (R2.from S1) h2
    | false => exact k (.bl false) H1 W1 env1 (.d (.bool false)) E1 S1 (.bl false) h1
  · exact h1.elim
theorem pd_or (h : PD X a ta) (h' : PD X (.BoolOp .Or (b :: rest) pos) tb) : PD X (.BoolOp .Or (a :: b :: rest) pos) (tdOrV ta tb) := by
  obtain ⟨t1, p1, q1⟩ := h
  obtain ⟨t2, p2, q2⟩ := h'
  refine ⟨_, pe_or p1 p2, fun σ H W A env Q Qd E ht k => ?_⟩
  refine q1 σ H W A env _ _ E ht fun x H1 W1 env1 rx E1 S1 R1 h1 => ?_
  split at h1
  · rename_i c ec
    refine ⟨c, (Dq.of_rv E1 R1 ec).bl, ?_⟩
    cases c with
    | false => exact q2 σ H1 W1 A env1 Q Qd E1 h1 fun v H2 W2 env2 rv E2 S2 R2 h2 => k v H2 W2 env2 rv E2 (S1.trans S2) (R2.from S1) h2
    | true => exact k (.bl true) H1 W1 env1 (.d (.bool true)) E1 S1 (.bl true) h1
  · exact h1.elim
theorem pd_not (h : PD X a ta) : PD X (.UnaryOp .Not a pos) (tdNotV ta) := by
  obtain ⟨t1, p1, q1⟩ := h
  refine ⟨_, pe_not p1, fun σ H W A env Q Qd E ht k => ?_⟩
  refine q1 σ H W A env _ _ E ht fun x H1 W1 env1 rx E1 S1 R1 h1 => ?_
  split at h1
  · rename_i c ec
    exact ⟨c, (Dq.of_rv E1 R1 ec).bl, k (.bl (!c)) H1 W1 env1 (.d (.bool (!c))) E1 S1 (.bl _) h1⟩
  · exact h1.elim
theorem pd_neg (h : PD X a ta) : PD X (.UnaryOp .USub a pos) (tdNeg ta) := by
  obtain ⟨t1, p1, q1⟩ := h
  refine ⟨_, pe_un un_neg p1, fun σ H W A env Q Qd E ht k => ?_⟩
  refine q1 σ H W A env _ _ E ht fun x H1 W1 env1 rx E1 S1 R1 h1 => ?_
  split at h1
  · rename_i c ec
    exact ⟨c, (Dq.of_rv E1 R1 ec).int, k (.int (-c)) H1 W1 env1 (.d (.int (-c))) E1 S1 (.int _) h1⟩
  · exact h1.elim
theorem rv_none {K : PySem.W.Frag} {H H0 : Hp} {W W0 : List Addr} {A : List (Option Addr)} {rv : Rv} {v : V} (R : RvR K H0 W0 H W A rv v) : (v = .non ↔ rv = .d .none) := by
  cases rv with
  | d x =>
    have R' : Dp K (HW H W) v x := R
    cases R' <;> simp
  | o i => obtain ⟨a, _, rfl⟩ := R; simp
  | n s => obtain ⟨p, rfl, _⟩ := R; simp
theorem isN_read {t1 : TE} (q1 : ∀ (σ : L2.St) (H : Hp) (W : List Addr) (A : List (Option Addr)) (env : En) (Q : VK) (Qd : Rv → En → Prop), EnR X.K H W A env σ → ta env Qd → (∀ v H' W' env' rv, EnR X.K H' W' A env' σ → Stp A H W H' W' → RvR X.K H W H' W' A rv v → Qd rv env' → Q v H') → t1 σ H Q)
    (σ : L2.St) (H : Hp) (W : List Addr) (A : List (Option Addr)) (env : En) (Q : VK) (Qd : Rv → En → Prop) (E : EnR X.K H W A env σ) (ht : tdIsN ta env Qd) (k : ∀ v H' W' env' rv, EnR X.K H' W' A env' σ → Stp A H W H' W' → RvR X.K H W H' W' A rv v → Qd rv env' → Q v H') :
    tOp (fun x y H Q => y = .non ∧ Q (.bl (decide (x = .non))) H) t1 (tC .non) σ H Q := by
  refine q1 σ H W A env _ _ E ht fun x H1 W1 env1 rx E1 S1 R1 h1 => ?_
  refine ⟨rfl, ?_⟩
  have n := rv_none R1
  split at h1
  · rw [decide_eq_true (n.mpr rfl)]
    exact k (.bl true) H1 W1 env1 (.d (.bool true)) E1 S1 (.bl _) h1
  · rename_i hn
    rw [decide_eq_false fun z => hn (n.mp z)]
    exact k (.bl false) H1 W1 env1 (.d (.bool false)) E1 S1 (.bl _) h1
theorem pd_isN (h : PD X a ta) {j : Nat} {pp : Pos} : PD X (.Compare a [.Is] [.Constant .none j pp] pos) (tdIsN ta) := by
  obtain ⟨t1, p1, q1⟩ := h
  exact ⟨_, pe_cmpR op_isN p1 pe_non (nomark _), isN_read q1⟩
theorem pdt_isN (h : PD X a ta) {j : Nat} {pp : Pos} : PDT X (.Compare a [.Is] [.Constant .none j pp] pos) (tdTest (tdIsN ta)) := by
  obtain ⟨t1, p1, q1⟩ := h
  exact ⟨_, pt_cmpR op_isN p1 pe_non (nomark _), fun σ H W A env Q Qd E ht k => test_go (isN_read q1) E ht k⟩
theorem notN_read {t1 : TE} (q1 : ∀ (σ : L2.St) (H : Hp) (W : List Addr) (A : List (Option Addr)) (env : En) (Q : VK) (Qd : Rv → En → Prop), EnR X.K H W A env σ → ta env Qd → (∀ v H' W' env' rv, EnR X.K H' W' A env' σ → Stp A H W H' W' → RvR X.K H W H' W' A rv v → Qd rv env' → Q v H') → t1 σ H Q)
    (σ : L2.St) (H : Hp) (W : List Addr) (A : List (Option Addr)) (env : En) (Q : VK) (Qd : Rv → En → Prop) (E : EnR X.K H W A env σ) (ht : tdNotN ta env Qd) (k : ∀ v H' W' env' rv, EnR X.K H' W' A env' σ → Stp A H W H' W' → RvR X.K H W H' W' A rv v → Qd rv env' → Q v H') :
    tOp (fun x y H Q => y = .non ∧ Q (.bl (!decide (x = .non))) H) t1 (tC .non) σ H Q := by
  refine q1 σ H W A env _ _ E ht fun x H1 W1 env1 rx E1 S1 R1 h1 => ?_
  refine ⟨rfl, ?_⟩
  have n := rv_none R1
  split at h1
  · rw [decide_eq_true (n.mpr rfl)]
    exact k (.bl false) H1 W1 env1 (.d (.bool false)) E1 S1 (.bl _) h1
  · rename_i hn
    rw [decide_eq_false fun z => hn (n.mp z)]
    exact k (.bl true) H1 W1 env1 (.d (.bool true)) E1 S1 (.bl _) h1
theorem pd_notN (h : PD X a ta) {j : Nat} {pp : Pos} : PD X (.Compare a [.IsNot] [.Constant .none j pp] pos) (tdNotN ta) := by
  obtain ⟨t1, p1, q1⟩ := h
  exact ⟨_, pe_cmpR op_notN p1 pe_non (nomark _), notN_read q1⟩
theorem pdt_notN (h : PD X a ta) {j : Nat} {pp : Pos} : PDT X (.Compare a [.IsNot] [.Constant .none j pp] pos) (tdTest (tdNotN ta)) := by
  obtain ⟨t1, p1, q1⟩ := h
  exact ⟨_, pt_cmpR op_notN p1 pe_non (nomark _), fun σ H W A env Q Qd E ht k => test_go (notN_read q1) E ht k⟩
end
end DL

set_option Elab.async false
set_option linter.all false
set_option maxRecDepth 100000
set_option maxHeartbeats 4000000
set_option autoImplicit false
namespace DL
open PySem PySem.Spec L2

/-- what a def's body leans on: the heap at its entry, what was held alone then, what of it the def holds; G: what has been seen and must stay -/
structure Bs where
  H0 : Hp
  W0 : List Addr
  A0 : List (Option Addr)
  G : Hp
  Mv : List Addr
  Mi : List Nat
  Fz : List (Addr × HO)
structure StR (K : PySem.W.Frag) (B : Bs) (H : Hp) (W : List Addr) (A : List (Option Addr)) (env : En) (σ : L2.St) : Prop where
  en : EnR K H W A env σ
  old : ∀ b o, B.H0 b = some o → some b ∉ B.A0 → b ∉ B.Mv → H b = some o
  there : ∀ b, B.H0 b ≠ none → H b ≠ none
  up : ∀ p, p ∈ B.W0 → p ∈ W
  fr : ∀ p, p ∈ W → p ∈ B.W0 ∨ B.H0 p = none
  own : ∀ a, some a ∈ A → (some a ∈ B.A0 ∨ a ∈ B.Mv) ∨ B.H0 a = none
  par : ∀ (i : Nat) (a : Addr), B.A0[i]? = some (some a) → A[i]? = some (some a)
  mvs : ∀ (i : Nat) (a : Addr), A[i]? = some (some a) → a ∈ B.Mv → i ∈ B.Mi
  fz : ∀ q, q ∈ B.Fz → H q.1 = some q.2 ∧ some q.1 ∉ A ∧ q.1 ∈ W
  seen : Same B.G (HW H W)
structure DE where
  nx : En → Prop
  rt : Sl → En → Prop
  bk : En → Prop := fun _ => False
  ct : En → Prop := fun _ => False
abbrev TDS := DE → En → Prop
/-- what is handed back -/
def RtR (K : PySem.W.Frag) (B : Bs) (H : Hp) (W : List Addr) : Sl → V → Prop
  | .d x, v => Dp K (HW H W) v x
  | s, v => ∃ p, v = .ref p ∧ B.H0 p = none ∧ p ∈ W ∧ OwR K H W p s
structure Out (K : PySem.W.Frag) (B : Bs) (D : Ends) (Dd : DE) : Prop where
  nx : ∀ σ H W A env, StR K B H W A env σ → Dd.nx env → D.nx σ H
  bk : ∀ σ H W A env, StR K B H W A env σ → Dd.bk env → D.bk σ H
  ct : ∀ σ H W A env, StR K B H W A env σ → Dd.ct env → D.ct σ H
  rt : ∀ σ H W A env v s, StR K B H W A env σ → RtR K B H W s v → Dd.rt s env → D.rt v H
/-- the parameters that are held alone are among N -/
structure OkN (B : Bs) (N : List Nat × List Nat) : Prop where
  n : ∀ (i : Nat) (a : Addr), B.A0[i]? = some (some a) → i ∈ N.1
  m : ∀ i, i ∈ B.Mi → i ∈ N.2
  w : ∀ p, p ∈ B.W0 → B.H0 p ≠ none
  v : ∀ p, p ∈ B.Mv → B.H0 p ≠ none
def PSD (X : Cx) (N : List Nat × List Nat) (st : Stmt) (t : TDS) : Prop := ∃ ts, PS X st ts ∧ ∀ (B : Bs) (D : Ends) (Dd : DE) (σ : L2.St) (H : Hp) (W : List Addr) (A : List (Option Addr)) (env : En), OkN B N → StR X.K B H W A env σ → t Dd env → Out X.K B D Dd → ts D σ H
def PSDs (X : Cx) (N : List Nat × List Nat) (sts : List Stmt) (t : TDS) : Prop := ∃ ts, PSs X sts ts ∧ ∀ (B : Bs) (D : Ends) (Dd : DE) (σ : L2.St) (H : Hp) (W : List Addr) (A : List (Option Addr)) (env : En), OkN B N → StR X.K B H W A env σ → t Dd env → Out X.K B D Dd → ts D σ H
section
variable {K : PySem.W.Frag} {H H' : Hp} {W W' : List Addr} {A A' : List (Option Addr)} {env env' : En} {σ σ' : L2.St} {B : Bs}
/-- behind an expression -/
theorem StR.step (R : StR K B H W A env σ) (S : Stp A H W H' W') (E : EnR K H' W' A env' σ) : StR K B H' W' A env' σ := by
  refine ⟨E, fun b o h n m => S.ext b o (R.old b o h n m) fun z => ?_, fun b h => S.there b (R.there b h), fun p h => S.up p (R.up p h), fun p h => ?_, R.own, R.par, R.mvs, fun q hq => ⟨S.ext q.1 q.2 (R.fz q hq).1 (R.fz q hq).2.1, (R.fz q hq).2.1, S.up _ (R.fz q hq).2.2⟩, fun b o h => S.same R.en.ain b o (R.seen b o h)⟩
  · rcases R.own b z with (q | q) | q
    · exact n q
    · exact m q
    · rw [q] at h; cases h
  · rcases S.fr p h with q | q
    · exact R.fr p q
    · refine .inr ?_
      cases e : B.H0 p with
      | none => rfl
      | some o => exact absurd q.1 (R.there p (by rw [e]; simp))
theorem set_get {α : Type} {l : List α} {i j : Nat} {x : α} : (l.set i x)[j]? = if i = j then (if j < l.length then some x else none) else l[j]? := by
  rw [List.getElem?_set]
  split
  · rename_i e; subst e; rfl
  · rfl
/-- a name holds data now -/
theorem EnR.setD (E : EnR K H W A env σ) {i : Nat} (hi : i < env.length) {v : V} {x : PyData} (h : Dp K (HW H W) v x) : EnR K H W (A.set i none) (env.set i (some (.d x))) (σ.set i (some v)) := by
  have lA := E.lenA
  have lS := E.len
  refine ⟨by simp [E.len], by simp [E.lenA], fun j y e => ?_, fun j s e hs => ?_, fun j a e => ?_, fun j k a e1 e2 => ?_, E.trk⟩
  · rw [set_get] at e
    rw [set_get, set_get]
    by_cases c : i = j
    · subst c
      rw [if_pos rfl, if_pos hi] at e
      cases e
      rw [if_pos rfl, if_pos (by omega), if_pos rfl, if_pos (by omega)]
      exact ⟨rfl, v, rfl, h⟩
    · rw [if_neg c] at e
      rw [if_neg c, if_neg c]
      exact E.dat j y e
  · rw [set_get] at e
    rw [set_get, set_get]
    by_cases c : i = j
    · subst c
      rw [if_pos rfl, if_pos hi] at e
      cases e
      cases hs
    · rw [if_neg c] at e
      rw [if_neg c, if_neg c]
      exact E.own j s e hs
  · rw [set_get] at e
    rw [set_get]
    by_cases c : i = j
    · subst c
      rw [if_pos rfl] at e
      split at e <;> cases e
    · rw [if_neg c] at e
      rw [if_neg c]
      exact E.back j a e
  · rw [set_get] at e1 e2
    by_cases c : i = j
    · rw [if_pos c] at e1
      split at e1 <;> cases e1
    · by_cases d : i = k
      · rw [if_pos d] at e2
        split at e2 <;> cases e2
      · rw [if_neg c] at e1
        rw [if_neg d] at e2
        exact E.inj j k a e1 e2
/-- a name holds an object alone now -/
theorem EnR.setO (E : EnR K H W A env σ) {i : Nat} (hi : i < env.length) {p : Addr} {s : Sl} (hp : p ∈ W) (ha : some p ∉ A) (h : OwR K H W p s) (hs : s.isD = false) : EnR K H W (A.set i (some p)) (env.set i (some s)) (σ.set i (some (.ref p))) := by
  have lA := E.lenA
  have lS := E.len
  refine ⟨by simp [E.len], by simp [E.lenA], fun j y e => ?_, fun j z e hz => ?_, fun j a e => ?_, fun j k a e1 e2 => ?_, E.trk⟩
  · rw [set_get] at e
    rw [set_get, set_get]
    by_cases c : i = j
    · subst c
      rw [if_pos rfl, if_pos hi] at e
      cases e
      cases hs
    · rw [if_neg c] at e
      rw [if_neg c, if_neg c]
      exact E.dat j y e
  · rw [set_get] at e
    rw [set_get, set_get]
    by_cases c : i = j
    · subst c
      rw [if_pos rfl, if_pos hi] at e
      cases e
      rw [if_pos rfl, if_pos (by omega), if_pos rfl, if_pos (by omega)]
      exact ⟨p, rfl, rfl, h⟩
    · rw [if_neg c] at e
      rw [if_neg c, if_neg c]
      exact E.own j z e hz
  · rw [set_get] at e
    rw [set_get]
    by_cases c : i = j
    · subst c
      rw [if_pos rfl, if_pos (by omega)] at e
      cases e
      rw [if_pos rfl, if_pos hi]
      exact ⟨hp, s, rfl, hs⟩
    · rw [if_neg c] at e
      rw [if_neg c]
      exact E.back j a e
  · rw [set_get] at e1 e2
    by_cases c : i = j
    · by_cases d : i = k
      · omega
      · rw [if_pos c, if_pos (by omega)] at e1
        cases e1
        rw [if_neg d] at e2
        exact absurd (List.mem_of_getElem? e2) ha
    · by_cases d : i = k
      · rw [if_pos d, if_pos (by omega)] at e2
        cases e2
        rw [if_neg c] at e1
        exact absurd (List.mem_of_getElem? e1) ha
      · rw [if_neg c] at e1
        rw [if_neg d] at e2
        exact E.inj j k a e1 e2
theorem mem_set {i : Nat} {x y : Option Addr} (h : x ∈ A.set i y) : x = y ∨ x ∈ A := by
  rcases List.mem_or_eq_of_mem_set h with q | q
  · exact .inr q
  · exact .inl q
theorem StR.setD (R : StR K B H W A env σ) {N : List Nat × List Nat} {i : Nat} (hB : OkN B N) (hN : i ∉ N.1) (hi : i < env.length) {v : V} {x : PyData} (h : Dp K (HW H W) v x) : StR K B H W (A.set i none) (env.set i (some (.d x))) (σ.set i (some v)) :=
  ⟨R.en.setD hi h, R.old, R.there, R.up, R.fr, fun a z => R.own a ((mem_set z).resolve_left (by simp)), fun j a e => by
    rw [set_get, if_neg (fun c => hN (by rw [c]; exact hB.n j a e))]
    exact R.par j a e, fun j a e m => by
    rw [set_get] at e
    split at e
    · split at e <;> cases e
    · exact R.mvs j a e m, fun q hq => ⟨(R.fz q hq).1, fun z => (R.fz q hq).2.1 ((mem_set z).resolve_left (Option.some_ne_none _)), (R.fz q hq).2.2⟩, R.seen⟩
theorem StR.setO (R : StR K B H W A env σ) {N : List Nat × List Nat} {i : Nat} (hB : OkN B N) (hN : i ∉ N.1) (hi : i < env.length) {p : Addr} {s : Sl} (hp : p ∈ W) (ha : some p ∉ A) (h0 : B.H0 p = none) (h : OwR K H W p s) (hs : s.isD = false) (hz : ∀ q, q ∈ B.Fz → q.1 ≠ p) :
    StR K B H W (A.set i (some p)) (env.set i (some s)) (σ.set i (some (.ref p))) :=
  ⟨R.en.setO hi hp ha h hs, R.old, R.there, R.up, R.fr, fun a z => by
    rcases mem_set z with q | q
    · cases q; exact .inr h0
    · exact R.own a q, fun j a e => by
    rw [set_get, if_neg (fun c => hN (by rw [c]; exact hB.n j a e))]
    exact R.par j a e, fun j a e m => by
    rw [set_get] at e
    split at e
    · split at e
      · cases e
        exact absurd h0 (hB.v p m)
      · cases e
    · exact R.mvs j a e m, fun q hq => ⟨(R.fz q hq).1, fun z => by
      rcases mem_set z with y | y
      · cases y; exact hz q hq rfl
      · exact (R.fz q hq).2.1 y, (R.fz q hq).2.2⟩, R.seen⟩
/-- less is held alone -/
theorem StR.sub (R : StR K B H W A env σ) (h : ∀ q, q ∈ W' → q ∈ W) (ha : AinW A W') (h0 : ∀ q, q ∈ B.W0 → q ∈ W') (hz : ∀ q, q ∈ B.Fz → q.1 ∈ W') : StR K B H W' A env σ :=
  ⟨R.en.sub h ha, R.old, R.there, h0, fun p z => R.fr p (h p z), R.own, R.par, R.mvs, fun q hq => ⟨(R.fz q hq).1, (R.fz q hq).2.1, hz q hq⟩, fun b o e => sub_same h b o (R.seen b o e)⟩
end

/-- as data, for keeping -/
def rvD : Rv → Option PyData
  | .d x => some x
  | .n (.l xs) => some (.list xs)
  | _ => none
theorem rvd_res {rv : Rv} {x : PyData} (h : rvD rv = some x) : resAll [rv] = some [x] := by
  cases rv with
  | d y => cases h; rfl
  | o i => cases h
  | n s => cases s with
    | l xs => cases h; rfl
    | _ => cases h
/-- a value at hand, let go as data -/
theorem RvR.keepD {K : PySem.W.Frag} {H H0 : Hp} {W W0 : List Addr} {A : List (Option Addr)} {rv : Rv} {v : V} {x : PyData} (R : RvR K H0 W0 H W A rv v) (S : Stp A H0 W0 H W) (h : rvD rv = some x) :
    ∃ W', (∀ q, q ∈ W' → q ∈ W) ∧ (∀ q, q ∈ W → q ∈ W0 → q ∈ W') ∧ Dp K (HW H W') v x := by
  obtain ⟨W', h1, h2, d⟩ := RvRs.keep (.cons (H1 := H) (W1 := W) R (fun p s e1 e2 => by
    subst e1
    obtain ⟨q, e3, _, m, _⟩ := R
    rw [e2] at e3; cases e3
    exact m) S .nil) (rvd_res h)
  cases d with
  | cons d _ => exact ⟨W', h1, h2, d⟩

/-! ### statements -/
def tdNext : TDS := fun D env => D.nx env
def tdSeq (t u : TDS) : TDS := fun D env => t { D with nx := u D } env
/-- name = e, what is new is held alone -/
def tdSet (i : Nat) (t : TD) : TDS := fun D env => t env fun rv env1 => match rv with
  | .d x => i < env1.length ∧ D.nx (env1.set i (some (.d x)))
  | .n s => (i < env1.length ∧ s.isD = false) ∧ D.nx (env1.set i (some s))
  | .o _ => False
/-- name = e, as data -/
def tdSetD (i : Nat) (t : TD) : TDS := fun D env => t env fun rv env1 => match rvD rv with
  | some x => i < env1.length ∧ D.nx (env1.set i (some (.d x)))
  | none => False
def tdDrop (t : TD) : TDS := fun D env => t env fun _ env1 => D.nx env1
def tdRet (N : List Nat × List Nat) (t : TD) : TDS := fun D env => t env fun rv env1 => match rv with
  | .d x => D.rt (.d x) env1
  | .n s => s.isD = false ∧ D.rt s env1
  | .o j => (j ∉ N.1 ∧ j ∉ N.2) ∧ match env1[j]? with
    | some (some s) => D.rt s env1
    | _ => False
def tdIfS (c : TDT) (t u : TDS) : TDS := fun D env => c env fun b env1 => if b = true then t D env1 else u D env1
/-- ahead of a statement: what a name holds alone is let go as data -/
def tdFrz (i : Nat) (t : TDS) : TDS := fun D env => match env[i]? with
  | some (some (.l xs)) => t D (env.set i (some (.d (.list xs))))
  | _ => False
section
variable {X : Cx} {N : List Nat × List Nat} {st : Stmt} {rest sts sts' : List Stmt} {t u : TDS} {e c : Expr} {te : TD} {tc : TDT} {pos pos' : Pos}
theorem psds_nil : PSDs X N [] tdNext := ⟨_, pss_nil, fun B D Dd σ H W A env hB R h O => O.nx σ H W A env R h⟩
theorem psds_cons (h1 : PSD X N st t) (h2 : PSDs X N rest u) : PSDs X N (st :: rest) (tdSeq t u) := by
  obtain ⟨t1, p1, q1⟩ := h1
  obtain ⟨t2, p2, q2⟩ := h2
  refine ⟨_, pss_cons p1 p2, fun B D Dd σ H W A env hB R h O => ?_⟩
  exact q1 B _ { Dd with nx := u Dd } σ H W A env hB R h ⟨fun σ H W A env R' h' => q2 B D Dd σ H W A env hB R' h' O, O.bk, O.ct, O.rt⟩
theorem psds_one (h1 : PSD X N st t) : PSDs X N [st] t := by
  obtain ⟨t1, p1, q1⟩ := h1
  exact ⟨_, pss_one p1, q1⟩
theorem psd_pass : PSD X N (.Pass pos) tdNext := ⟨_, ps_pass, fun B D Dd σ H W A env hB R h O => O.nx σ H W A env R h⟩
theorem psd_break : PSD X N (.Break pos) (fun D env => D.bk env) := ⟨_, ps_break, fun B D Dd σ H W A env hB R h O => O.bk σ H W A env R h⟩
theorem psd_continue : PSD X N (.Continue pos) (fun D env => D.ct env) := ⟨_, ps_continue, fun B D Dd σ H W A env hB R h O => O.ct σ H W A env R h⟩
theorem psd_never : PSD X N st (fun _ _ => False) := ⟨_, ps_never, fun B D Dd σ H W A env hB R h O => h⟩
theorem psd_if (h : PDT X c tc) (ha : PSDs X N sts t) (hb : PSDs X N sts' u) : PSD X N (.If c sts sts' pos) (tdIfS tc t u) := by
  obtain ⟨t1, p1, q1⟩ := h
  obtain ⟨t2, p2, q2⟩ := ha
  obtain ⟨t3, p3, q3⟩ := hb
  refine ⟨_, ps_if p1 p2 p3, fun B D Dd σ H W A env hB R h O => ?_⟩
  refine q1 σ H W A env _ _ R.en h fun b H1 W1 env1 E1 S1 h1 => ?_
  cases b with
  | true => exact q2 B D Dd σ H1 W1 A env1 hB (R.step S1 E1) h1 O
  | false => exact q3 B D Dd σ H1 W1 A env1 hB (R.step S1 E1) h1 O
theorem psd_expr (h : PD X e te) (hs : swapsWith e none pos.line X.env = pure false := by rfl) : PSD X N (.Expr e pos) (tdDrop te) := by
  obtain ⟨t1, p1, q1⟩ := h
  exact ⟨_, ps_expr p1 hs, fun B D Dd σ H W A env hB R h O => q1 σ H W A env _ _ R.en h fun v H1 W1 env1 rv E1 S1 R1 h1 => O.nx σ H1 W1 A env1 (R.step S1 E1) h1⟩
theorem back0 {K : PySem.W.Frag} {B : Bs} {H : Hp} {W : List Addr} {A : List (Option Addr)} {env : En} {σ : L2.St} (R : StR K B H W A env σ) {p : Addr} (h : H p = none) : B.H0 p = none := by
  cases e : B.H0 p with
  | none => rfl
  | some o => exact absurd h (R.there p (by rw [e]; simp))
theorem psd_ret (h : PD X e te) : PSD X N (.Return (some e) pos) (tdRet N te) := by
  obtain ⟨t1, p1, q1⟩ := h
  refine ⟨_, ps_ret p1, fun B D Dd σ H W A env hB R h O => ?_⟩
  refine q1 σ H W A env _ _ R.en h fun v H1 W1 env1 rv E1 S1 R1 h1 => ?_
  have R' := R.step S1 E1
  cases rv with
  | d x => exact O.rt σ H1 W1 A env1 v (.d x) R' R1 h1
  | n s =>
    obtain ⟨p, rfl, h2, h3, h4, h5⟩ := R1
    refine O.rt σ H1 W1 A env1 _ s R' ?_ h1.2
    cases s with
    | d x => cases h1.1
    | l _ => exact ⟨p, rfl, back0 R h2, h3, h5⟩
    | m _ => exact ⟨p, rfl, back0 R h2, h3, h5⟩
    | t _ => exact ⟨p, rfl, back0 R h2, h3, h5⟩
    | g _ _ => exact ⟨p, rfl, back0 R h2, h3, h5⟩
  | o j =>
    obtain ⟨a, ha, rfl⟩ := R1
    obtain ⟨hj, h1⟩ := h1
    split at h1
    · rename_i s hs
      obtain ⟨hw, s', hs', hd⟩ := E1.back j a ha
      rw [hs] at hs'; cases hs'
      obtain ⟨a', ha', _, ow⟩ := E1.own j s hs hd
      rw [ha] at ha'; cases ha'
      refine O.rt σ H1 W1 A env1 _ s R' ?_ h1
      have h0 : B.H0 a = none := by
        rcases R.own a (List.mem_of_getElem? ha) with (z | z) | z
        · obtain ⟨i, hi⟩ := List.mem_iff_getElem?.mp z
          have := E1.inj i j a (R.par i a hi) ha
          exact absurd (hB.n i a hi) (by rw [this]; exact hj.1)
        · exact absurd (hB.m j (R.mvs j a ha z)) hj.2
        · exact z
      cases s with
      | d x => cases hd
      | l _ => exact ⟨a, rfl, h0, hw, ow⟩
      | m _ => exact ⟨a, rfl, h0, hw, ow⟩
      | t _ => exact ⟨a, rfl, h0, hw, ow⟩
      | g _ _ => exact ⟨a, rfl, h0, hw, ow⟩
    · exact h1.elim
/-- name = e -/
theorem psd_set {i : Nat} {x : Str} (hN : X.N.Nodup) (hi : X.N[i]? = some x) (hx : Loc X.env.scope x) (he : PD X e te) (hM : i ∉ N.1 := by decide) (hs : swapsWith e (some (.Name x pos')) pos.line X.env = pure false := by rfl) (hf : X.fn x = true ∨ X.env.scope.names.lookup x = some .local := by first | exact .inl rfl | exact .inr rfl | assumption) :
    PSD X N (.Assign [.Name x pos'] e pos) (tdSet i te) := by
  obtain ⟨t1, p1, q1⟩ := he
  refine ⟨_, ps_set hN hi hx p1 hs hf, fun B D Dd σ H W A env hB R h O => ?_⟩
  refine q1 σ H W A env _ _ R.en h fun v H1 W1 env1 rv E1 S1 R1 h1 => ?_
  have R' := R.step S1 E1
  cases rv with
  | d x => exact O.nx _ H1 W1 _ _ (R'.setD hB hM h1.1 R1) h1.2
  | n s =>
    obtain ⟨p, rfl, h2, h3, h4, h5⟩ := R1
    exact O.nx _ H1 W1 _ _ (R'.setO hB hM h1.1.1 h3 (fun z => h4 (R.en.ain p z)) (back0 R h2) h5 h1.1.2 fun q hq e => by rw [← e, (R.fz q hq).1] at h2; cases h2) h1.2
  | o j => exact h1.elim
theorem set_d {te1 : TE} {B : Bs} {D : Ends} {Dd : DE} {σ : L2.St} {H : Hp} {W : List Addr} {A : List (Option Addr)} {env : En} {i : Nat}
    (q1 : ∀ (σ : L2.St) (H : Hp) (W : List Addr) (A : List (Option Addr)) (env : En) (Q : VK) (Qd : Rv → En → Prop), EnR X.K H W A env σ → te env Qd → (∀ v H' W' env' rv, EnR X.K H' W' A env' σ → Stp A H W H' W' → RvR X.K H W H' W' A rv v → Qd rv env' → Q v H') → te1 σ H Q)
    (hM : i ∉ N.1) (hB : OkN B N) (R : StR X.K B H W A env σ) (h : tdSetD i te Dd env) (O : Out X.K B D Dd) : tAsg te1 (gName i) D σ H := by
  refine q1 σ H W A env _ _ R.en h fun v H1 W1 env1 rv E1 S1 R1 h1 => ?_
  have R' := R.step S1 E1
  split at h1
  · rename_i x ex
    obtain ⟨W', s1, s2, d⟩ := R1.keepD S1 ex
    have R2 := R'.sub s1 (fun a ha => s2 a (E1.ain a ha) (R.en.ain a ha)) (fun q hq => s2 q (R'.up q hq) (R.up q hq)) fun q hq => s2 q.1 (R'.fz q hq).2.2 (R.fz q hq).2.2
    exact O.nx _ H1 W' _ _ (R2.setD hB hM h1.1 d) h1.2
  · exact h1.elim
theorem psd_setD {i : Nat} {x : Str} (hN : X.N.Nodup) (hi : X.N[i]? = some x) (hx : Loc X.env.scope x) (he : PD X e te) (hM : i ∉ N.1 := by decide) (hs : swapsWith e (some (.Name x pos')) pos.line X.env = pure false := by rfl) (hf : X.fn x = true ∨ X.env.scope.names.lookup x = some .local := by first | exact .inl rfl | exact .inr rfl | assumption) :
    PSD X N (.Assign [.Name x pos'] e pos) (tdSetD i te) := by
  obtain ⟨t1, p1, q1⟩ := he
  exact ⟨_, ps_set hN hi hx p1 hs hf, fun B D Dd σ H W A env hB R h O => set_d q1 hM hB R h O⟩
/-- what a name holds alone is let go -/
theorem StR.frz {K : PySem.W.Frag} {B : Bs} {H : Hp} {W : List Addr} {A : List (Option Addr)} {env : En} {σ : L2.St} {i : Nat} {xs : List PyData} (R : StR K B H W A env σ) (hB : OkN B N) (hM : i ∉ N.1) (hM2 : i ∉ N.2) (h : env[i]? = some (some (.l xs))) :
    ∃ W' A', StR K B H W' A' (env.set i (some (.d (.list xs)))) σ := by
  obtain ⟨a, ha, hv, vs, h1, h2⟩ := R.en.own i _ h rfl
  have hi : i < env.length := (List.getElem?_eq_some_iff.mp h).1
  have h0 : B.H0 a = none := by
    rcases R.own a (List.mem_of_getElem? ha) with (z | z) | z
    · obtain ⟨k, hk⟩ := List.mem_iff_getElem?.mp z
      have := R.en.inj k i a (R.par k a hk) ha
      exact absurd (hB.n k a hk) (by rw [this]; exact hM)
    · exact absurd (hB.m i (R.mvs i a ha z)) hM2
    · exact z
  refine ⟨rel W a, A.set i none, ?_⟩
  have hs : ∀ q, q ∈ rel W a → q ∈ W := fun q hq => (mem_rel.mp hq).1
  have d : Dp K (HW H (rel W a)) (.ref a) (.list xs) := .lst (.inl (.inl (hw_of (fun z => (mem_rel.mp z).2 rfl) h1))) (dpa_mono (sub_same hs) _ h2)
  have lA := R.en.lenA
  have eσ : σ.set i (some (.ref a)) = σ := by
    refine List.ext_getElem? fun j => ?_
    rw [set_get]
    by_cases c : i = j
    · subst c
      rw [if_pos rfl, if_pos (by rw [R.en.len]; exact hi), hv]
    · rw [if_neg c]
  -- first the name is told as any data, then less is held alone
  have E2 : EnR K H (rel W a) (A.set i none) (env.set i (some (.d (.list xs)))) σ := by
    refine ⟨by simp [R.en.len], by simp [R.en.lenA], fun j y e => ?_, fun j s e hz => ?_, fun j b e => ?_, fun j k b e1 e2 => ?_, fun p hp => R.en.trk p (hs p hp)⟩
    · rw [set_get] at e
      rw [set_get]
      by_cases c : i = j
      · subst c
        rw [if_pos rfl, if_pos hi] at e
        cases e
        rw [if_pos rfl, if_pos (by omega)]
        exact ⟨rfl, _, hv, d⟩
      · rw [if_neg c] at e
        rw [if_neg c]
        obtain ⟨x1, v, x2, x3⟩ := R.en.dat j y e
        exact ⟨x1, v, x2, dp_mono (sub_same hs) _ x3⟩
    · rw [set_get] at e
      rw [set_get]
      by_cases c : i = j
      · subst c
        rw [if_pos rfl, if_pos hi] at e
        cases e
        cases hz
      · rw [if_neg c] at e
        rw [if_neg c]
        obtain ⟨b, x1, x2, x3⟩ := R.en.own j s e hz
        exact ⟨b, x1, x2, x3.mono (sub_same hs) rfl⟩
    · rw [set_get] at e
      rw [set_get]
      by_cases c : i = j
      · rw [if_pos c] at e
        split at e <;> cases e
      · rw [if_neg c] at e
        rw [if_neg c]
        obtain ⟨x1, x2⟩ := R.en.back j b e
        exact ⟨mem_rel.mpr ⟨x1, fun z => c (R.en.inj i j b (by rw [z]; exact ha) e)⟩, x2⟩
    · rw [set_get] at e1 e2
      by_cases c : i = j
      · rw [if_pos c] at e1
        split at e1 <;> cases e1
      · by_cases d : i = k
        · rw [if_pos d] at e2
          split at e2 <;> cases e2
        · rw [if_neg c] at e1
          rw [if_neg d] at e2
          exact R.en.inj j k b e1 e2
  refine ⟨E2, R.old, R.there, fun p hp => mem_rel.mpr ⟨R.up p hp, fun z => hB.w p hp (by rw [z]; exact h0)⟩, fun p z => R.fr p (hs p z), fun b z => R.own b ((mem_set z).resolve_left (by simp)), fun j b e => ?_, fun j b e m => ?_, fun q hq => ⟨(R.fz q hq).1, fun z => (R.fz q hq).2.1 ((mem_set z).resolve_left (Option.some_ne_none _)), mem_rel.mpr ⟨(R.fz q hq).2.2, fun e => (R.fz q hq).2.1 (by rw [e]; exact List.mem_of_getElem? ha)⟩⟩, fun b o e => sub_same hs b o (R.seen b o e)⟩
  · rw [set_get, if_neg (fun c => hM (by rw [c]; exact hB.n j b e))]
    exact R.par j b e
  · rw [set_get] at e
    split at e
    · split at e <;> cases e
    · exact R.mvs j b e m
theorem psd_frz {i : Nat} (h : PSD X N st t) (hM : i ∉ N.1 := by decide) (hM2 : i ∉ N.2 := by decide) : PSD X N st (tdFrz i t) := by
  obtain ⟨t1, p1, q1⟩ := h
  refine ⟨_, p1, fun B D Dd σ H W A env hB R h O => ?_⟩
  unfold tdFrz at h
  split at h
  · rename_i xs hx
    obtain ⟨W', A', R'⟩ := R.frz hB hM hM2 hx
    exact q1 B D Dd σ H W' A' _ hB R' h O
  · exact h.elim
end
end DL

set_option Elab.async false
set_option linter.all false
set_option maxRecDepth 100000
set_option maxHeartbeats 4000000
set_option autoImplicit false
namespace DL
open PySem PySem.Spec L2

/-! ### what is walked -/
/-- the things that come, one a turn, while what G tells stands -/
def Walk (K : PySem.W.Frag) (J : It) (G : Hp) (xs : List PyData) : Prop := ∀ (H : Hp) (W : List Addr), Same G (HW H W) → (∀ p, p ∈ W → H p ≠ none) →
  ∀ i : Nat, (∀ x, xs[i]? = some x → J.go i H ∧ ∀ v H', J.yld i H v H' → Grow H W H' W ∧ Dp K (HW H' W) v x) ∧ (xs.length ≤ i → J.stop i H)
abbrev TDI := En → (List PyData → En → Prop) → Prop
def PDI (X : Cx) (tg iter : Expr) (t : TDI) : Prop := ∃ wi, PI X tg iter wi ∧ ∀ (σ : L2.St) (H : Hp) (W : List Addr) (A : List (Option Addr)) (env : En) (R : It → Hp → Prop) (Qd : List PyData → En → Prop), EnR X.K H W A env σ → t env Qd →
  (∀ J H' W' env' xs, EnR X.K H' W' A env' σ → Stp A H W H' W' → Walk X.K J (HW H' W') xs → Qd xs env' → R J H') → wi σ H R
def itemsOf : PyData → Option (List PyData)
  | .list xs => some xs
  | .tuple xs => some xs
  | .str z => some (z.cps.toList.map fun c => .str ⟨#[c]⟩)
  | _ => none
def tdIt (t : TD) : TDI := fun env Q => t env fun rv env1 => match rvD rv with
  | some y => match itemsOf y with
    | some xs => Q xs env1
    | none => False
  | none => False
def rngL (lo hi : Int) : List PyData := (List.range (hi - lo).toNat).map fun i => .int (lo + (i : Nat))
def tdRng1 (t : TDA) : TDI := fun env Q => t env fun rvs env1 => match resR env1 rvs with
  | some [.int j] => (-(2 ^ 62) ≤ j ∧ j < 2 ^ 62) ∧ Q (rngL 0 j) env1
  | _ => False
def tdRng2 (t : TDA) : TDI := fun env Q => t env fun rvs env1 => match resR env1 rvs with
  | some [.int i, .int j] => (-(2 ^ 62) ≤ i ∧ i < 2 ^ 62 ∧ -(2 ^ 62) ≤ j ∧ j < 2 ^ 62) ∧ Q (rngL i j) env1
  | _ => False
/-- enumerate(list) -/
def enumL (xs : List PyData) : List PyData := (List.range xs.length).zipWith (fun i x => .tuple [.int (i : Nat), x]) xs
def tdEnum (t : TDA) : TDI := fun env Q => t env fun rvs env1 => match resAll rvs with
  | some [.list xs] => Q (enumL xs) env1
  | _ => False
def tdZip (t : TDA) : TDI := fun env Q => t env fun rvs env1 => match resAll rvs with
  | some [.list xs, .list ys] => Q (xs.zipWith (fun x y => .tuple [x, y]) ys) env1
  | _ => False
section
variable {X : Cx} {tg e a b : Expr} {te : TD} {ta : TDA} {tl : TE} {pos p : Pos}
def iAny (K : PySem.W.Frag) (tl : TE) : TI := fun σ H R => tl σ H fun x H1 => (∃ a, x = .ref a ∧ (∃ xs, SqL K H1 a xs) ∧ R (Itl K a) H1) ∨ (∃ a, x = .ref a ∧ (∃ xs, SqT K H1 a xs) ∧ R (Itt K a) H1) ∨ ∃ z, x = .str z ∧ R (Its z) H1
theorem pi_any (hl : PE X e tl) : PI X tg e (iAny X.K tl) := by
  refine ⟨fun pins s σ H R I h => ?_⟩
  refine thn (hl.run pins s σ H _ I h) fun v s1 ⟨x, H1, I1, r1, q1⟩ => ?_
  have fp : ∀ b : Addr, b ∈ [s1.heap.objs.size] → FpOk X pins H1 b := fun b hb => by
    obtain rfl : b = s1.heap.objs.size := by simpa using hb
    exact I1.fpOk (Nat.le_refl _) (I1.hok.fresh (Nat.le_refl _))
  rcases q1 with ⟨a, rfl, ⟨xs, hq⟩, q⟩ | ⟨a, rfl, ⟨xs, hq⟩, q⟩ | ⟨z, rfl, q⟩
  · cases r1
    obtain ⟨its, rv, pl, _⟩ := I1.list hq
    exact wpAny_pyIter_list pl.isList ⟨_, [s1.heap.objs.size], _, _, H1, rfl, I1.kept (t' := s1.toks) (fun b o e => Heap.get?_push_of_some _ e), turn_list a _, ⟨_, Heap.get?_push_size _ rfl, rfl, rfl⟩, fp, q⟩
  · cases r1
    obtain ⟨its, rv, pl, _⟩ := I1.tuple hq
    exact wpAny_pyIter_tuple (show s1.heap.IsTuple a its.toArray from pl) ⟨_, [s1.heap.objs.size], _, _, H1, rfl, I1.kept (t' := s1.toks) (fun b o e => Heap.get?_push_of_some _ e), turn_tuple a _, ⟨_, Heap.get?_push_size _ rfl, rfl, rfl⟩, fp, q⟩
  · obtain ⟨t, rfl⟩ := r1
    cases ha : z.cps.all (· < 128)
    · exact wpAny_pyIter_wide ha (pi_one (tk := s1.toks) I1 _ (turn_str _ z t "str_iterator" (.inr rfl)) ⟨_, Heap.get?_push_size _ rfl, rfl, rfl⟩ q)
    · exact wpAny_pyIter_ascii ha (pi_one (tk := s1.toks) I1 _ (turn_str _ z t "str_ascii_iterator" (.inl rfl)) ⟨_, Heap.get?_push_size _ rfl, rfl, rfl⟩ q)
theorem sql_inj {K : PySem.W.Frag} {H : Hp} {a : Addr} {xs : List V} (h : SqL K H a xs) : True := True.intro
theorem walk_list {K : PySem.W.Frag} {G : Hp} {a : Addr} {vs : List V} {xs : List PyData} (s : SqL K G a vs) (d : DpAll K G vs xs) : Walk K (Itl K a) G xs := by
  intro H W e hw i
  have s' : SqL K H a vs := hw_same.seq (e.seq s)
  refine ⟨fun x hx => ?_, fun hl => ⟨vs, s', by rw [d.len]; exact hl⟩⟩
  obtain ⟨v, hv, dv⟩ := d.get hx
  refine ⟨⟨vs, v, s', hv⟩, fun u H' y => ?_⟩
  obtain ⟨rfl, y⟩ := y
  have := y vs s'
  rw [hv] at this; cases this
  exact ⟨.refl, dp_mono e _ dv⟩
theorem walk_tup {K : PySem.W.Frag} {G : Hp} {a : Addr} {vs : List V} {xs : List PyData} (s : SqT K G a vs) (d : DpAll K G vs xs) : Walk K (Itt K a) G xs := by
  intro H W e hw i
  have s' : SqT K H a vs := same_t hw_same (same_t e s)
  refine ⟨fun x hx => ?_, fun hl => ⟨vs, s', by rw [d.len]; exact hl⟩⟩
  obtain ⟨v, hv, dv⟩ := d.get hx
  refine ⟨⟨vs, v, s', hv⟩, fun u H' y => ?_⟩
  obtain ⟨rfl, y⟩ := y
  have := y vs s'
  rw [hv] at this; cases this
  exact ⟨.refl, dp_mono e _ dv⟩
theorem walk_str {K : PySem.W.Frag} {G : Hp} {z : Str} : Walk K (Its z) G (z.cps.toList.map fun c => .str ⟨#[c]⟩) := by
  intro H W e hw i
  refine ⟨fun x hx => ?_, fun hl => by
    show z.cps.size ≤ i
    simpa using hl⟩
  rw [List.getElem?_map, Array.getElem?_toList] at hx
  obtain ⟨c, hc, rfl⟩ := Option.map_eq_some_iff.mp hx
  refine ⟨(Array.getElem?_eq_some_iff.mp hc).1, fun u H' y => ?_⟩
  obtain ⟨rfl, c', hc', rfl⟩ := y
  rw [hc] at hc'; cases hc'
  exact ⟨.refl, .str _⟩
theorem walk_rng {K : PySem.W.Frag} {G : Hp} {lo hi : Int} : Walk K (Itr lo (hi - lo).toNat) G (rngL lo hi) := by
  intro H W e hw i
  unfold rngL
  refine ⟨fun x hx => ?_, fun hl => by
    rw [List.length_map, List.length_range] at hl
    exact hl⟩
  rw [List.getElem?_map] at hx
  obtain ⟨j, hj, rfl⟩ := Option.map_eq_some_iff.mp hx
  obtain ⟨h1, h2⟩ := List.getElem?_eq_some_iff.mp hj
  rw [List.getElem_range] at h2
  subst h2
  rw [List.length_range] at h1
  refine ⟨h1, fun u H' y => ?_⟩
  obtain ⟨rfl, rfl⟩ := y
  exact ⟨.refl, .int _⟩
theorem pdi_seq (h : PD X e te) : PDI X tg e (tdIt te) := by
  obtain ⟨t1, p1, q1⟩ := h
  refine ⟨_, pi_any p1, fun σ H W A env R Qd E ht k => ?_⟩
  refine q1 σ H W A env _ _ E ht fun v H1 W1 env1 rv E1 S1 R1 h1 => ?_
  split at h1
  · rename_i y ey
    split at h1
    · rename_i xs ex
      obtain ⟨W', s1, s2, d⟩ := R1.keepD S1 ey
      have E' := E1.sub s1 fun a ha => s2 a (E1.ain a ha) (E.ain a ha)
      have S' := S1.sub s1 s2
      cases y with
      | list ys =>
        cases ex
        cases d with
        | lst s r => exact .inl ⟨_, rfl, ⟨_, hw_same.seq s⟩, k _ H1 W' env1 _ E' S' (walk_list s r) h1⟩
      | tuple ys =>
        cases ex
        cases d with
        | tup s r => exact .inr (.inl ⟨_, rfl, ⟨_, same_t hw_same s⟩, k _ H1 W' env1 _ E' S' (walk_tup s r) h1⟩)
      | str z =>
        cases ex
        cases d
        exact .inr (.inr ⟨_, rfl, k _ H1 W' env1 _ E' S' walk_str h1⟩)
      | _ => cases ex
    · exact h1.elim
  · exact h1.elim
theorem pdi_rng1 (hg : Gl X "range") (hm : X.mg "range" = none) (ha : PDA X [a] ta) (hs : starEach [a] X.env = [(false, eval a X.env)] := by rfl) : PDI X tg (.Call (.Name "range" p) [a] [] pos) (tdRng1 ta) := by
  obtain ⟨t1, p1, q1⟩ := ha
  refine ⟨_, pi_range1 hg hm p1 hs, fun σ H W A env R Qd E ht k => ?_⟩
  refine q1 σ H W A env _ _ E ht fun vs H1 W1 env1 rvs E1 S1 R1 h1 => ?_
  split at h1
  · rename_i j ej
    obtain ⟨v, rfl, d⟩ := dqall1 (R1.read E1 ej)
    refine ⟨j, by rw [d.int], h1.1.1, h1.1.2, ?_⟩
    have w := k (Itr 0 (j - 0).toNat) H1 W1 env1 _ E1 S1 walk_rng h1.2
    rwa [show j - 0 = j by omega] at w
  · exact h1.elim
theorem pdi_rng2 (hg : Gl X "range") (hm : X.mg "range" = none) (ha : PDA X [a, b] ta) (hs : starEach [a, b] X.env = [(false, eval a X.env), (false, eval b X.env)] := by rfl) (hs2 : starEach [b] X.env = [(false, eval b X.env)] := by rfl) :
    PDI X tg (.Call (.Name "range" p) [a, b] [] pos) (tdRng2 ta) := by
  obtain ⟨t1, p1, q1⟩ := ha
  refine ⟨_, pi_range2 hg hm p1 hs hs2, fun σ H W A env R Qd E ht k => ?_⟩
  refine q1 σ H W A env _ _ E ht fun vs H1 W1 env1 rvs E1 S1 R1 h1 => ?_
  split at h1
  · rename_i i j ej
    obtain ⟨v, u, rfl, d, d2⟩ := dqall2 (R1.read E1 ej)
    exact ⟨i, j, by rw [d.int, d2.int], h1.1, k _ H1 W1 env1 _ E1 S1 walk_rng h1.2⟩
  · exact h1.elim
end

/-! ### targets -/
abbrev TDG := PyData → En → (En → Prop) → Prop
abbrev TDGs := List PyData → En → (En → Prop) → Prop
def PDG (X : Cx) (N : List Nat × List Nat) (tg : Expr) (t : TDG) : Prop := ∃ g, PG X tg g ∧ ∀ (B : Bs) (v : V) (x : PyData) (σ : L2.St) (H : Hp) (W : List Addr) (A : List (Option Addr)) (env : En) (Q : L2.St → Hp → Prop) (Qd : En → Prop), OkN B N → StR X.K B H W A env σ → Dp X.K (HW H W) v x → t x env Qd →
  (∀ σ' A' env', StR X.K B H W A' env' σ' → Qd env' → Q σ' H) → g v σ H Q
def PDGs (X : Cx) (N : List Nat × List Nat) (tgs : List Expr) (t : TDGs) : Prop := ∃ g, PGs X tgs g ∧ ∀ (B : Bs) (vs : List V) (xs : List PyData) (σ : L2.St) (H : Hp) (W : List Addr) (A : List (Option Addr)) (env : En) (Q : L2.St → Hp → Prop) (Qd : En → Prop), OkN B N → StR X.K B H W A env σ → DpAll X.K (HW H W) vs xs → t xs env Qd →
  (∀ σ' A' env', StR X.K B H W A' env' σ' → Qd env' → Q σ' H) → g vs σ H Q
def gdName (i : Nat) : TDG := fun x env Q => i < env.length ∧ Q (env.set i (some (.d x)))
def gdNil : TDGs := fun xs env Q => match xs with
  | [] => Q env
  | _ => False
def gdCons (t : TDG) (u : TDGs) : TDGs := fun xs env Q => match xs with
  | x :: r => t x env fun env1 => u r env1 Q
  | [] => False
def gdTup (n : Nat) (t : TDGs) : TDG := fun x env Q => match x with
  | .tuple xs => xs.length = n ∧ t xs env Q
  | _ => False
section
variable {X : Cx} {N : List Nat × List Nat} {tg e : Expr} {es : List Expr} {t : TDG} {u : TDGs} {pos : Pos}
theorem pdg_name {i : Nat} {x : Str} (hN : X.N.Nodup) (hi : X.N[i]? = some x) (hx : Loc X.env.scope x) (hM : i ∉ N.1 := by decide) (hf : X.fn x = true ∨ X.env.scope.names.lookup x = some .local := by first | exact .inl rfl | exact .inr rfl | assumption) : PDG X N (.Name x pos) (gdName i) :=
  ⟨_, pg_name hN hi hx hf, fun B v x σ H W A env Q Qd hB R d h k => k _ _ _ (R.setD hB hM h.1 d) h.2⟩
theorem pdgs_nil : PDGs X N [] gdNil := ⟨_, pgs_nil, fun B vs xs σ H W A env Q Qd hB R d h k => by
  cases xs with
  | nil => cases d; exact ⟨rfl, k _ _ _ R h⟩
  | cons _ _ => exact h.elim⟩
theorem pdgs_cons (h1 : PDG X N e t) (h2 : PDGs X N es u) (hs : (assignEach (e :: es) X.env).map (·.2) = assign e X.env :: (assignEach es X.env).map (·.2) := by rfl) : PDGs X N (e :: es) (gdCons t u) := by
  obtain ⟨g1, p1, q1⟩ := h1
  obtain ⟨g2, p2, q2⟩ := h2
  refine ⟨_, pgs_cons p1 p2 hs, fun B vs xs σ H W A env Q Qd hB R d h k => ?_⟩
  cases d with
  | nil => exact h.elim
  | cons d1 d2 =>
    refine ⟨_, _, rfl, q1 B _ _ σ H W A env _ _ hB R d1 h fun σ' A' env' R' h' => ?_⟩
    exact q2 B _ _ σ' H W A' env' Q Qd hB R' d2 h' k
theorem pdg_tup {k n : Nat} (hc : X.calm = true) (h : PDGs X N es u) (hn : (assignEach es X.env).length = n := by rfl) (hst : (assignEach es X.env).findIdx? (·.1) = none := by rfl) : PDG X N (.Tuple es k pos) (gdTup n u) := by
  obtain ⟨g, p, q⟩ := h
  refine ⟨_, pg_tup hc p hn hst, fun B v x σ H W A env Q Qd hB R d h k => ?_⟩
  cases x with
  | tuple xs =>
    cases d with
    | tup s r => exact ⟨_, _, rfl, same_t hw_same s, r.len.trans h.1, q B _ _ σ H W A env Q Qd hB R r h.2 k⟩
  | _ => exact h.elim
end
/-- target = e: data taken apart -/
def tdAsg (te : TD) (g : TDG) : TDS := fun D env => te env fun rv env1 => match rvD rv with
  | some x => g x env1 D.nx
  | none => False
section
variable {X : Cx} {N : List Nat × List Nat} {tg e iter c : Expr} {body : List Stmt} {te : TD} {g : TDG} {tc : TDT} {ti : TDI} {tb : TDS} {pos : Pos}
theorem psd_asg (he : PD X e te) (hg : PDG X N tg g) (hs : swapsWithSole [tg] e pos.line X.env = pure false := by rfl) (hw : swappedStores [tg] e X.env = pure none := by rfl)
    (h1 : (assignEach [tg] X.env).map (·.2) = [assign tg X.env] := by rfl) : PSD X N (.Assign [tg] e pos) (tdAsg te g) := by
  obtain ⟨t1, p1, q1⟩ := he
  obtain ⟨g1, p2, q2⟩ := hg
  refine ⟨_, ps_asg p1 p2 hs hw h1, fun B D Dd σ H W A env hB R h O => ?_⟩
  refine q1 σ H W A env _ _ R.en h fun v H1 W1 env1 rv E1 S1 R1 h1 => ?_
  have R' := R.step S1 E1
  split at h1
  · rename_i x ex
    obtain ⟨W', s1, s2, d⟩ := R1.keepD S1 ex
    have R2 := R'.sub s1 (fun a ha => s2 a (E1.ain a ha) (R.en.ain a ha)) (fun q hq => s2 q (R'.up q hq) (R.up q hq)) fun q hq => s2 q.1 (R'.fz q hq).2.2 (R.fz q hq).2.2
    exact q2 B v x σ H1 W' A env1 _ _ hB R2 d h1 fun σ' A' env' R3 h3 => O.nx σ' H1 W' A' env' R3 h3
  · exact h1.elim
/-- for: Pv what holds ahead of turn i -/
def tdFor (ti : TDI) (g : TDG) (tb : TDS) : TDS := fun D env => ti env fun xs env1 => ∃ Pv : Nat → En → Prop, Pv 0 env1 ∧
  (∀ i x env, xs[i]? = some x → Pv i env → g x env fun env2 => tb { D with nx := Pv (i + 1), ct := Pv (i + 1), bk := D.nx } env2) ∧ ∀ env, Pv xs.length env → D.nx env
theorem psd_for (hp : PassesOwn (model X.prog X.w) X.A X.env X.xe) (hc : X.calm = true) (hi : PDI X tg iter ti) (hg : PDG X N tg g) (hb : PSDs X N body tb) (hs : ∀ x, foldedSetIterable iter X.env x = pure x := by intro _; rfl) :
    PSD X N (.For tg iter body [] pos) (tdFor ti g tb) := by
  obtain ⟨w1, p1, q1⟩ := hi
  obtain ⟨g1, p2, q2⟩ := hg
  obtain ⟨b1, p3, q3⟩ := hb
  refine ⟨_, ps_for hp hc p1 p2 p3 hs, fun B D Dd σ H W A env hB R h O => ?_⟩
  refine q1 σ H W A env _ _ R.en h fun J H1 W1 env1 xs E1 S1 Wk h1 => ?_
  obtain ⟨Pv, h0, hs, hd⟩ := h1
  have R1 := R.step S1 E1
  -- in the loop what was seen at its start stands
  have up : ∀ {H W A env σ}, StR X.K { B with G := HW H1 W1 } H W A env σ → StR X.K B H W A env σ := fun {H W A env σ} r => ⟨r.en, r.old, r.there, r.up, r.fr, r.own, r.par, r.mvs, r.fz, fun b o e => r.seen b o (R1.seen b o e)⟩
  have hB' : OkN { B with G := HW H1 W1 } N := ⟨hB.n, hB.m, hB.w, hB.v⟩
  refine ⟨fun i m σ H => m = xs.length - i ∧ i ≤ xs.length ∧ ∃ W A env, StR X.K { B with G := HW H1 W1 } H W A env σ ∧ Pv i env,
    ⟨_, rfl, Nat.zero_le _, W1, A, env1, ⟨R1.en, R1.old, R1.there, R1.up, R1.fr, R1.own, R1.par, R1.mvs, R1.fz, Same.refl _⟩, h0⟩, ?_⟩
  rintro i m σ2 H2 ⟨rfl, hle, W2, A2, env2, R2, hP⟩
  obtain ⟨wg, ws⟩ := Wk H2 W2 R2.seen R2.en.trk i
  by_cases hlt : i < xs.length
  · obtain ⟨go, yl⟩ := wg xs[i] (by simp [hlt])
    refine .inr ⟨go, fun σ' H' => ∃ W A env, StR X.K { B with G := HW H1 W1 } H' W A env σ' ∧ Pv (i + 1) env, fun σ' H' q => ⟨xs.length - (i + 1), by omega, rfl, hlt, q⟩, fun v H3 y => ?_⟩
    obtain ⟨gr, dv⟩ := yl v H3 y
    have R3 := R2.step gr.stp (gr.en R2.en)
    refine q2 { B with G := HW H1 W1 } v xs[i] σ2 H3 W2 A2 env2 _ _ hB' R3 dv (hs i _ env2 (by simp [hlt]) hP) fun σ' A' env' R4 h4 => ?_
    exact q3 { B with G := HW H1 W1 } _ { Dd with nx := Pv (i + 1), ct := Pv (i + 1), bk := Dd.nx } σ' H3 W2 A' env' hB' R4 h4
      ⟨fun σ H W A env r q => ⟨W, A, env, r, q⟩, fun σ H W A env r q => O.nx σ H W A env (up r) q, fun σ H W A env r q => ⟨W, A, env, r, q⟩, fun σ H W A env v s r q q' => O.rt σ H W A env v s (up r) q q'⟩
  · have e : i = xs.length := by omega
    subst e
    exact .inl ⟨ws (Nat.le_refl _), O.nx σ2 H2 W2 A2 env2 (up R2) (hd env2 hP)⟩
/-- while: by a word and a measure -/
def tdWhile (c : TDT) (tb : TDS) : TDS := fun D env => ∃ (Pv : Nat → En → Prop), (∃ m, Pv m env) ∧ ∀ m env, Pv m env → c env fun b env1 => if b = true then tb { D with nx := fun env' => ∃ m', m' < m ∧ Pv m' env', ct := fun env' => ∃ m', m' < m ∧ Pv m' env', bk := D.nx } env1 else D.nx env1
theorem psd_while (hp : PassesOwn (model X.prog X.w) X.A X.env X.xe) (hc : PDT X c tc) (hb : PSDs X N body tb) : PSD X N (.While c body [] pos) (tdWhile tc tb) := by
  obtain ⟨t1, p1, q1⟩ := hc
  obtain ⟨b1, p3, q3⟩ := hb
  refine ⟨_, ps_while hp p1 p3, fun B D Dd σ H W A env hB R h O => ?_⟩
  obtain ⟨Pv, ⟨m0, h0⟩, ht⟩ := h
  refine ⟨fun m σ H => ∃ W A env, StR X.K B H W A env σ ∧ Pv m env, ⟨m0, W, A, env, R, h0⟩, ?_⟩
  rintro m σ2 H2 ⟨W2, A2, env2, R2, hP⟩
  refine q1 σ2 H2 W2 A2 env2 _ _ R2.en (ht m env2 hP) fun b H3 W3 env3 E3 S3 h3 => ?_
  have R3 := R2.step S3 E3
  cases b with
  | false => exact O.nx σ2 H3 W3 A2 env3 R3 h3
  | true =>
    refine ⟨fun σ' H' => ∃ m', m' < m ∧ ∃ W A env, StR X.K B H' W A env σ' ∧ Pv m' env, fun σ' H' ⟨m', l, q⟩ => ⟨m', l, q⟩, ?_⟩
    exact q3 B _ { Dd with nx := fun env' => ∃ m', m' < m ∧ Pv m' env', ct := fun env' => ∃ m', m' < m ∧ Pv m' env', bk := Dd.nx } σ2 H3 W3 A2 env3 hB R3 h3
      ⟨fun σ H W A env r ⟨m', l, q⟩ => ⟨m', l, W, A, env, r, q⟩, fun σ H W A env r q => O.nx σ H W A env r q, fun σ H W A env r ⟨m', l, q⟩ => ⟨m', l, W, A, env, r, q⟩, fun σ H W A env v s r q q' => O.rt σ H W A env v s r q q'⟩
end
end DL

set_option Elab.async false
set_option linter.all false
set_option maxRecDepth 100000
set_option maxHeartbeats 4000000
set_option autoImplicit false
namespace DL
open PySem PySem.Spec L2

/-! ### what is held alone is changed -/
section
variable {K : PySem.W.Frag} {H : Hp} {W : List Addr} {A : List (Option Addr)} {env : En} {σ : L2.St} {a : Addr} {o : HO} {i : Nat}
theorem hw_upd (h : a ∈ W) : HW (upd H a o) W = HW H W := by
  funext b
  unfold HW
  by_cases e : b ∈ W
  · rw [if_pos e, if_pos e]
  · rw [if_neg e, if_neg e, upd_ne fun z => e (by rw [z]; exact h)]
theorem EnR.write (E : EnR K H W A env σ) (ha : A[i]? = some (some a)) {s : Sl} (hs : s.isD = false) (h : OwR K (upd H a o) W a s) : EnR K (upd H a o) W A (env.set i (some s)) σ := by
  obtain ⟨hw, s0, hs0, hd0⟩ := E.back i a ha
  have hi : i < env.length := (List.getElem?_eq_some_iff.mp hs0).1
  obtain ⟨a', ha', hv, ow0⟩ := E.own i s0 hs0 hd0
  rw [ha] at ha'; cases ha'
  refine ⟨by simp [E.len], by simp [E.lenA], fun j x e => ?_, fun j z e hz => ?_, fun j b e => ?_, E.inj, fun p hp => ?_⟩
  · rw [set_get] at e
    by_cases c : i = j
    · subst c
      rw [if_pos rfl, if_pos hi] at e
      cases e
      cases hs
    · rw [if_neg c] at e
      obtain ⟨x1, v, x2, x3⟩ := E.dat j x e
      exact ⟨x1, v, x2, by rw [hw_upd hw]; exact x3⟩
  · rw [set_get] at e
    by_cases c : i = j
    · subst c
      rw [if_pos rfl, if_pos hi] at e
      cases e
      exact ⟨a, ha, hv, h⟩
    · rw [if_neg c] at e
      obtain ⟨b, x1, x2, x3⟩ := E.own j z e hz
      refine ⟨b, x1, x2, x3.mono (by rw [hw_upd hw]; exact Same.refl _) (upd_ne fun q => c (E.inj i j a ha (by rw [← q]; exact x1)))⟩
  · obtain ⟨x1, z, x2, x3⟩ := E.back j b e
    refine ⟨x1, ?_⟩
    rw [set_get]
    by_cases c : i = j
    · subst c
      rw [if_pos rfl, if_pos hi]
      exact ⟨s, rfl, hs⟩
    · rw [if_neg c]
      exact ⟨z, x2, x3⟩
  · by_cases c : p = a
    · rw [c, upd_same]; simp
    · rw [upd_ne c]; exact E.trk p hp
theorem stp_write (h : some a ∈ A) : Stp A H W (upd H a o) W := ⟨fun b u e n => by rw [upd_ne fun z => n (by rw [z]; exact h)]; exact e, fun b e => by
  by_cases c : b = a
  · rw [c, upd_same]; simp
  · rw [upd_ne c]; exact e, fun _ h => h, fun _ h => .inl h⟩
theorem EnR.lst (E : EnR K H W A env σ) {xs : List PyData} (h : env[i]? = some (some (.l xs))) : ∃ a vs, A[i]? = some (some a) ∧ a ∈ W ∧ σ[i]? = some (some (.ref a)) ∧ H a = some (.lst vs) ∧ DpAll K (HW H W) vs xs := by
  obtain ⟨a, ha, hv, vs, h1, h2⟩ := E.own i _ h rfl
  exact ⟨a, vs, ha, (E.back i a ha).1, hv, h1, h2⟩
end
def rdIadd : PyData → PyData → (Rv → Prop) → Prop
  | .int i, .int j, Q => Q (.d (.int (i + j)))
  | _, _, _ => False
/-- a method of a list that a name holds alone: its items and the arguments; the answer is data, the items behind it -/
def MD (X : Cx) (id : String) (r : List PyData → List PyData → (PyData → List PyData → Prop) → Prop) : Prop :=
  ∃ rV, MtR X id rV ∧ ∀ (H : Hp) (W : List Addr) (a : Addr) (vs ws : List V) (xs ys : List PyData) (Q : VK) (Qd : PyData → List PyData → Prop), H a = some (.lst vs) → DpAll X.K (HW H W) vs xs → DpAll X.K (HW H W) ws ys → r xs ys Qd →
    (∀ v z vs' xs', Dp X.K (HW H W) v z → DpAll X.K (HW H W) vs' xs' → Qd z xs' → Q v (upd H a (.lst vs'))) → rV (.ref a) ws H Q
def tdM (i : Nat) (r : List PyData → List PyData → (PyData → List PyData → Prop) → Prop) (t : TDA) : TD := fun env Q => match env[i]? with
  | some (some (.l _)) => t env fun rvs env1 => match env1[i]?, resAll rvs with
    | some (some (.l xs)), some ys => r xs ys fun z xs' => Q (.d z) (env1.set i (some (.l xs')))
    | _, _ => False
  | _ => False
def rdAppend : List PyData → List PyData → (PyData → List PyData → Prop) → Prop
  | xs, [y], Q => xs.length < sizeLine ∧ Q .none (xs ++ [y])
  | _, _, _ => False
def rdPop : List PyData → List PyData → (PyData → List PyData → Prop) → Prop
  | xs, [], Q => match xs[xs.length - 1]? with
    | some y => Q y xs.dropLast
    | none => False
  | _, _, _ => False
def rdPopAt : List PyData → List PyData → (PyData → List PyData → Prop) → Prop
  | xs, [.int i], Q => (-(2 ^ 63) ≤ i ∧ i < 2 ^ 63) ∧ match seqIndex? i xs.length with
    | some k => match xs[k]? with
      | some y => Q y (xs.eraseIdx k)
      | none => False
    | none => False
  | _, _, _ => False
section
variable {X : Cx} {N : List Nat × List Nat} {e o f idx value : Expr} {es : List Expr} {te tk : TD} {ta : TDA} {pos pos' apos cpos tpos : Pos} {i : Nat} {x name : Str} {id : String} {r : List PyData → List PyData → (PyData → List PyData → Prop) → Prop}
theorem md_append : MD X "list.append" rdAppend := by
  refine ⟨_, mt_append, fun H W a vs ws xs ys Q Qd h d dw q k => ?_⟩
  unfold rdAppend at q
  split at q
  · cases dw with
    | cons d1 d2 =>
      cases d2
      exact ⟨a, vs, _, rfl, rfl, h, by rw [d.len]; exact q.1, k .non .none _ _ .non (d.app (.cons d1 .nil)) q.2⟩
  · exact q.elim
theorem DpAll.dl {K : PySem.W.Frag} {H : Hp} {vs : List V} {xs : List PyData} (d : DpAll K H vs xs) : DpAll K H vs.dropLast xs.dropLast := by
  rw [List.dropLast_eq_take, List.dropLast_eq_take, d.len]
  exact d.take _
theorem md_pop : MD X "list.pop" rdPop := by
  refine ⟨_, mt_pop, fun H W a vs ws xs ys Q Qd h d dw q k => ?_⟩
  unfold rdPop at q
  split at q
  · cases dw
    split at q
    · rename_i y ey
      obtain ⟨v, hv, dv⟩ := d.get ey
      exact ⟨a, vs, v, rfl, rfl, h, by rw [d.len]; exact hv, k v y _ _ dv (DpAll.dl d) q⟩
    · exact q.elim
  · exact q.elim
theorem md_popAt : MD X "list.pop" rdPopAt := by
  refine ⟨_, mt_popAt, fun H W a vs ws xs ys Q Qd h d dw q k => ?_⟩
  unfold rdPopAt at q
  split at q
  · cases dw with
    | cons d1 d2 =>
      cases d2
      cases d1
      obtain ⟨hb, q⟩ := q
      split at q
      · rename_i k' ek
        split at q
        · rename_i y ey
          obtain ⟨v, hv, dv⟩ := d.get ey
          exact ⟨a, vs, _, k', v, rfl, rfl, h, hb.1, hb.2, by rw [d.len]; exact ek, hv, k v y _ _ dv (d.erase _) q⟩
        · exact q.elim
      · exact q.elim
  · exact q.elim
theorem m_end {a : Addr} {H0 H : Hp} {W0 W : List Addr} {A : List (Option Addr)} {env : En} {σ : L2.St} {vs : List V} {xs : List PyData} {Qd : Rv → En → Prop} {Q : VK} {v : V} {z : PyData} (E : EnR X.K H W A env σ) (S : Stp A H0 W0 H W) (ha : A[i]? = some (some a)) (hw : a ∈ W)
    (k : ∀ v H' W' env' rv, EnR X.K H' W' A env' σ → Stp A H0 W0 H' W' → RvR X.K H0 W0 H' W' A rv v → Qd rv env' → Q v H') (dv : Dp X.K (HW H W) v z) (d : DpAll X.K (HW H W) vs xs) (q : Qd (.d z) (env.set i (some (.l xs)))) : Q v (upd H a (.lst vs)) := by
  refine k v _ W _ (.d z) (E.write (s := .l xs) ha rfl ⟨vs, upd_same, by rw [hw_upd hw]; exact d⟩) (S.trans (stp_write (List.mem_of_getElem? ha))) ?_ q
  show Dp X.K (HW (upd H a (.lst vs)) W) v z
  rw [hw_upd hw]
  exact dv
/-- x.m(e, ..), x a name of the def -/
theorem pd_m (pa : PlainAttrs "list") (slot : Slot "list" name id) (hty : typeOf (.builtin id) = pure (.type "method_descriptor")) (hm : MD X id r) (ho : PE X o (tVar i)) (ha : PDA X (e :: es) ta)
    (hbase : attributeBase o name X.env (eval o X.env) = eval o X.env := by rfl)
    (hfew : ((backTo cpos (starEach (e :: es) X.env)).all (fun x => !x.1) && (backToKw cpos (keywordEach [] X.env)).all (fun x => x.1.isSome)
      && decide ((e :: es).length + ([] : List Keyword).length + (if ([] : List Keyword).isEmpty then 0 else 1) < 30)) = true := by rfl)
    (hline : (apos.endLine == cpos.line) = true := by rfl) (hs : starEach (e :: es) X.env = (false, eval e X.env) :: starEach es X.env := by rfl) (hplain : (backTo cpos (starEach es X.env)).any (·.1) = false := by rfl) :
    PD X (.Call (.Attribute o name apos) (e :: es) [] cpos) (tdM i r ta) := by
  obtain ⟨rV, h1, h2⟩ := hm
  obtain ⟨t1, p1, q1⟩ := ha
  refine ⟨_, pe_bm pa slot hty h1 ho p1 hbase hfew hline hs hplain, fun σ H W A env Q Qd E ht k => ?_⟩
  unfold tdM at ht
  split at ht
  · rename_i xs0 hx0
    obtain ⟨a, vs0, ha, hw, hv, h3, h4⟩ := E.lst hx0
    refine ⟨.ref a, hv, .inl ⟨rfl, vs0, SqL.of h3⟩, ?_⟩
    refine q1 σ H W A env _ _ E ht fun ws H1 W1 env1 rvs E1 S1 R1 q2 => ?_
    split at q2
    · rename_i xs ys hx ey
      obtain ⟨W', s1, s2, dw⟩ := R1.keep ey
      have E' := E1.sub s1 fun a ha => s2 a (E1.ain a ha) (E.ain a ha)
      have S' := S1.sub s1 s2
      obtain ⟨a', vs, ha', hw', hv', h5, h6⟩ := E'.lst hx
      rw [ha] at ha'; cases ha'
      exact h2 H1 W' a vs ws xs ys Q _ h5 h6 dw q2 fun v z vs' xs' dv d' q' => m_end E' S' ha hw' k dv d' q'
    · exact q2.elim
  · exact ht.elim
theorem pd_m0 (pa : PlainAttrs "list") (slot : Slot "list" name id) (hty : typeOf (.builtin id) = pure (.type "method_descriptor")) (hm : MD X id r) (ho : PE X o (tVar i))
    (hbase : attributeBase o name X.env (eval o X.env) = eval o X.env := by rfl) (hline : (apos.endLine == cpos.line) = true := by rfl) : PD X (.Call (.Attribute o name apos) [] [] cpos) (tdM i r tdNil) := by
  obtain ⟨rV, h1, h2⟩ := hm
  refine ⟨_, pe_bm0 pa slot hty h1 ho hbase hline, fun σ H W A env Q Qd E ht k => ?_⟩
  unfold tdM at ht
  split at ht
  · rename_i xs0 hx0
    obtain ⟨a, vs0, ha, hw, hv, h3, h4⟩ := E.lst hx0
    refine ⟨.ref a, hv, .inl ⟨rfl, vs0, SqL.of h3⟩, ?_⟩
    have q2 : r xs0 [] fun z xs' => Qd (.d z) (env.set i (some (.l xs'))) := by
      have q2 := ht
      simp only [tdNil, hx0, resAll] at q2
      exact q2
    exact h2 H W a vs0 [] xs0 [] Q _ h3 h4 .nil q2 fun v z vs' xs' dv d' q' => m_end E .refl ha hw k dv d' q'
  · exact ht.elim
/-- x.remove(e), ints, e is there -/
def rdRemove : List PyData → List PyData → (PyData → List PyData → Prop) → Prop
  | xs, [.int n], Q => ∃ ns : List Int, xs = ns.map PyData.int ∧ n ∈ ns ∧ Q .none ((ns.erase n).map PyData.int)
  | _, _, _ => False
theorem pd_remove (hc : X.calm = true) (ho : PE X o (tVar i)) (ha : PD X e te) (hbase : attributeBase o "remove" X.env (eval o X.env) = eval o X.env := by rfl)
    (hfew : ((backTo cpos (starEach [e] X.env)).all (fun x => !x.1) && (backToKw cpos (keywordEach [] X.env)).all (fun x => x.1.isSome)
      && decide (([e] : List Expr).length + ([] : List Keyword).length + (if ([] : List Keyword).isEmpty then 0 else 1) < 30)) = true := by rfl)
    (hline : (apos.endLine == cpos.line) = true := by rfl) (hs : starEach [e] X.env = (false, eval e X.env) :: starEach [] X.env := by rfl) (hplain : (backTo cpos (starEach [] X.env)).any (·.1) = false := by rfl) :
    PD X (.Call (.Attribute o "remove" apos) [e] [] cpos) (tdM i rdRemove (tdCons te tdNil)) := by
  obtain ⟨t1, p1, q1⟩ := ha
  refine ⟨_, pe_remX hc (takes0 (X := X)) ho p1 hbase hfew hline hs hplain, fun σ H W A env Q Qd E ht k => ?_⟩
  unfold tdM at ht
  split at ht
  · rename_i xs0 hx0
    obtain ⟨a, vs0, ha, hw, hv, h3, h4⟩ := E.lst hx0
    refine ⟨.ref a, hv, .inl ⟨rfl, vs0, SqL.of h3⟩, ?_⟩
    refine q1 σ H W A env _ _ E ht fun v H1 W1 env1 rv E1 S1 R1 q2 => ?_
    simp only [tdNil] at q2
    split at q2
    · rename_i xs ys hx ey
      unfold rdRemove at q2
      split at q2
      · rename_i n
        have er : rv = .d (.int n) := by
          cases rv with
          | d y => simp [resAll] at ey; rw [ey]
          | o j => cases ey
          | n s => cases s <;> simp [resAll] at ey
        subst er
        obtain ⟨ns, rfl, hn, q2⟩ := q2
        obtain ⟨a', vs, ha', hw', hv', h5, h6⟩ := E1.lst hx
        rw [ha] at ha'; cases ha'
        rw [h6.ints] at h5
        refine ⟨a, ns, n, rfl, Dq.int (.of_dp R1), h5, fun _ => ?_, fun z => absurd hn z⟩
        exact m_end E1 S1 ha hw' k .non (.of_ints (ns.erase n)) q2
      · exact q2.elim
    · exact q2.elim
  · exact ht.elim
/-- x[k] = e, x a name of the def -/
def tdSetIx (i : Nat) (tk te : TD) : TDS := fun D env => te env fun rv env1 => match env1[i]? with
  | some (some (.l _)) => tk env1 fun rk env2 => match env2[i]?, res env2 rk, rvD rv with
    | some (some (.l xs)), some (.int k), some x => match ixN xs.length k with
      | some j => D.nx (env2.set i (some (.l (xs.set j x))))
      | none => False
    | _, _, _ => False
  | _ => False
theorem psd_setIx {N : List Nat × List Nat} (ho : PE X o (tVar i)) (hk : PD X idx tk) (he : PD X e te) (ha : ∀ v, assign (.Subscript o idx tpos) X.env v = (do
      let ov ← holding [v] (eval o X.env)
      let iv ← holding [v, ov] (eval idx X.env)
      standAt tpos
      holding [v, ov, iv] (setItem ov iv v)
      release [v, ov, iv] []) := by intro _; rfl)
    (hs : swapsWithSole [.Subscript o idx tpos] e pos.line X.env = pure false := by rfl) (hw : swappedStores [.Subscript o idx tpos] e X.env = pure none := by rfl)
    (h1 : (assignEach [.Subscript o idx tpos] X.env).map (·.2) = [assign (.Subscript o idx tpos) X.env] := by rfl) : PSD X N (.Assign [.Subscript o idx tpos] e pos) (tdSetIx i tk te) := by
  obtain ⟨t1, p1, q1⟩ := he
  obtain ⟨t2, p2, q2⟩ := hk
  refine ⟨_, ps_asg p1 (pg_sub ho p2 set_list ha) hs hw h1, fun B D Dd σ H W A env hB R h O => ?_⟩
  refine q1 σ H W A env _ _ R.en h fun v H1 W1 env1 rv E1 S1 R1 h1 => ?_
  split at h1
  · rename_i xs0 hx0
    obtain ⟨a, vs0, ha, hwa, hv, h3, h4⟩ := E1.lst hx0
    refine ⟨.ref a, hv, ?_⟩
    refine q2 σ H1 W1 A env1 _ _ E1 h1 fun u H2 W2 env2 rk E2 S2 R2 h2 => ?_
    split at h2
    · rename_i xs k x hx ek ex
      split at h2
      · rename_i j ej
        obtain ⟨W', s1, s2, d⟩ := (R1.step S2 E1.ain R.en.ain).keepD (S1.trans S2) ex
        have E' := E2.sub s1 fun a ha => s2 a (E2.ain a ha) (R.en.ain a ha)
        have R' := (R.step (S1.trans S2) E2).sub s1 (fun a ha => s2 a (E2.ain a ha) (R.en.ain a ha)) (fun q hq => s2 q ((S1.trans S2).up q (R.up q hq)) (R.up q hq)) fun q hq => s2 q.1 ((S1.trans S2).up _ (R.fz q hq).2.2) (R.fz q hq).2.2
        obtain ⟨a', vs, ha', hw', hv', h5, h6⟩ := E'.lst hx
        rw [ha] at ha'; cases ha'
        refine ⟨a, vs, k, j, rfl, (Dq.of_rv E2 R2 ek).int, h5, by rw [h6.len]; exact ej, ?_⟩
        have E3 : EnR X.K (upd H2 a (.lst (vs.set j v))) W' A (env2.set i (some (.l (xs.set j x)))) σ := E'.write (s := .l (xs.set j x)) ha rfl ⟨_, upd_same, by rw [hw_upd hw']; exact h6.set d j⟩
        exact O.nx σ _ W' A _ (R'.step (stp_write (List.mem_of_getElem? ha)) E3) h2
      · exact h2.elim
    · exact h2.elim
  · exact h1.elim
/-- x op= e, data -/
def tdAug (i : Nat) (r : PyData → PyData → (Rv → Prop) → Prop) (t : TD) : TDS := fun D env => match env[i]? with
  | some (some (.d _)) => t env fun rv env1 => match env1[i]?, res env1 rv with
    | some (some (.d a)), some b => r a b fun z => match rvD z with
      | some y => i < env1.length ∧ D.nx (env1.set i (some (.d y)))
      | none => False
    | _, _ => False
  | _ => False
theorem psd_aug {N : List Nat × List Nat} {op : Operator} {r : PyData → PyData → (Rv → Prop) → Prop} (hN : X.N.Nodup) (hi : X.N[i]? = some x) (hx : Loc X.env.scope x) (he : PD X e te) (ho : OpD X (inplaceOp op) r) (hM : i ∉ N.1 := by decide) (hf : X.fn x = true ∨ X.env.scope.names.lookup x = some .local := by first | exact .inl rfl | exact .inr rfl | assumption) :
    PSD X N (.AugAssign (.Name x pos') op e pos) (tdAug i r te) := by
  obtain ⟨rV, o1, o2⟩ := ho
  obtain ⟨t1, p1, q1⟩ := he
  refine ⟨_, ps_aug hN hi hx p1 (fun pins s σ H x y v u Q I rx ry h => o1 pins s σ H x y v u Q I rx ry h) hf, fun B D Dd σ H W A env hB R h O => ?_⟩
  unfold tdAug at h
  split at h
  · rename_i a0 ha0
    obtain ⟨_, v0, hv0, d0⟩ := R.en.dat i a0 ha0
    refine ⟨v0, hv0, ?_⟩
    refine q1 σ H W A env _ _ R.en h fun v H1 W1 env1 rv E1 S1 R1 h1 => ?_
    split at h1
    · rename_i a b ea eb
      obtain ⟨_, v1, hv1, d1⟩ := E1.dat i a ea
      rw [hv0] at hv1; cases hv1
      have R' := R.step S1 E1
      refine o2 H1 W1 v0 v a b _ _ E1.trk (.of_dp d1) (.of_rv E1 R1 eb) h1 fun u H2 W2 z g Rz hz => ?_
      split at hz
      · rename_i y ey
        have E2 := g.en E1
        have R2 := R'.step g.stp E2
        have Rz' : RvR X.K H1 W1 H2 W2 A z u := by
          cases z with
          | d x => exact Rz
          | o i => obtain ⟨a, ha, _⟩ := Rz; cases i <;> simp at ha
          | n s => exact Rz
        obtain ⟨W', s1, s2, d⟩ := Rz'.keepD g.stp ey
        have R3 := R2.sub s1 (fun a ha => s2 a (E2.ain a ha) (E1.ain a ha)) (fun q hq => s2 q (R2.up q hq) (R'.up q hq)) fun q hq => s2 q.1 (R2.fz q hq).2.2 (R'.fz q hq).2.2
        exact O.nx _ H2 W' _ _ (R3.setD hB hM hz.1 d) hz.2
      · exact hz.elim
    · exact h1.elim
  · exact h.elim
theorem od_iadd : OpD X (inplaceOp .Add) rdIadd := by
  refine ⟨_, ip_add, fun H W x y a b Q Qd hw ra rb q k => ?_⟩
  unfold rdIadd at q
  split at q
  · exact ⟨_, _, ra.int, rb.int, k.int q⟩
  · exact q.elim
end
end DL

set_option Elab.async false
set_option linter.all false
set_option maxRecDepth 100000
set_option maxHeartbeats 4000000
set_option autoImplicit false
namespace DL
open PySem PySem.Spec L2

/-! ### what a def promises: its arguments, what it hands back, what the lists hold that it was lent -/
abbrev FD := List Sl → (Sl → (Nat → Option Sl) → Prop) → Prop
/-- what is handed back, for the caller -/
def RtC (K : PySem.W.Frag) (H H' : Hp) (W' : List Addr) : Sl → V → Prop
  | .d x, v => Dp K (HW H' W') v x
  | s, v => ∃ p, v = .ref p ∧ H p = none ∧ p ∈ W' ∧ OwR K H' W' p s
structure Back (K : PySem.W.Frag) (N : List Nat × List Nat) (H : Hp) (W : List Addr) (A : List (Option Addr)) (H' : Hp) (W' : List Addr) (os : Nat → Option Sl) : Prop where
  old : ∀ b o, H b = some o → some b ∉ A → H' b = some o
  there : ∀ b, H b ≠ none → H' b ≠ none
  up : ∀ p, p ∈ W → p ∈ W'
  fr : ∀ p, p ∈ W' → p ∈ W ∨ (H p = none ∧ H' p ≠ none)
  io : ∀ i, i ∈ N.1 → ∀ a : Addr, A[i]? = some (some a) → ∃ s : Sl, os i = some s ∧ s.isD = false ∧ OwR K H' W' a s
def spD (K : PySem.W.Frag) (N : List Nat × List Nat) (n : Nat) (f : FD) : Sp := fun vs H Q _ => ∃ (W : List Addr) (A : List (Option Addr)) (args : List Sl) (Q0 : Sl → (Nat → Option Sl) → Prop), args.length = n ∧ EnR K H W A (args.map some) (vs.map some) ∧ (∀ (i : Nat) (a : Addr), A[i]? = some (some a) → i ∈ N.1 ∨ i ∈ N.2) ∧
  f args Q0 ∧ ∀ s os, Q0 s os → ∀ v H' W', Back K N H W A H' W' os → RtC K H H' W' s v → Q v H'
theorem spD_len {K : PySem.W.Frag} {N : List Nat × List Nat} {n : Nat} {f : FD} {vs : List V} {H : Hp} {Q : VK} {E : XK} (h : spD K N n f vs H Q E) : vs.length = n := by
  obtain ⟨W, A, args, Q0, hl, hE, _⟩ := h
  have := hE.len
  rw [List.length_map, List.length_map] at this
  omega
def osOf (env : En) : Nat → Option Sl := fun i => match env[i]? with
  | some (some s) => some s
  | _ => none
def startE (n : Nat) (args : List Sl) : En := args.map some ++ List.replicate (n - args.length) none
def mask (A : List (Option Addr)) (N : List Nat) : List (Option Addr) := A.mapIdx fun i a => if i ∈ N then a else none
theorem mask_get {A : List (Option Addr)} {N : List Nat} {i : Nat} {a : Addr} : (mask A N)[i]? = some (some a) ↔ A[i]? = some (some a) ∧ i ∈ N := by
  unfold mask
  rw [List.getElem?_mapIdx]
  cases e : A[i]? with
  | none => simp
  | some x =>
    by_cases c : i ∈ N
    · simp [c]
    · simp [c]
theorem app_none {α : Type} {l : List α} {m : Nat} {i : Nat} {x : α} : (l.map some ++ List.replicate m (none : Option α))[i]? = some (some x) ↔ l[i]? = some x := by
  by_cases c : i < l.length
  · rw [List.getElem?_append_left (by simpa using c), List.getElem?_map]
    simp
  · rw [List.getElem?_append_right (by simp; omega), List.getElem?_eq_none (l := l) (by omega)]
    constructor
    · intro h
      obtain ⟨_, h⟩ := List.getElem?_eq_some_iff.mp h
      simp at h
    · intro h; cases h
theorem app_noneA {l : List (Option Addr)} {m : Nat} {i : Nat} {x : Addr} : (l ++ List.replicate m (none : Option Addr))[i]? = some (some x) ↔ l[i]? = some (some x) := by
  by_cases c : i < l.length
  · rw [List.getElem?_append_left c]
  · rw [List.getElem?_append_right (by omega), List.getElem?_eq_none (l := l) (by omega)]
    constructor
    · intro h
      obtain ⟨_, h⟩ := List.getElem?_eq_some_iff.mp h
      simp at h
    · intro h; cases h
theorem startR {K : PySem.W.Frag} {H : Hp} {W : List Addr} {A : List (Option Addr)} {args : List Sl} {vs : List V} (E : EnR K H W A (args.map some) (vs.map some)) (m : Nat) :
    EnR K H W (A ++ List.replicate m none) (args.map some ++ List.replicate m none) (vs.map some ++ List.replicate m none) := by
  have l1 := E.len
  have l2 := E.lenA
  simp only [List.length_map] at l1 l2
  refine ⟨by simp [l1], by simp [l2], fun i x h => ?_, fun i s h hs => ?_, fun i a h => ?_, fun i j a h1 h2 => ?_, E.trk⟩
  · have h' := app_none.mp h
    have hi := (List.getElem?_eq_some_iff.mp h').1
    obtain ⟨x1, v, x2, x3⟩ := E.dat i x (by rw [List.getElem?_map, h']; rfl)
    refine ⟨by rw [List.getElem?_append_left (by omega)]; exact x1, v, ?_, x3⟩
    rw [List.getElem?_append_left (by simp; omega)]
    exact x2
  · have h' := app_none.mp h
    have hi := (List.getElem?_eq_some_iff.mp h').1
    obtain ⟨a, x1, x2, x3⟩ := E.own i s (by rw [List.getElem?_map, h']; rfl) hs
    refine ⟨a, app_noneA.mpr x1, ?_, x3⟩
    rw [List.getElem?_append_left (by simp; omega)]
    exact x2
  · obtain ⟨x1, s, x2, x3⟩ := E.back i a (app_noneA.mp h)
    refine ⟨x1, s, ?_, x3⟩
    rw [List.getElem?_append_left (List.getElem?_eq_some_iff.mp x2).1]
    exact x2
  · exact E.inj i j a (app_noneA.mp h1) (app_noneA.mp h2)
/-- a def keeps its promise, by its body -/
theorem body_go {X : Cx} {Ns : List Str} {N : List Nat × List Nat} {n : Nat} {sp : FD} {body : List Stmt} {t : TDS} {vs : List V} {H : Hp} {Q : VK} {E : XK} (hp : PSDs X N body t)
    (ht : ∀ (args : List Sl) (Q : Sl → (Nat → Option Sl) → Prop), args.length = n → sp args Q → t { nx := fun env => Q (.d .none) (osOf env), rt := fun r env => Q r (osOf env) } (startE Ns.length args))
    (h : spD X.K N n sp vs H Q E) : ∃ ts, PSs X body ts ∧ ts { nx := fun _ H' => Q .non H', rt := Q } (L2.start Ns vs) H := by
  obtain ⟨ts, p1, q1⟩ := hp
  obtain ⟨W, Ac, args, Q0, hl, hE, hA, hf, hQ⟩ := h
  have hlv : vs.length = args.length := by
    have := hE.len
    simpa using this
  refine ⟨ts, p1, ?_⟩
  have E0 := startR hE (Ns.length - args.length)
  have eσ : L2.start Ns vs = vs.map some ++ List.replicate (Ns.length - args.length) none := by unfold L2.start; rw [hlv]
  rw [eσ]
  have hmA : ∀ (i : Nat) (a : Addr), (Ac ++ List.replicate (Ns.length - args.length) none)[i]? = some (some a) → Ac[i]? = some (some a) := fun i a h => app_noneA.mp h
  have hmv : ∀ a, a ∈ (N.2.filterMap fun i => (Ac[i]?).join) ↔ ∃ i, i ∈ N.2 ∧ Ac[i]? = some (some a) := fun a => by
    rw [List.mem_filterMap]
    constructor
    · rintro ⟨i, h1, h2⟩
      refine ⟨i, h1, ?_⟩
      cases e : Ac[i]? with
      | none => rw [e] at h2; cases h2
      | some o => rw [e] at h2; exact congrArg some h2
    · rintro ⟨i, h1, h2⟩
      exact ⟨i, h1, by rw [h2]; rfl⟩
  refine q1 ⟨H, W, mask Ac N.1, fun _ => none, N.2.filterMap fun i => (Ac[i]?).join, N.2, []⟩ _ { nx := fun env => Q0 (.d .none) (osOf env), rt := fun r env => Q0 r (osOf env) } _ H W (Ac ++ List.replicate (Ns.length - args.length) none) _ ⟨fun i a h => (mask_get.mp h).2, fun i h => h, hE.trk, fun p hp => ?_⟩ ?_ (ht args _ hl hf) ?_
  · obtain ⟨i, _, h2⟩ := (hmv p).mp hp
    exact hE.trk p (hE.back i p h2).1
  · refine ⟨E0, fun b o h _ _ => h, fun b h => h, fun p h => h, fun p h => .inl h, fun a h => .inl ?_, fun i a h => app_noneA.mpr (mask_get.mp h).1, fun i a h hm => ?_, fun q hq => absurd hq (by simp), fun b o h => by cases h⟩
    · obtain ⟨i, hi⟩ := List.mem_iff_getElem?.mp h
      have hi' := hmA i a hi
      rcases hA i a hi' with c | c
      · exact .inl (List.mem_of_getElem? (mask_get.mpr ⟨hi', c⟩))
      · exact .inr ((hmv a).mpr ⟨i, c, hi'⟩)
    · obtain ⟨j, hj, h2⟩ := (hmv a).mp hm
      have := hE.inj i j a (hmA i a h) h2
      show i ∈ N.2
      rw [this]; exact hj
  · have bk : ∀ {σ' H' W' A' env'}, StR X.K ⟨H, W, mask Ac N.1, fun _ => none, N.2.filterMap fun i => (Ac[i]?).join, N.2, []⟩ H' W' A' env' σ' → Back X.K N H W Ac H' W' (osOf env') := fun {σ' H' W' A' env'} R => by
      refine ⟨fun b o h hb => R.old b o h (fun z => hb ?_) (fun z => hb ?_), R.there, R.up, fun p hp => ?_, fun i hi a ha => ?_⟩
      · obtain ⟨i, hi⟩ := List.mem_iff_getElem?.mp z
        exact List.mem_of_getElem? (mask_get.mp hi).1
      · obtain ⟨i, _, h2⟩ := (hmv b).mp z
        exact List.mem_of_getElem? h2
      · rcases R.fr p hp with z | z
        · exact .inl z
        · exact .inr ⟨z, R.en.trk p hp⟩
      · have ha' := R.par i a (mask_get.mpr ⟨ha, hi⟩)
        obtain ⟨_, s, hs, hd⟩ := R.en.back i a ha'
        obtain ⟨a', h1, _, ow⟩ := R.en.own i s hs hd
        rw [ha'] at h1; cases h1
        exact ⟨s, by unfold osOf; rw [hs], hd, ow⟩
    refine ⟨fun σ' H' W' A' env' R q => hQ _ _ q .non H' W' (bk R) .non, fun σ' H' W' A' env' R q => q.elim, fun σ' H' W' A' env' R q => q.elim, fun σ' H' W' A' env' v r R hr q => hQ _ _ q v H' W' (bk R) ?_⟩
    cases r with
    | d y => exact hr
    | l _ => exact hr
    | m _ => exact hr
    | t _ => exact hr
    | g _ _ => exact hr

theorem fnd {P : Program} {w : World} {K : PySem.W.Frag} {mg : Str → Option Value} {base : Heap} {x qual : Str} {st : Stmt} {f : Addr} {fd : FuncData} {Ns ps : List Str} {k : Nat} {N : List Nat × List Nat} {n : Nat} {sp : FD}
    (F : Fun K x qual st f fd) (S : FnScope Ns ps (defScope st)) (hn : ps.length = n)
    (hb : ∀ (cdv : Value) (A : Around) (outer : List Env) (s : Shared) (H : Hp) (E : XK), Room k (A.deeper (PyProof.Rows.envOfC qual (defScope st) s.heap.objs.size f cdv)) →
      ∃ t, PSDs (cxOf CX0 P w K mg base Ns qual (defScope st) f cdv A outer s H E).nox N (defBody st) t ∧ ∀ (args : List Sl) (Q : Sl → (Nat → Option Sl) → Prop), args.length = n → sp args Q → t { nx := fun env => Q (.d .none) (osOf env), rt := fun r env => Q r (osOf env) } (startE Ns.length args)) :
    FnOk P w K mg base CX0 (k + 1) f fd ps (spD K N n sp) := by
  refine F.ok S (fun vs H Q E h => by rw [hn]; exact spD_len h) (fun cdv A outer s H vs Q E hr h => ?_)
  obtain ⟨t, hp, ht⟩ := hb cdv A outer s H E hr
  exact body_go (X := (cxOf CX0 P w K mg base Ns qual (defScope st) f cdv A outer s H E).nox) hp ht h

/-! ### calls -/
def argOf (N : List Nat × List Nat) (env : En) (i : Nat) (rv : Rv) : Option Sl :=
  if i ∈ N.1 then (match rv with
    | .o j => (match env[j]? with
      | some (some s) => if s.isD = true then none else some s
      | _ => none)
    | _ => none)
  else if i ∈ N.2 then (match rv with
    | .n s => if s.isD = true then none else some s
    | _ => none)
  else (rvD rv).map Sl.d
def argsOf (N : List Nat × List Nat) (env : En) : Nat → List Rv → Option (List Sl)
  | _, [] => some []
  | i, rv :: r => match argOf N env i rv with
    | some s => (argsOf N env (i + 1) r).map (s :: ·)
    | none => none
def outE (N : List Nat × List Nat) (rvs : List Rv) (os : Nat → Option Sl) (env : En) : En := match N.1 with
  | [i] => match rvs[i]? with
    | some (.o j) => env.set j (os i)
    | _ => env
  | _ => env
def rvOf : Sl → Rv
  | .d x => .d x
  | s => .n s
def tdCall (N : List Nat × List Nat) (n : Nat) (f : FD) (t : TDA) : TD := fun env Q => t env fun rvs env1 => match argsOf N env1 0 rvs with
  | some args => args.length = n ∧ f args fun s os => Q (rvOf s) (outE N rvs os env1)
  | none => False
inductive ArgR (K : PySem.W.Frag) (H : Hp) (W W0 : List Addr) (env : En) (A : List (Option Addr)) (N : List Nat × List Nat) (i : Nat) : Rv → V → Sl → Option Addr → Prop
  | d {rv : Rv} {v : V} {x : PyData} : i ∉ N.1 → i ∉ N.2 → Dp K (HW H W) v x → ArgR K H W W0 env A N i rv v (.d x) none
  | io {j : Nat} {s : Sl} {a : Addr} : i ∈ N.1 → env[j]? = some (some s) → s.isD = false → A[j]? = some (some a) → OwR K H W a s → ArgR K H W W0 env A N i (.o j) (.ref a) s (some a)
  | mv {s : Sl} {p : Addr} : i ∉ N.1 → i ∈ N.2 → s.isD = false → p ∈ W → p ∉ W0 → OwR K H W p s → ArgR K H W W0 env A N i (.n s) (.ref p) s (some p)
theorem ArgR.sub {K : PySem.W.Frag} {H : Hp} {W W' W0 : List Addr} {env : En} {A : List (Option Addr)} {N : List Nat × List Nat} {i : Nat} {rv : Rv} {v : V} {s : Sl} {oa : Option Addr} (h : ArgR K H W W0 env A N i rv v s oa) (hs : ∀ q, q ∈ W' → q ∈ W) (hp : ∀ p z, rv = .n z → v = .ref p → i ∈ N.2 → p ∈ W') :
    ArgR K H W' W0 env A N i rv v s oa := by
  cases h with
  | d h1 h2 d => exact .d h1 h2 (dp_mono (sub_same hs) _ d)
  | io h1 h2 h3 h4 o => exact .io h1 h2 h3 h4 (o.mono (sub_same hs) rfl)
  | mv h0 h1 h2 h3 h4 o => exact .mv h0 h1 h2 (hp _ _ rfl rfl h1) h4 (o.mono (sub_same hs) rfl)
theorem RvRs.args {K : PySem.W.Frag} {H : Hp} {W : List Addr} {env : En} {A : List (Option Addr)} {σ : L2.St} {N : List Nat × List Nat} (E : EnR K H W A env σ) : ∀ {rvs : List Rv} {vs : List V} {H0 : Hp} {W0 : List Addr} {i : Nat} {args : List Sl}, RvRs K H W A H0 W0 rvs vs → argsOf N env i rvs = some args →
    ∃ (W' : List Addr) (Ac : List (Option Addr)), (∀ q, q ∈ W' → q ∈ W) ∧ (∀ q, q ∈ W → q ∈ W0 → q ∈ W') ∧ args.length = rvs.length ∧ vs.length = rvs.length ∧ Ac.length = rvs.length ∧
      (∀ (k : Nat) (rv : Rv), rvs[k]? = some rv → ∃ v s oa, vs[k]? = some v ∧ args[k]? = some s ∧ Ac[k]? = some oa ∧ ArgR K H W' W0 env A N (i + k) rv v s oa) ∧
      ∀ (k k' : Nat) (p : Addr), i + k ∈ N.2 → i + k' ∈ N.2 → i + k ∉ N.1 → i + k' ∉ N.1 → Ac[k]? = some (some p) → Ac[k']? = some (some p) → k = k' := by
  intro rvs
  induction rvs with
  | nil =>
    intro vs H0 W0 i args r e
    cases r
    cases e
    exact ⟨W, [], fun _ h => h, fun _ h _ => h, rfl, rfl, rfl, fun k rv h => by simp at h, fun k k' p _ _ _ _ h => by simp at h⟩
  | cons rv rvs ih =>
    intro vs H0 W0 i args r e
    cases r with
    | @cons _ _ _ v _ vs H1 W1 r1 m S1 r2 =>
      unfold argsOf at e
      split at e
      · rename_i s es
        obtain ⟨ys, e1, e2⟩ := Option.map_eq_some_iff.mp e
        subst e2
        obtain ⟨W', Ac, h1, h2, l1, l2, l3, h3, h4⟩ := ih r2 e1
        have ix : ∀ k, i + 1 + k = i + (k + 1) := fun k => by omega
        -- the tail, for a lesser W
        have tail : ∀ {W2 : List Addr}, (∀ q, q ∈ W2 → q ∈ W') → (∀ q, q ∈ W' → q ∈ W2 ∨ (i ∉ N.2 ∧ v = .ref q) ∨ q ∈ W1) → (∀ q, q ∈ W2 → True) → (∀ (k : Nat) (rv : Rv), rvs[k]? = some rv → ∃ v s oa, vs[k]? = some v ∧ ys[k]? = some s ∧ Ac[k]? = some oa ∧ (ArgR K H W' W1 env A N (i + 1 + k) rv v s oa)) := fun _ _ _ k rv h => h3 k rv h
        have mvne : ∀ (k : Nat) (p : Addr), i + 1 + k ∈ N.2 → i + 1 + k ∉ N.1 → Ac[k]? = some (some p) → p ∉ W1 := fun k p hk hk1 hp => by
          have hk2 : k < rvs.length := by rw [← l3]; exact (List.getElem?_eq_some_iff.mp hp).1
          obtain ⟨rv2, hrv2⟩ : ∃ rv2, rvs[k]? = some rv2 := ⟨_, List.getElem?_eq_getElem hk2⟩
          obtain ⟨v', s', oa, _, _, h5, h6⟩ := h3 k rv2 hrv2
          rw [hp] at h5; cases h5
          cases h6 with
          | io z => exact absurd z hk1
          | mv _ _ _ _ z => exact z
        -- the head
        have head : ∃ W2 oa, (∀ q, q ∈ W2 → q ∈ W') ∧ (∀ q, q ∈ W' → q ∈ W0 → q ∈ W2) ∧ (∀ q, q ∈ W' → q ∉ W1 → q ∈ W2) ∧ ArgR K H W2 W0 env A N i rv v s oa ∧ (∀ p, oa = some p → i ∈ N.2 → i ∉ N.1 → p ∈ W1) := by
          unfold argOf at es
          split at es
          · rename_i c
            cases rv with
            | o j =>
              dsimp only at es
              split at es
              · rename_i z hz
                split at es
                · cases es
                · rename_i hd
                  cases es
                  have hd' : s.isD = false := by simpa using hd
                  obtain ⟨a, ha, rfl⟩ := r1
                  obtain ⟨a', ha', _, ow⟩ := E.own j s hz hd'
                  rw [ha] at ha'; cases ha'
                  exact ⟨W', some a, fun _ h => h, fun _ h _ => h, fun _ h _ => h, .io c hz hd' ha (ow.mono (sub_same h1) rfl), fun p e hn hn' => absurd c hn'⟩
              · cases es
            | d _ => cases es
            | n _ => cases es
          · rename_i c
            split at es
            · rename_i c2
              cases rv with
              | n z =>
                dsimp only at es
                split at es
                · cases es
                · rename_i hd
                  cases es
                  have hd' : s.isD = false := by simpa using hd
                  have pw := m
                  obtain ⟨p, rfl, _, hp, np, ow⟩ := r1
                  have pW1 := pw p s rfl rfl
                  exact ⟨W', some p, fun _ h => h, fun _ h _ => h, fun _ h _ => h, .mv c c2 hd' (h2 p hp pW1) np (ow.mono (sub_same h1) rfl), fun q e _ _ => by cases e; exact pW1⟩
              | d _ => cases es
              | o _ => cases es
            · rename_i c2
              obtain ⟨x, ex, e4⟩ := Option.map_eq_some_iff.mp es
              subst e4
              cases rv with
              | d y =>
                cases ex
                exact ⟨W', none, fun _ h => h, fun _ h _ => h, fun _ h _ => h, .d c c2 (dp_mono (sub_same h1) _ r1), fun p e => by cases e⟩
              | o j => cases ex
              | n z =>
                cases z with
                | l zs =>
                  cases ex
                  have pw := m
                  obtain ⟨p, rfl, _, hp, np, ws, hpl, dz⟩ := r1
                  have pW1 := pw p _ rfl rfl
                  refine ⟨rel W' p, none, fun q hq => (mem_rel.mp hq).1, fun q hq z => mem_rel.mpr ⟨hq, fun e => np (by rw [← e]; exact z)⟩, fun q hq z => mem_rel.mpr ⟨hq, fun e => z (by rw [e]; exact pW1)⟩, .d c c2 ?_, fun p e => by cases e⟩
                  exact .lst (.inl (.inl (hw_of (fun z => (mem_rel.mp z).2 rfl) hpl))) (dpa_mono (sub_same fun q hq => h1 q (mem_rel.mp hq).1) _ dz)
                | _ => cases ex
        obtain ⟨W2, oa, g1, g2, g3, g4, g5⟩ := head
        refine ⟨W2, oa :: Ac, fun q hq => h1 q (g1 q hq), fun q hq z => g2 q (h2 q hq (S1.up q z)) z, by simp [l1], by simp [l2], by simp [l3], fun k rv' hk => ?_, fun k k' p hk hk' hn hn' e1 e2 => ?_⟩
        · cases k with
          | zero =>
            simp only [List.getElem?_cons_zero, Option.some.injEq] at hk
            subst hk
            exact ⟨v, s, oa, rfl, rfl, rfl, g4⟩
          | succ k =>
            simp only [List.getElem?_cons_succ] at hk
            obtain ⟨v', s', oa', x1, x2, x3, x4⟩ := h3 k rv' hk
            refine ⟨v', s', oa', x1, x2, x3, ?_⟩
            rw [ix] at x4
            have x5 : ArgR K H W2 W1 env A N (i + (k + 1)) rv' v' s' oa' := by
              refine x4.sub g1 fun p z ez ev hN => ?_
              subst ez ev
              cases x4 with
              | d _ c => exact absurd hN c
              | mv c0 c1 c2 c3 c4 _ => exact g3 _ c3 c4
            cases x5 with
            | d a b c => exact .d a b c
            | io a b c d f => exact .io a b c d f
            | mv a0 a b c d f => exact .mv a0 a b c (fun z => d (S1.up _ z)) f
        · cases k with
          | zero =>
            cases k' with
            | zero => rfl
            | succ k' =>
              simp only [List.getElem?_cons_zero, Option.some.injEq] at e1
              simp only [List.getElem?_cons_succ] at e2
              exact absurd (g5 p e1 hk hn) (mvne k' p (by rw [ix]; exact hk') (by rw [ix]; exact hn') e2)
          | succ k =>
            cases k' with
            | zero =>
              simp only [List.getElem?_cons_zero, Option.some.injEq] at e2
              simp only [List.getElem?_cons_succ] at e1
              exact absurd (g5 p e2 hk' hn') (mvne k p (by rw [ix]; exact hk) (by rw [ix]; exact hn) e1)
            | succ k' =>
              simp only [List.getElem?_cons_succ] at e1 e2
              have := h4 k k' p (by rw [ix]; exact hk) (by rw [ix]; exact hk') (by rw [ix]; exact hn) (by rw [ix]; exact hn') e1 e2
              omega
      · cases e
section
variable {X : Cx} {N : List Nat × List Nat} {n k : Nat} {g : FD} {f : Addr} {fd : FuncData} {ps : List Str} {x : Str} {e : Expr} {es : List Expr} {ta : TDA} {p pos : Pos}
theorem pd_callX {E0 : XK} {ex : Expr} {t1 : TA} (q1 : ∀ (σ : L2.St) (H : Hp) (W : List Addr) (A : List (Option Addr)) (env : En) (Q : List V → Hp → Prop) (Qd : List Rv → En → Prop), EnR X.K H W A env σ → ta env Qd →
    (∀ vs H' W' env' rvs, EnR X.K H' W' A env' σ → Stp A H W H' W' → RvRs X.K H' W' A H W rvs vs → Qd rvs env' → Q vs H') → t1 σ H Q) {sp' : List V → Hp → VK → Prop} (hsp : ∀ vs H Q, spD X.K N n g vs H Q E0 → sp' vs H Q) (p1 : PE X ex (fun σ H Q => t1 σ H fun vs H1 => sp' vs H1 Q)) (hN : N.1.length ≤ 1) : PD X ex (tdCall N n g ta) := by
  refine ⟨_, p1, fun σ H W A env Q Qd E ht kk => ?_⟩
  refine q1 σ H W A env _ _ E ht fun vs H1 W1 env1 rvs E1 S1 R1 q2 => hsp _ _ _ ?_
  split at q2
  · rename_i args ea
    obtain ⟨hln, q2⟩ := q2
    obtain ⟨W', Ac, s1, s2, l1, l2, l3, hA, hI⟩ := R1.args E1 ea
    have one : ∀ i j, i ∈ N.1 → j ∈ N.1 → i = j := fun i j hi hj => by
      cases e1 : N.1 with
      | nil => rw [e1] at hi; cases hi
      | cons a r =>
        cases r with
        | nil => rw [e1] at hi hj; simp at hi hj; omega
        | cons b r => rw [e1] at hN; simp at hN
    have at_ : ∀ (i : Nat), i < rvs.length → ∃ rv v s oa, rvs[i]? = some rv ∧ vs[i]? = some v ∧ args[i]? = some s ∧ Ac[i]? = some oa ∧ ArgR X.K H1 W' W env1 A N i rv v s oa := fun i hi => by
      obtain ⟨v, s, oa, x1, x2, x3, x4⟩ := hA i rvs[i] (by simp [hi])
      rw [Nat.zero_add] at x4
      exact ⟨rvs[i], v, s, oa, by simp [hi], x1, x2, x3, x4⟩
    have ain1 : ∀ a, some a ∈ A → a ∈ W' := fun a ha => s2 a (E1.ain a ha) (E.ain a ha)
    have Ec : EnR X.K H1 W' Ac (args.map some) (vs.map some) := by
      refine ⟨by simp [l1, l2], by simp [l1, l3], fun i x h => ?_, fun i s h hs => ?_, fun i a h => ?_, fun i j a h1 h2 => ?_, fun p hp => E1.trk p (s1 p hp)⟩
      · rw [List.getElem?_map] at h
        obtain ⟨s0, h, e0⟩ := Option.map_eq_some_iff.mp h
        cases e0
        obtain ⟨rv, v, s, oa, x0, x1, x2, x3, x4⟩ := at_ i (by rw [← l1]; exact (List.getElem?_eq_some_iff.mp h).1)
        rw [h] at x2; cases x2
        cases x4 with
        | d _ _ d => exact ⟨x3, v, by rw [List.getElem?_map, x1]; rfl, d⟩
        | io _ _ hd _ _ => cases hd
        | mv _ _ hd _ _ _ => cases hd
      · rw [List.getElem?_map] at h
        obtain ⟨s0, h, e0⟩ := Option.map_eq_some_iff.mp h
        cases e0
        obtain ⟨rv, v, s', oa, x0, x1, x2, x3, x4⟩ := at_ i (by rw [← l1]; exact (List.getElem?_eq_some_iff.mp h).1)
        rw [h] at x2; cases x2
        cases x4 with
        | d _ _ d => cases hs
        | io _ _ hd _ ow => exact ⟨_, x3, by rw [List.getElem?_map, x1]; rfl, ow⟩
        | mv _ _ hd _ _ ow => exact ⟨_, x3, by rw [List.getElem?_map, x1]; rfl, ow⟩
      · obtain ⟨rv, v, s, oa, x0, x1, x2, x3, x4⟩ := at_ i (by rw [← l3]; exact (List.getElem?_eq_some_iff.mp h).1)
        rw [h] at x3; cases x3
        cases x4 with
        | io _ _ hd hA _ => exact ⟨ain1 a (List.mem_of_getElem? hA), s, by rw [List.getElem?_map, x2]; rfl, hd⟩
        | mv _ _ hd hp _ _ => exact ⟨hp, s, by rw [List.getElem?_map, x2]; rfl, hd⟩
      · obtain ⟨rv, v, s, oa, x0, x1, x2, x3, x4⟩ := at_ i (by rw [← l3]; exact (List.getElem?_eq_some_iff.mp h1).1)
        obtain ⟨rv', v', s', oa', y0, y1, y2, y3, y4⟩ := at_ j (by rw [← l3]; exact (List.getElem?_eq_some_iff.mp h2).1)
        have h1' := h1
        have h2' := h2
        rw [h1] at x3; cases x3
        rw [h2] at y3; cases y3
        cases x4 with
        | io hi _ _ hA _ =>
          cases y4 with
          | io hj _ _ _ _ => exact one i j hi hj
          | mv _ _ _ _ hn _ => exact absurd (E.ain a (List.mem_of_getElem? hA)) hn
        | mv hi1 hi2 _ _ hn _ =>
          cases y4 with
          | io hj _ _ hA _ => exact absurd (E.ain a (List.mem_of_getElem? hA)) hn
          | mv hj1 hj2 _ _ _ _ => exact hI i j a (by rw [Nat.zero_add]; exact hi2) (by rw [Nat.zero_add]; exact hj2) (by rw [Nat.zero_add]; exact hi1) (by rw [Nat.zero_add]; exact hj1) h1' h2'
    have hAc : ∀ (i : Nat) (a : Addr), Ac[i]? = some (some a) → (i ∈ N.1 ∧ some a ∈ A) ∨ (i ∈ N.2 ∧ a ∉ W) := fun i a h => by
      obtain ⟨rv, v, s, oa, x0, x1, x2, x3, x4⟩ := at_ i (by rw [← l3]; exact (List.getElem?_eq_some_iff.mp h).1)
      rw [h] at x3; cases x3
      cases x4 with
      | io hi _ _ hA _ => exact .inl ⟨hi, List.mem_of_getElem? hA⟩
      | mv _ hi _ _ hn _ => exact .inr ⟨hi, hn⟩
    have E' := E1.sub s1 ain1
    have S' := S1.sub s1 s2
    refine ⟨W', Ac, args, _, hln, Ec, fun i a h => (hAc i a h).imp (·.1) (·.1), q2, fun s os q v H2 W2 bk rt => ?_⟩
    -- behind the call
    have S2 : Stp A H W H2 W2 := by
      refine ⟨fun b o h n => bk.old b o (S'.ext b o h n) fun z => ?_, fun b h => bk.there b (S'.there b h), fun p h => bk.up p (S'.up p h), fun p h => ?_⟩
      · obtain ⟨i, hi⟩ := List.mem_iff_getElem?.mp z
        rcases hAc i b hi with ⟨_, c⟩ | ⟨c1, c2⟩
        · exact n c
        · obtain ⟨rv, v, s, oa, x0, x1, x2, x3, x4⟩ := at_ i (by rw [← l3]; exact (List.getElem?_eq_some_iff.mp hi).1)
          rw [hi] at x3; cases x3
          cases x4 with
          | io _ _ _ hA _ => exact n (List.mem_of_getElem? hA)
          | mv _ _ _ hp hn _ =>
            rcases S'.fr b hp with z | z
            · exact hn z
            · rw [z.1] at h; cases h
      · rcases bk.fr p h with z | z
        · rcases S'.fr p z with y | y
          · exact .inl y
          · exact .inr ⟨y.1, bk.there p y.2⟩
        · exact .inr ⟨S'.back z.1, z.2⟩
    have sm : Same (HW H1 W') (HW H2 W2) := fun b o e => by
      obtain ⟨n, e⟩ := hw_some e
      refine hw_of (fun z => ?_) (bk.old b o e fun z => ?_)
      · rcases bk.fr b z with y | y
        · exact n y
        · rw [y.1] at e; cases e
      · obtain ⟨i, hi⟩ := List.mem_iff_getElem?.mp z
        exact n (Ec.back i b hi).1
    have E2 : EnR X.K H2 W2 A (outE N rvs os env1) σ := by
      have base : (∀ a, some a ∈ A → some a ∉ Ac → H2 a = H1 a) := fun a ha hn => by
        obtain ⟨i, hi⟩ := List.mem_iff_getElem?.mp ha
        obtain ⟨_, s, hs, hd⟩ := E1.back i a hi
        obtain ⟨a', h1, _, ow⟩ := E1.own i s hs hd
        rw [hi] at h1; cases h1
        obtain ⟨o, e⟩ := ow.ex
        rw [e]; exact bk.old a o e hn
      have trk2 : ∀ p, p ∈ W2 → H2 p ≠ none := fun p hp => (bk.fr p hp).elim (fun z => bk.there p (E'.trk p z)) (·.2)
      -- all names but the one that was lent
      have lent : ∀ (j : Nat), (∀ i a, i ∈ N.1 → Ac[i]? = some (some a) → A[j]? ≠ some (some a)) → ∀ (s : Sl), env1[j]? = some (some s) → s.isD = false → ∃ a : Addr, A[j]? = some (some a) ∧ σ[j]? = some (some (.ref a)) ∧ OwR X.K H2 W2 a s := fun j hj s hs hd => by
        obtain ⟨a, x1, x2, x3⟩ := E'.own j s hs hd
        refine ⟨a, x1, x2, x3.mono sm (base a (List.mem_of_getElem? x1) fun z => ?_)⟩
        obtain ⟨i, hi⟩ := List.mem_iff_getElem?.mp z
        rcases hAc i a hi with ⟨c, _⟩ | ⟨_, c⟩
        · exact hj i a c hi x1
        · exact c (E.ain a (List.mem_of_getElem? x1))
      have plain : (∀ i a, i ∈ N.1 → Ac[i]? ≠ some (some a)) → EnR X.K H2 W2 A env1 σ := fun hno =>
        ⟨E1.len, E1.lenA, fun i x h => by
          obtain ⟨x1, v, x2, x3⟩ := E'.dat i x h
          exact ⟨x1, v, x2, dp_mono sm _ x3⟩, fun i s h hs => lent i (fun i' a hi ha => absurd ha (hno i' a hi)) s h hs, fun i a h => by
          obtain ⟨x1, x2⟩ := E'.back i a h
          exact ⟨bk.up a x1, x2⟩, E1.inj, trk2⟩
      cases eN : N.1 with
      | nil =>
        unfold outE
        rw [eN]
        exact plain fun i a hi => by rw [eN] at hi; cases hi
      | cons i0 r =>
        cases r with
        | cons b r => rw [eN] at hN; simp at hN
        | nil =>
          unfold outE
          rw [eN]
          dsimp only
          have hi0 : i0 ∈ N.1 := by rw [eN]; simp
          have only : ∀ i, i ∈ N.1 → i = i0 := fun i hi => one i i0 hi hi0
          cases er : rvs[i0]? with
          | none =>
            exact plain fun i a hi h => by
              rw [only i hi] at h
              have := (List.getElem?_eq_some_iff.mp h).1
              rw [l3] at this
              rw [List.getElem?_eq_none_iff] at er
              omega
          | some rv =>
            obtain ⟨rv', v', s', oa', y0, y1, y2, y3, y4⟩ := at_ i0 (List.getElem?_eq_some_iff.mp er).1
            rw [er] at y0; cases y0
            cases y4 with
            | d c _ _ => exact absurd hi0 c
            | mv c _ _ _ _ _ => exact absurd hi0 c
            | @io j s' a c hs' hd' hA' ow' =>
              obtain ⟨sn, e1, e2, e3⟩ := bk.io i0 hi0 a y3
              rw [e1]
              have hj : j < env1.length := (List.getElem?_eq_some_iff.mp hs').1
              obtain ⟨_, _, vj, _⟩ := E1.own j s' hs' hd'
              refine ⟨by simp [E1.len], by simp [E1.lenA], fun i x h => ?_, fun i s h hs => ?_, fun i b h => ?_, E1.inj, trk2⟩
              · rw [set_get] at h
                by_cases cc : j = i
                · subst cc
                  rw [if_pos rfl, if_pos hj] at h
                  cases h
                  cases e2
                · rw [if_neg cc] at h
                  obtain ⟨x1, v, x2, x3⟩ := E'.dat i x h
                  exact ⟨x1, v, x2, dp_mono sm _ x3⟩
              · rw [set_get] at h
                by_cases cc : j = i
                · subst cc
                  rw [if_pos rfl, if_pos hj] at h
                  cases h
                  obtain ⟨a', z1, z2, _⟩ := E1.own j s' hs' hd'
                  rw [hA'] at z1; cases z1
                  exact ⟨a, hA', z2, e3⟩
                · rw [if_neg cc] at h
                  refine lent i (fun i' b hi hb hz => ?_) s h hs
                  rw [only i' hi, y3] at hb
                  cases hb
                  exact cc (E1.inj j i a hA' hz)
              · obtain ⟨x1, z, x2, x3⟩ := E'.back i b h
                refine ⟨bk.up b x1, ?_⟩
                rw [set_get]
                by_cases cc : j = i
                · subst cc
                  rw [if_pos rfl, if_pos hj]
                  exact ⟨sn, rfl, e2⟩
                · rw [if_neg cc]
                  exact ⟨z, x2, x3⟩
    refine kk v H2 W2 _ (rvOf s) E2 S2 ?_ q
    cases s with
    | d y => exact rt
    | l _ => obtain ⟨p, e1, e2, e3, e4⟩ := rt; exact ⟨p, e1, S'.back e2, e3, fun z => E.trk p z (S'.back e2), e4⟩
    | m _ => obtain ⟨p, e1, e2, e3, e4⟩ := rt; exact ⟨p, e1, S'.back e2, e3, fun z => E.trk p z (S'.back e2), e4⟩
    | t _ => obtain ⟨p, e1, e2, e3, e4⟩ := rt; exact ⟨p, e1, S'.back e2, e3, fun z => E.trk p z (S'.back e2), e4⟩
    | g _ _ => obtain ⟨p, e1, e2, e3, e4⟩ := rt; exact ⟨p, e1, S'.back e2, e3, fun z => E.trk p z (S'.back e2), e4⟩
  · exact q2.elim
theorem pd_callP {E0 : XK} (h : ∀ t : TA, PA X (e :: es) t → PE X (.Call (.Name x p) (e :: es) [] pos) (tCall (spD X.K N n g) [] E0 t)) (ha : PDA X (e :: es) ta) (hN : N.1.length ≤ 1) :
    PD X (.Call (.Name x p) (e :: es) [] pos) (tdCall N n g ta) := by
  obtain ⟨t1, p1, q1⟩ := ha
  exact pd_callX q1 (sp' := fun vs H Q => spD X.K N n g (vs ++ []) H Q E0) (fun vs H Q q => by rw [List.append_nil]; exact q) (h _ p1) hN
theorem pd_call (F : FnOk X.prog X.w X.K X.mg X.base CX0 k f fd ps (spD X.K N n g)) (hr : Room k X.A) (hg : Gl X x) (hm : X.mg x = some (.ref f)) (hk : PySem.W.keepIn X.K (.ref f) = true) (hb : Binds X.K fd ps [])
    (ha : PDA X (e :: es) ta) (hN : N.1.length ≤ 1 := by decide) (hdb : (x == ("__debug__" : Str)) = false := by decide) (he : starEach (e :: es) X.env = (false, eval e X.env) :: starEach es X.env := by rfl) (hpl : (backTo pos (starEach es X.env)).any (·.1) = false := by rfl) :
    PD X (.Call (.Name x p) (e :: es) [] pos) (tdCall N n g ta) := pd_callP (E0 := fun _ _ _ => False) (fun _ p1 => pe_call F hr hg hm hk hb .nil pass0 p1 hdb he hpl) ha hN
end
end DL

set_option Elab.async false
set_option linter.all false
set_option maxRecDepth 100000
set_option maxHeartbeats 4000000
set_option autoImplicit false
namespace DL
open PySem PySem.Spec L2

/-! ### one reading for a family of contexts -/
def upE (K : PySem.W.Frag) (t : TD) : TE := fun σ H Q => ∃ (W : List Addr) (A : List (Option Addr)) (env : En) (Qd : Rv → En → Prop), EnR K H W A env σ ∧ t env Qd ∧ ∀ v H' W' env' rv, EnR K H' W' A env' σ → Stp A H W H' W' → RvR K H W H' W' A rv v → Qd rv env' → Q v H'
def upT (K : PySem.W.Frag) (t : TDT) : TT := fun σ H Q => ∃ (W : List Addr) (A : List (Option Addr)) (env : En) (Qd : Bool → En → Prop), EnR K H W A env σ ∧ t env Qd ∧ ∀ b H' W' env', EnR K H' W' A env' σ → Stp A H W H' W' → Qd b env' → Q b H'
theorem PD.up {X : Cx} {e : Expr} {t : TD} (h : PD X e t) : PE X e (upE X.K t) := by
  obtain ⟨t1, p1, q1⟩ := h
  exact ⟨fun pins s σ H Q I ⟨W, A, env, Qd, E, ht, k⟩ => p1.run pins s σ H Q I (q1 σ H W A env Q Qd E ht k)⟩
def PDTs (X : Cx) (ifs : List Expr) (t : TDT) : Prop := PTs X ifs (upT X.K t)
def tdYes : TDT := fun env Q => Q true env
theorem pdts_nil {X : Cx} : PDTs X [] tdYes := ⟨fun pins s σ H Q I ⟨W, A, env, Qd, E, ht, k⟩ => pts_nil.run pins s σ H Q I (k true H W env E .refl ht)⟩
theorem pdts_one {X : Cx} {c : Expr} {t : TDT} (h : PDT X c t) : PDTs X [c] t := by
  obtain ⟨t1, p1, q1⟩ := h
  exact ⟨fun pins s σ H Q I ⟨W, A, env, Qd, E, ht, k⟩ => (pts_one p1).run pins s σ H Q I (q1 σ H W A env Q Qd E ht k)⟩

/-! ### the target of a comprehension -/
abbrev TDC := PyData → En → (En → Prop) → Prop
abbrev TDCs := List PyData → En → (En → Prop) → Prop
def upG (K : PySem.W.Frag) (T : List Nat) (t : TDC) : TG := fun v σ H Q => ∃ (W : List Addr) (A : List (Option Addr)) (env : En) (x : PyData) (Qd : En → Prop), EnR K H W A env σ ∧ Dp K (HW H W) v x ∧ t x env Qd ∧
  ∀ σ' env', EnR K H W A env' σ' → (∀ vs : List Nat, (∀ i, i ∈ T → i ∈ vs) → wipe σ' vs = wipe σ vs) → Qd env' → Q σ' H
def upGs (K : PySem.W.Frag) (T : List Nat) (t : TDCs) : TGs := fun vs σ H Q => ∃ (W : List Addr) (A : List (Option Addr)) (env : En) (xs : List PyData) (Qd : En → Prop), EnR K H W A env σ ∧ DpAll K (HW H W) vs xs ∧ t xs env Qd ∧
  ∀ σ' env', EnR K H W A env' σ' → (∀ vs : List Nat, (∀ i, i ∈ T → i ∈ vs) → wipe σ' vs = wipe σ vs) → Qd env' → Q σ' H
def PDC (X : Cx) (T : List Nat) (tg : Expr) (t : TDC) : Prop := PG X tg (upG X.K T t)
def PDCs (X : Cx) (T : List Nat) (tgs : List Expr) (t : TDCs) : Prop := PGs X tgs (upGs X.K T t)
def gcName (i : Nat) : TDC := fun x env Q => env[i]? = some none ∧ Q (env.set i (some (.d x)))
def gcNil : TDCs := fun xs env Q => match xs with
  | [] => Q env
  | _ => False
def gcCons (t : TDC) (u : TDCs) : TDCs := fun xs env Q => match xs with
  | x :: r => t x env fun env1 => u r env1 Q
  | [] => False
def gcTup (n : Nat) (t : TDCs) : TDC := fun x env Q => match x with
  | .tuple xs => xs.length = n ∧ t xs env Q
  | _ => False
theorem wipe_get (σ : L2.St) : ∀ (vs : List Nat) (j : Nat), (wipe σ vs)[j]? = if j ∈ vs ∧ j < σ.length then some none else σ[j]?
  | [], j => by simp [wipe]
  | v :: vs, j => by
    show ((wipe σ vs).set v none)[j]? = _
    rw [set_get, wipe_get σ vs j, wipe_length]
    by_cases c : v = j
    · subst c
      by_cases d : v < σ.length
      · simp [d]
      · simp [d]
    · have : j ≠ v := fun e => c e.symm
      simp [c, this]
theorem wipe_eq {σ σ' : L2.St} {vs : List Nat} (h : ∀ j, j ∉ vs → σ'[j]? = σ[j]?) (hl : σ'.length = σ.length) : wipe σ' vs = wipe σ vs := by
  refine List.ext_getElem? fun j => ?_
  rw [wipe_get, wipe_get, hl]
  by_cases c : j ∈ vs ∧ j < σ.length
  · rw [if_pos c, if_pos c]
  · rw [if_neg c, if_neg c]
    by_cases d : j ∈ vs
    · have : ¬ j < σ.length := fun z => c ⟨d, z⟩
      rw [List.getElem?_eq_none (by omega), List.getElem?_eq_none (by omega)]
    · exact h j d
section
variable {K : PySem.W.Frag} {H H' : Hp} {W W' : List Addr} {A : List (Option Addr)} {env env' : En} {σ σ' : L2.St} {vs : List Nat}
theorem EnR.noneA (E : EnR K H W A env σ) {i : Nat} (h : env[i]? = some none) : A.set i none = A := by
  refine List.ext_getElem? fun j => ?_
  rw [set_get]
  by_cases c : i = j
  · subst c
    have hi : i < A.length := by rw [E.lenA]; exact (List.getElem?_eq_some_iff.mp h).1
    rw [if_pos rfl, if_pos hi, List.getElem?_eq_getElem hi]
    cases e : A[i] with
    | none => rfl
    | some a =>
      obtain ⟨_, s, hs, _⟩ := E.back i a (by rw [List.getElem?_eq_getElem hi, e])
      rw [h] at hs; cases hs
  · rw [if_neg c]
end
section
variable {X : Cx} {T T1 T2 : List Nat} {tg e : Expr} {es : List Expr} {t : TDC} {u : TDCs} {pos : Pos}
theorem pdc_name {i : Nat} {x : Str} (h : PG X (.Name x pos) (gName i)) : PDC X [i] (.Name x pos) (gcName i) := by
  refine ⟨fun pins s σ H v w Q I r ⟨W, A, env, y, Qd, E, d, ⟨h1, h2⟩, k⟩ => h.run pins s σ H v w Q I r ?_⟩
  have hi : i < env.length := (List.getElem?_eq_some_iff.mp h1).1
  have E2 := E.setD hi d
  rw [E.noneA h1] at E2
  refine k _ _ E2 (fun vs hv => wipe_eq (fun j hj => ?_) (by simp)) h2
  rw [set_get, if_neg fun c => hj (by rw [← c]; exact hv i (by simp))]
theorem pdcs_nil : PDCs X [] [] gcNil := by
  refine ⟨fun pins s σ H vs us Q I r ⟨W, A, env, xs, Qd, E, d, ht, k⟩ => pgs_nil.run pins s σ H vs us Q I r ?_⟩
  cases d with
  | nil => exact ⟨rfl, k σ env E (fun _ _ => rfl) ht⟩
  | cons _ _ => exact ht.elim
theorem pdcs_cons (h1 : PDC X T1 e t) (h2 : PDCs X T2 es u) (hs : (assignEach (e :: es) X.env).map (·.2) = assign e X.env :: (assignEach es X.env).map (·.2) := by rfl) : PDCs X (T1 ++ T2) (e :: es) (gcCons t u) := by
  refine ⟨fun pins s σ H vs us Q I r ⟨W, A, env, xs, Qd, E, d, ht, k⟩ => (pgs_cons h1 h2 hs).run pins s σ H vs us Q I r ?_⟩
  cases d with
  | nil => exact ht.elim
  | cons d1 d2 =>
    refine ⟨_, _, rfl, W, A, env, _, _, E, d1, ht, fun σ1 env1 E1 w1 h3 => ⟨W, A, env1, _, _, E1, d2, h3, fun σ2 env2 E2 w2 h4 => k σ2 env2 E2 (fun vs hv => ?_) h4⟩⟩
    rw [w2 vs fun i hi => hv i (List.mem_append_right _ hi), w1 vs fun i hi => hv i (List.mem_append_left _ hi)]
theorem pdc_tup {k n : Nat} (hc : X.calm = true) (h : PDCs X T es u) (hn : (assignEach es X.env).length = n := by rfl) (hst : (assignEach es X.env).findIdx? (·.1) = none := by rfl) : PDC X T (.Tuple es k pos) (gcTup n u) := by
  refine ⟨fun pins s σ H v w Q I r ⟨W, A, env, x, Qd, E, d, ht, k⟩ => (pg_tup hc h hn hst).run pins s σ H v w Q I r ?_⟩
  cases x with
  | tuple xs =>
    cases d with
    | tup sq dl => exact ⟨_, _, rfl, same_t hw_same sq, dl.len.trans ht.1, W, A, env, xs, Qd, E, dl, ht.2, k⟩
  | _ => exact ht.elim
end

/-! ### comprehensions -/
def wipeE (env : En) : List Nat → En
  | [] => env
  | v :: vs => (wipeE env vs).set v none
def mergeE (env env' : En) : List Nat → En
  | [] => env'
  | v :: vs => (mergeE env env' vs).set v (match env[v]? with
    | some s => s
    | none => none)
def noOwn (env : En) : List Nat → Prop
  | [] => True
  | v :: vs => (match env[v]? with
    | some (some s) => s.isD = true
    | _ => True) ∧ noOwn env vs
theorem noOwn_at {env : En} {v : Nat} {s : Sl} (e : env[v]? = some (some s)) : ∀ (vs : List Nat), noOwn env vs → v ∈ vs → s.isD = true := by
  intro vs
  induction vs with
  | nil => intro _ h; exact absurd h (by simp)
  | cons w r ih =>
    intro h hv
    by_cases c : v = w
    · subst c
      have h1 := h.1
      simp only [e] at h1
      exact h1
    · exact ih h.2 ((List.mem_cons.mp hv).resolve_left c)
theorem wipeE_get (env : En) : ∀ (vs : List Nat) (j : Nat), (wipeE env vs)[j]? = if j ∈ vs ∧ j < env.length then some none else env[j]?
  | [], j => by simp [wipeE]
  | v :: vs, j => by
    have hl : ∀ vs : List Nat, (wipeE env vs).length = env.length := fun vs => by
      induction vs with
      | nil => rfl
      | cons a r ih => show ((wipeE env r).set a none).length = _; rw [List.length_set, ih]
    show ((wipeE env vs).set v none)[j]? = _
    rw [set_get, wipeE_get env vs j, hl]
    by_cases c : v = j
    · subst c
      by_cases d : v < env.length
      · simp [d]
      · simp [d]
    · have : j ≠ v := fun e => c e.symm
      simp [c, this]
theorem wipeE_len (env : En) : ∀ vs : List Nat, (wipeE env vs).length = env.length
  | [] => rfl
  | v :: vs => by show ((wipeE env vs).set v none).length = _; rw [List.length_set, wipeE_len env vs]
theorem mergeE_len (env env' : En) : ∀ vs : List Nat, (mergeE env env' vs).length = env'.length
  | [] => rfl
  | v :: vs => by unfold mergeE; rw [List.length_set, mergeE_len env env' vs]
theorem mergeE_get (env env' : En) (hl : env'.length = env.length) : ∀ (vs : List Nat) (j : Nat), (mergeE env env' vs)[j]? = if j ∈ vs then env[j]? else env'[j]?
  | [], j => by simp [mergeE]
  | v :: vs, j => by
    unfold mergeE
    rw [set_get, mergeE_get env env' hl vs j, mergeE_len]
    by_cases c : v = j
    · subst c
      simp only [if_true, List.mem_cons, true_or]
      by_cases d : v < env'.length
      · rw [if_pos d, List.getElem?_eq_getElem (show v < env.length by omega)]
      · rw [if_neg d, List.getElem?_eq_none (by omega)]
    · have : j ≠ v := fun e => c e.symm
      simp [c, this]
section
variable {K : PySem.W.Frag} {H H' : Hp} {W W' : List Addr} {A : List (Option Addr)} {env env' : En} {σ σ' : L2.St} {vs : List Nat}
theorem EnR.notA (E : EnR K H W A env σ) (hn : noOwn env vs) {i : Nat} {a : Addr} (hi : i ∈ vs) : A[i]? ≠ some (some a) := fun e => by
  obtain ⟨_, s, hs, hd⟩ := E.back i a e
  rw [noOwn_at hs vs hn hi] at hd; cases hd
theorem EnR.wipe (E : EnR K H W A env σ) (hn : noOwn env vs) : EnR K H W A (wipeE env vs) (L2.wipe σ vs) := by
  refine ⟨by rw [wipeE_len, wipe_length]; exact E.len, by rw [wipeE_len]; exact E.lenA, fun i x h => ?_, fun i s h hs => ?_, fun i a h => ?_, E.inj, E.trk⟩
  · rw [wipeE_get] at h
    split at h
    · cases h
    · rename_i c
      obtain ⟨x1, v, x2, x3⟩ := E.dat i x h
      refine ⟨x1, v, ?_, x3⟩
      rw [wipe_get, E.len, if_neg c]
      exact x2
  · rw [wipeE_get] at h
    split at h
    · cases h
    · rename_i c
      obtain ⟨a, x1, x2, x3⟩ := E.own i s h hs
      refine ⟨a, x1, ?_, x3⟩
      rw [wipe_get, E.len, if_neg c]
      exact x2
  · obtain ⟨x1, s, x2, x3⟩ := E.back i a h
    refine ⟨x1, s, ?_, x3⟩
    rw [wipeE_get, if_neg fun c => E.notA hn c.1 h]
    exact x2
theorem EnR.merge (E : EnR K H W A env σ) (E' : EnR K H' W' A env' σ') (S : Stp A H W H' W') (hw : L2.wipe σ' vs = L2.wipe σ vs) (hn : noOwn env vs) : EnR K H' W' A (mergeE env env' vs) σ := by
  have hl : env'.length = env.length := by rw [← E'.lenA, ← E.lenA]
  have hσ : ∀ j, j ∉ vs → σ'[j]? = σ[j]? := fun j hj => by
    have := congrArg (fun l => l[j]?) hw
    simp only [wipe_get, hj, false_and, if_false] at this
    exact this
  refine ⟨by rw [mergeE_len, hl]; exact E.len, by rw [mergeE_len]; exact E'.lenA, fun i x h => ?_, fun i s h hs => ?_, fun i a h => ?_, E.inj, E'.trk⟩
  · rw [mergeE_get env env' hl] at h
    split at h
    · obtain ⟨x1, v, x2, x3⟩ := E.dat i x h
      exact ⟨x1, v, x2, S.dp E.ain x3⟩
    · rename_i c
      obtain ⟨x1, v, x2, x3⟩ := E'.dat i x h
      exact ⟨x1, v, by rw [← hσ i c]; exact x2, x3⟩
  · rw [mergeE_get env env' hl] at h
    split at h
    · rename_i c
      rw [noOwn_at h vs hn c] at hs; cases hs
    · rename_i c
      obtain ⟨a, x1, x2, x3⟩ := E'.own i s h hs
      exact ⟨a, x1, by rw [← hσ i c]; exact x2, x3⟩
  · obtain ⟨x1, s, x2, x3⟩ := E'.back i a h
    refine ⟨x1, s, ?_, x3⟩
    rw [mergeE_get env env' hl, if_neg fun c => E.notA hn c h]
    exact x2
end
theorem EnR.hid {K : PySem.W.Frag} {H : Hp} {W : List Addr} {A : List (Option Addr)} {env : En} {σ : L2.St} {D : Addr} {o : HO} (E : EnR K H W A env σ) (hD : D ∈ W) (hA : some D ∉ A) : EnR K (upd H D o) W A env σ := by
  refine ⟨E.len, E.lenA, fun i x h => ?_, fun i s h hs => ?_, E.back, E.inj, fun p hp => ?_⟩
  · obtain ⟨x1, v, x2, x3⟩ := E.dat i x h
    exact ⟨x1, v, x2, by rw [hw_upd hD]; exact x3⟩
  · obtain ⟨a, x1, x2, x3⟩ := E.own i s h hs
    exact ⟨a, x1, x2, x3.mono (by rw [hw_upd hD]; exact Same.refl _) (upd_ne fun z => hA (by rw [← z]; exact List.mem_of_getElem? x1))⟩
  · by_cases c : p = D
    · rw [c, upd_same]; simp
    · rw [upd_ne c]; exact E.trk p hp
/-- [elt for target in iter if ..] -/
def tdLc (ti : TDI) (g : TDC) (tt : TDT) (te : TD) (vs : List Nat) : TD := fun env Q => ti env fun xs env1 => ∃ Pv : Nat → List PyData → En → Prop, Pv 0 [] env1 ∧
  (∀ i x acc env, xs[i]? = some x → Pv i acc env → noOwn env vs ∧ g x (wipeE env vs) fun env2 => tt env2 fun b env3 => if b = true then te env3 fun rv env4 => (match rvD rv with
    | some y => acc.length < sizeLine ∧ Pv (i + 1) (acc ++ [y]) (mergeE env env4 vs)
    | none => False) else Pv (i + 1) acc (mergeE env env3 vs)) ∧
  ∀ acc env, Pv xs.length acc env → Q (.n (.l acc)) env
section
variable {X : Cx} {T : List Nat} {tg iter elt : Expr} {ifs : List Expr} {scope : Scope} {own : List (Str × Nat)} {pos spos : Pos} {ti : TDI} {g : TDC} {tt : TDT} {te : TD}
theorem lc_go {wi : TI} {σ : L2.St} {H : Hp} {W : List Addr} {A : List (Option Addr)} {env : En} {Q : VK} {Qd : Rv → En → Prop} {vs : List Nat} (hT : ∀ i, i ∈ T → i ∈ vs)
    (q1 : ∀ (σ : L2.St) (H : Hp) (W : List Addr) (A : List (Option Addr)) (env : En) (R : It → Hp → Prop) (Qd : List PyData → En → Prop), EnR X.K H W A env σ → ti env Qd → (∀ J H' W' env' xs, EnR X.K H' W' A env' σ → Stp A H W H' W' → Walk X.K J (HW H' W') xs → Qd xs env' → R J H') → wi σ H R)
    (E : EnR X.K H W A env σ) (ht : tdLc ti g tt te vs env Qd) (k : ∀ v H' W' env' rv, EnR X.K H' W' A env' σ → Stp A H W H' W' → RvR X.K H W H' W' A rv v → Qd rv env' → Q v H') :
    tLc wi (upG X.K T g) (upT X.K tt) (upE X.K te) vs σ H Q := by
  refine q1 σ H W A env _ _ E ht fun J H1 W1 env1 xs E1 S1 Wk h1 => ?_
  obtain ⟨Pv, h0, hs, hd⟩ := h1
  intro D hD
  have nDA : some D ∉ A := fun z => E1.trk D (E1.ain D z) hD
  have nDW : D ∉ W1 := fun z => E1.trk D z hD
  have g0 : Grow H1 W1 (upd H1 D (.lst [])) (D :: W1) := grow_own hD
  refine ⟨fun i m H2 => m = xs.length - i ∧ i ≤ xs.length ∧ ∃ W2 env2 acc accV, EnR X.K H2 W2 A env2 σ ∧ D ∈ W2 ∧ H2 D = some (.lst accV) ∧ DpAll X.K (HW H2 W2) accV acc ∧ Stp A H1 W1 H2 W2 ∧ Pv i acc env2,
    ⟨_, rfl, Nat.zero_le _, D :: W1, env1, [], [], g0.en E1, List.mem_cons_self, upd_same, .nil, g0.stp, h0⟩, ?_⟩
  rintro i m H2 ⟨rfl, hle, W2, env2, acc, accV, E2, hDW, hDl, dacc, S2, hP⟩
  obtain ⟨wg, ws⟩ := Wk H2 W2 (S2.same E1.ain) E2.trk i
  by_cases hlt : i < xs.length
  · obtain ⟨go, yl⟩ := wg xs[i] (by simp [hlt])
    refine .inr ⟨go, fun H' => ∃ W2 env2 acc accV, EnR X.K H' W2 A env2 σ ∧ D ∈ W2 ∧ H' D = some (.lst accV) ∧ DpAll X.K (HW H' W2) accV acc ∧ Stp A H1 W1 H' W2 ∧ Pv (i + 1) acc env2, fun H' q => ⟨xs.length - (i + 1), by omega, rfl, hlt, q⟩, fun v H3 y => ?_⟩
    obtain ⟨gr, dv⟩ := yl v H3 y
    obtain ⟨hno, hg⟩ := hs i xs[i] acc env2 (by simp [hlt]) hP
    have E3 := (gr.en E2)
    refine ⟨W2, A, wipeE env2 vs, xs[i], _, E3.wipe hno, dv, hg, fun σ4 env4 E4 w4 h4 => ?_⟩
    have hw4 : L2.wipe σ4 vs = L2.wipe σ vs := by
      rw [w4 vs hT]
      exact wipe_eq (fun j hj => by rw [wipe_get]; simp [hj]) (wipe_length _ _)
    refine ⟨hw4, W2, A, env4, _, E4, h4, fun b H5 W5 env5 E5 S5 h5 => ?_⟩
    have Sg : Stp A H2 W2 H5 W5 := gr.stp.trans S5
    have keepD : ∀ {H6 : Hp} {W6 : List Addr}, Stp A H2 W2 H6 W6 → H6 D = some (.lst accV) ∧ D ∈ W6 ∧ DpAll X.K (HW H6 W6) accV acc := fun {H6 W6} S => ⟨S.ext D _ hDl nDA, S.up D hDW, S.dpa E2.ain dacc⟩
    cases b with
    | false =>
      obtain ⟨k1, k2, k3⟩ := keepD Sg
      exact ⟨W5, _, acc, accV, E2.merge E5 Sg hw4 hno, k2, k1, k3, S2.trans Sg, h5⟩
    | true =>
      refine ⟨W5, A, env5, _, E5, h5, fun u H6 W6 env6 rv E6 S6 R6 h6 => ?_⟩
      split at h6
      · rename_i y ey
        have S26 := Sg.trans S6
        obtain ⟨W7, s1, s2, d⟩ := R6.keepD S6 ey
        obtain ⟨k1, k2, k3⟩ := keepD S26
        have hD7 : D ∈ W7 := s2 D k2 (Sg.up D hDW)
        have S7 : Stp A H2 W2 H6 W7 := S26.sub s1 fun q hq hq0 => s2 q hq (Sg.up q hq0)
        have E7 := E6.sub s1 fun a ha => s2 a (E6.ain a ha) (E5.ain a ha)
        have E8 := E2.merge E7 S7 hw4 hno
        refine ⟨accV, k1, by rw [k3.len]; exact h6.1, W7, _, acc ++ [y], accV ++ [u], ?_, hD7, upd_same, ?_, ?_, h6.2⟩
        · exact E8.hid hD7 nDA
        · rw [hw_upd hD7]
          exact (dpa_mono (sub_same s1) _ k3).app (.cons d .nil)
        · have S8 := S2.trans S7
          refine ⟨fun b o h n => ?_, fun b h => ?_, S8.up, fun p hp => ?_⟩
          · have c : b ≠ D := fun z => by rw [z, hD] at h; cases h
            rw [upd_ne c]
            exact S8.ext b o h n
          · by_cases c : b = D
            · rw [c, upd_same]; simp
            · rw [upd_ne c]; exact S8.there b h
          · rcases S8.fr p hp with z | z
            · exact .inl z
            · refine .inr ⟨z.1, ?_⟩
              by_cases c : p = D
              · rw [c, upd_same]; simp
              · rw [upd_ne c]; exact z.2
      · exact h6.elim
  · have e : i = xs.length := by omega
    subst e
    refine .inl ⟨ws (Nat.le_refl _), ?_⟩
    refine k (.ref D) H2 W2 env2 (.n (.l acc)) E2 (S1.trans S2) ⟨D, rfl, S1.back hD, hDW, fun z => nDW (S1.up D z), accV, hDl, dacc⟩ (hd acc env2 hP)
theorem pd_lc (hc : X.calm = true) (hN : X.N.Nodup) (hi : PDI X tg iter ti) (ok : BlkOk X.N X.env.scope scope own) (hT : ∀ i, i ∈ T → i ∈ own.map (·.2))
    (hg : ∀ (s : Shared) (H : Hp) (C : Addr) (cl : List (Str × Addr)) (fp : List Addr), PDC (X.blk s H scope (compEnvC scope cl C X.env) fp) T tg g) (ht : ∀ (s : Shared) (H : Hp) (C : Addr) (cl : List (Str × Addr)) (fp : List Addr), PDTs (X.blk s H scope (compEnvC scope cl C X.env) fp) ifs tt)
    (he : ∀ (s : Shared) (H : Hp) (C : Addr) (cl : List (Str × Addr)) (fp : List Addr), PD (X.blk s H scope (compEnvC scope cl C X.env) fp) elt te) (hs : ∀ x, foldedSetIterable iter X.env x = pure x := by intro _; rfl) :
    PD X (.ListComp elt [⟨tg, iter, ifs, 0⟩] scope pos) (tdLc ti g tt te (own.map (·.2))) := by
  obtain ⟨wi, p1, q1⟩ := hi
  exact ⟨_, pe_lc (g := upG X.K T g) (tt := upT X.K tt) (te := upE X.K te) hc hN p1 ok hg ht (fun s H C cl fp => (he s H C cl fp).up) hs, fun σ H W A env Q Qd E h k => lc_go hT q1 E h k⟩
/-- name = [..] on one line, the name a local -/
theorem psd_setLc {N : List Nat × List Nat} {keep : Bool} {i : Nat} {y : Str} {py : Pos} (hc : X.calm = true) (hN : X.N.Nodup) (hy : X.N[i]? = some y) (hyl : X.env.scope.names.lookup y = some .local)
    (hsw : swapsWith (.ListComp elt [⟨tg, iter, ifs, 0⟩] scope pos) (some (.Name y py)) spos.line X.env = pure true) (hi : PDI X tg iter ti) (ok : BlkOk X.N X.env.scope scope own) (hT : ∀ i, i ∈ T → i ∈ own.map (·.2))
    (hg : ∀ (s : Shared) (H : Hp) (C : Addr) (cl : List (Str × Addr)) (fp : List Addr), PDC (X.blk s H scope (compEnvC scope cl C X.env) fp) T tg g) (ht : ∀ (s : Shared) (H : Hp) (C : Addr) (cl : List (Str × Addr)) (fp : List Addr), PDTs (X.blk s H scope (compEnvC scope cl C X.env) fp) ifs tt)
    (he : ∀ (s : Shared) (H : Hp) (C : Addr) (cl : List (Str × Addr)) (fp : List Addr), PD (X.blk s H scope (compEnvC scope cl C X.env) fp) elt te) (hM : i ∉ N.1 := by decide) (hs : ∀ x, foldedSetIterable iter X.env x = pure x := by intro _; rfl) :
    PSD X N (.Assign [.Name y py] (.ListComp elt [⟨tg, iter, ifs, 0⟩] scope pos) spos) (if keep = true then tdSet i (tdLc ti g tt te (own.map (·.2))) else tdSetD i (tdLc ti g tt te (own.map (·.2)))) := by
  obtain ⟨wi, p1, q1⟩ := hi
  refine ⟨_, ps_setLc (g := upG X.K T g) (tt := upT X.K tt) (te := upE X.K te) hc hN hy hyl hsw p1 ok hg ht (fun s H C cl fp => (he s H C cl fp).up) hs, fun B D Dd σ H W A env hB R h O => ?_⟩
  have q2 : ∀ (σ : L2.St) (H : Hp) (W : List Addr) (A : List (Option Addr)) (env : En) (Q : VK) (Qd : Rv → En → Prop), EnR X.K H W A env σ → tdLc ti g tt te (own.map (·.2)) env Qd → (∀ v H' W' env' rv, EnR X.K H' W' A env' σ → Stp A H W H' W' → RvR X.K H W H' W' A rv v → Qd rv env' → Q v H') → tLc wi (upG X.K T g) (upT X.K tt) (upE X.K te) (own.map (·.2)) σ H Q :=
    fun σ H W A env Q Qd E h k => lc_go hT q1 E h k
  cases keep with
  | false => exact set_d q2 hM hB R h O
  | true =>
    have h : tdSet i (tdLc ti g tt te (own.map (·.2))) Dd env := h
    refine q2 σ H W A env _ _ R.en h fun v H1 W1 env1 rv E1 S1 R1 h1 => ?_
    have R' := R.step S1 E1
    cases rv with
    | d x => exact O.nx _ H1 W1 _ _ (R'.setD hB hM h1.1 R1) h1.2
    | n s =>
      obtain ⟨p, rfl, h2, h3, h4, h5⟩ := R1
      exact O.nx _ H1 W1 _ _ (R'.setO hB hM h1.1.1 h3 (fun z => h4 (R.en.ain p z)) (back0 R h2) h5 h1.1.2 fun q hq e => by rw [← e, (R.fz q hq).1] at h2; cases h2) h1.2
    | o j => exact h1.elim
end
end DL

set_option Elab.async false
set_option linter.all false
set_option maxRecDepth 100000
set_option maxHeartbeats 4000000
set_option autoImplicit false
namespace DL
open PySem PySem.Spec L2

/-! ### dicts whose keys are ints and texts -/
def valD (kvs : List (Key × PyData)) (k : Key) : Option PyData := (kvs.find? fun kv => decide (kv.1 = k)).map (·.2)
def putD (kvs : List (Key × PyData)) (k : Key) (v : PyData) : List (Key × PyData) :=
  if (kvs.any fun kv => decide (kv.1 = k)) = true then kvs.map (fun kv => if kv.1 = k then (kv.1, v) else kv) else kvs ++ [(k, v)]
def keyD : PyData → Option Key
  | .int i => some (.inl i)
  | .str s => some (.inr s)
  | _ => none
def keyOf : Key → PyData
  | .inl i => .int i
  | .inr s => .str s
section
variable {K : PySem.W.Frag} {H : Hp} {W : List Addr} {v : V} {x : PyData} {k : Key}
theorem keyD_v (h : keyD x = some k) (d : Dq K H W v x) : v = kV k := by
  cases x with
  | int i => cases h; exact d.int
  | str s => cases h; exact d.str
  | _ => cases h
theorem key_dp (k : Key) : Dp K H (kV k) (keyOf k) := by
  cases k with
  | inl i => exact .int i
  | inr s => exact .str s
abbrev DP (K : PySem.W.Frag) (H : Hp) : List (Key × V) → List (Key × PyData) → Prop := Paired fun p q => p.1 = q.1 ∧ Dp K H p.2 q.2
theorem dp_in : ∀ {ws : List (Key × V)} {kvs : List (Key × PyData)}, ws.map (·.1) = kvs.map (·.1) → DpAll K H (ws.map (·.2)) (kvs.map (·.2)) → DP K H ws kvs
  | [], [], _, _ => .nil
  | [], _ :: _, e, _ => by simp at e
  | _ :: _, [], e, _ => by simp at e
  | p :: ws, q :: kvs, e, d => by
    simp only [List.map_cons, List.cons.injEq] at e
    rw [List.map_cons, List.map_cons] at d
    cases d with
    | cons d1 d2 => exact .cons ⟨e.1, d1⟩ (dp_in e.2 d2)
theorem dp_out : ∀ {ws : List (Key × V)} {kvs : List (Key × PyData)}, DP K H ws kvs → ws.map (·.1) = kvs.map (·.1) ∧ DpAll K H (ws.map (·.2)) (kvs.map (·.2))
  | _, _, .nil => ⟨rfl, .nil⟩
  | _, _, .cons a b => by
    obtain ⟨h1, h2⟩ := dp_out b
    exact ⟨by simp [a.1, h1], .cons a.2 h2⟩
theorem dp_len {ws : List (Key × V)} {kvs : List (Key × PyData)} (h : DP K H ws kvs) : ws.length = kvs.length := Paired.length h
theorem dp_val (k : Key) {ws : List (Key × V)} {kvs : List (Key × PyData)} (h : DP K H ws kvs) : (valV ws k = none ∧ valD kvs k = none) ∨ ∃ v x, valV ws k = some v ∧ valD kvs k = some x ∧ Dp K H v x := by
  induction h with
  | nil => exact .inl ⟨rfl, rfl⟩
  | @cons p q ws kvs a b ih =>
    by_cases c : p.1 = k
    · refine .inr ⟨p.2, q.2, ?_, ?_, a.2⟩
      · simp [valV, List.find?_cons, c]
      · simp [valD, List.find?_cons, ← a.1, c]
    · have c' : ¬ q.1 = k := by rw [← a.1]; exact c
      have e1 : valV (p :: ws) k = valV ws k := by simp [valV, List.find?_cons, c]
      have e2 : valD (q :: kvs) k = valD kvs k := by simp [valD, List.find?_cons, c']
      rw [e1, e2]
      exact ih
theorem dp_any (k : Key) {ws : List (Key × V)} {kvs : List (Key × PyData)} (h : DP K H ws kvs) : (ws.any fun kv => decide (kv.1 = k)) = kvs.any fun kv => decide (kv.1 = k) := by
  induction h with
  | nil => rfl
  | cons a b ih => rw [List.any_cons, List.any_cons, ih, a.1]
theorem dp_map (k : Key) {v : V} {x : PyData} (d : Dp K H v x) {ws : List (Key × V)} {kvs : List (Key × PyData)} (h : DP K H ws kvs) : DP K H (ws.map fun kv => if kv.1 = k then (kv.1, v) else kv) (kvs.map fun kv => if kv.1 = k then (kv.1, x) else kv) := by
  induction h with
  | nil => exact .nil
  | @cons p q ws kvs a b ih =>
    rw [List.map_cons, List.map_cons]
    refine .cons ?_ ih
    by_cases c : p.1 = k
    · rw [if_pos c, if_pos (by rw [← a.1]; exact c)]
      exact ⟨a.1, d⟩
    · rw [if_neg c, if_neg (by rw [← a.1]; exact c)]
      exact a
theorem dp_snoc {p : Key × V} {q : Key × PyData} (hp : p.1 = q.1 ∧ Dp K H p.2 q.2) {ws : List (Key × V)} {kvs : List (Key × PyData)} (h : DP K H ws kvs) : DP K H (ws ++ [p]) (kvs ++ [q]) := by
  induction h with
  | nil => exact .cons hp .nil
  | cons a b ih => exact .cons a ih
theorem dp_put (k : Key) {v : V} {x : PyData} (d : Dp K H v x) {ws : List (Key × V)} {kvs : List (Key × PyData)} (h : DP K H ws kvs) : DP K H (putK ws k v) (putD kvs k x) := by
  unfold putK putD
  rw [dp_any k h]
  split
  · exact dp_map k d h
  · exact dp_snoc ⟨rfl, d⟩ h
theorem dp_get {i : Nat} {k : Key} {x : PyData} {ws : List (Key × V)} {kvs : List (Key × PyData)} (h : DP K H ws kvs) (e : kvs[i]? = some (k, x)) : ∃ v, ws[i]? = some (k, v) ∧ Dp K H v x := by
  induction h generalizing i with
  | nil => simp at e
  | @cons p q ws kvs a b ih =>
    cases i with
    | zero =>
      simp only [List.getElem?_cons_zero, Option.some.injEq] at e
      refine ⟨p.2, ?_, by rw [show x = q.2 by rw [e]]; exact a.2⟩
      simp only [List.getElem?_cons_zero, Option.some.injEq]
      rw [show k = p.1 by rw [a.1, e]]
    | succ i =>
      simp only [List.getElem?_cons_succ] at e ⊢
      exact ih e
end
/-- {} -/
def tdNew : TD := fun env Q => Q (.n (.m [])) env
/-- d.get(k, x), d a name of the def -/
def tdGet2 (i : Nat) (tk tx : TD) : TD := fun env Q => match env[i]? with
  | some (some (.m _)) => tk env fun rk env1 => tx env1 fun rx env2 => match env2[i]?, res env2 rk, rvD rx with
    | some (some (.m kvs)), some y, some z => match keyD y with
      | some k => Q (.d ((valD kvs k).getD z)) env2
      | none => False
    | _, _, _ => False
  | _ => False
/-- d[k] = e -/
def tdPut (i : Nat) (tk te : TD) : TDS := fun D env => te env fun rv env1 => match env1[i]? with
  | some (some (.m _)) => tk env1 fun rk env2 => match env2[i]?, res env2 rk, rvD rv with
    | some (some (.m kvs)), some y, some x => match keyD y with
      | some k => kvs.length < sizeLine ∧ D.nx (env2.set i (some (.m (putD kvs k x))))
      | none => False
    | _, _, _ => False
  | _ => False
section
variable {X : Cx} {o e f idx : Expr} {te tk tx : TD} {pos pos' apos cpos tpos : Pos} {i : Nat}
theorem EnR.dct {K : PySem.W.Frag} {H : Hp} {W : List Addr} {A : List (Option Addr)} {env : En} {σ : L2.St} {i : Nat} {kvs : List (Key × PyData)} (E : EnR K H W A env σ) (h : env[i]? = some (some (.m kvs))) :
    ∃ a ws, A[i]? = some (some a) ∧ a ∈ W ∧ σ[i]? = some (some (.ref a)) ∧ H a = some (.dK ws) ∧ DP K (HW H W) ws kvs := by
  obtain ⟨a, ha, hv, ws, h1, h2, h3⟩ := E.own i _ h rfl
  exact ⟨a, ws, ha, (E.back i a ha).1, hv, h1, dp_in h2 h3⟩
theorem pd_new : PD X (.Dict [] [] pos) tdNew := by
  refine ⟨_, pe_dnewK, fun σ H W A env Q Qd E ht k => ?_⟩
  intro p hp
  have g : Grow H W (upd H p (.dK [])) (p :: W) := grow_own hp
  exact k (.ref p) _ (p :: W) env (.n (.m [])) (g.en E) g.stp ⟨p, rfl, hp, List.mem_cons_self, fun z => E.trk p z hp, [], upd_same, rfl, .nil⟩ ht
theorem pd_get2 (hu : X.A.units + 1 < cLine) (ho : PE X o (tVar i)) (he : PD X e tk) (hf : PD X f tx) (m : M2 X o "get" apos e f cpos := by exact ⟨rfl, rfl, rfl, rfl⟩) : PD X (.Call (.Attribute o "get" apos) [e, f] [] cpos) (tdGet2 i tk tx) := by
  obtain ⟨t1, p1, q1⟩ := he
  obtain ⟨t2, p2, q2⟩ := hf
  refine ⟨_, pe_dget2 hu ho p1 p2 m, fun σ H W A env Q Qd E ht k => ?_⟩
  unfold tdGet2 at ht
  split at ht
  · rename_i kvs0 h0
    obtain ⟨a, ws0, ha, hw, hv, h3, h4⟩ := E.dct h0
    refine ⟨_, hv, a, rfl, .inl ⟨ws0, .inl h3⟩, ?_⟩
    refine q1 σ H W A env _ _ E ht fun y H1 W1 env1 rk E1 S1 R1 h1 => ?_
    refine q2 σ H1 W1 A env1 _ _ E1 h1 fun z H2 W2 env2 rx E2 S2 R2 h2 => ?_
    split at h2
    · rename_i kvs y' z' hd ey ez
      split at h2
      · rename_i key ek
        obtain ⟨W', s1, s2, d⟩ := R2.keepD S2 ez
        have E' := E2.sub s1 fun a ha => s2 a (E2.ain a ha) (E1.ain a ha)
        have S' := (S1.trans S2).sub s1 fun q hq hq0 => s2 q hq (S1.up q hq0)
        obtain ⟨a', ws, ha', hw', hv', h5, h6⟩ := E'.dct hd
        rw [ha] at ha'; cases ha'
        have hy := keyD_v ek (Dq.of_rv E2 (R1.step S2 E1.ain E.ain) ey)
        subst hy
        refine ⟨valV ws key, DGet.k h5, ?_⟩
        rcases dp_val key h6 with ⟨e1, e2⟩ | ⟨v, x, e1, e2, dv⟩
        · rw [e1]
          rw [e2] at h2
          exact k z H2 W' env2 (.d z') E' S' d h2
        · rw [e1]
          rw [e2] at h2
          exact k v H2 W' env2 (.d x) E' S' dv h2
      · exact h2.elim
    · exact h2.elim
  · exact ht.elim
theorem psd_put {N : List Nat × List Nat} (hu : X.A.units + 1 < cLine) (ho : PE X o (tVar i)) (hk : PD X idx tk) (he : PD X e te) (hs : swapsWith e (some (.Subscript o idx pos')) pos.line X.env = pure false := by rfl) : PSD X N (.Assign [.Subscript o idx pos'] e pos) (tdPut i tk te) := by
  obtain ⟨t1, p1, q1⟩ := he
  obtain ⟨t2, p2, q2⟩ := hk
  refine ⟨_, ps_dput hu ho p2 p1 hs, fun B D Dd σ H W A env hB R h O => ?_⟩
  refine q1 σ H W A env _ _ R.en h fun v H1 W1 env1 rv E1 S1 R1 h1 => ?_
  split at h1
  · rename_i kvs0 h0
    obtain ⟨a, ws0, ha, hw, hv, h3, h4⟩ := E1.dct h0
    refine ⟨_, hv, ?_⟩
    refine q2 σ H1 W1 A env1 _ _ E1 h1 fun y H2 W2 env2 rk E2 S2 R2 h2 => ?_
    split at h2
    · rename_i kvs y' x hd ey ex
      split at h2
      · rename_i key ek
        obtain ⟨W', s1, s2, d⟩ := (R1.step S2 E1.ain R.en.ain).keepD (S1.trans S2) ex
        have E' := E2.sub s1 fun a ha => s2 a (E2.ain a ha) (R.en.ain a ha)
        have R' := (R.step (S1.trans S2) E2).sub s1 (fun a ha => s2 a (E2.ain a ha) (R.en.ain a ha)) (fun q hq => s2 q ((S1.trans S2).up q (R.up q hq)) (R.up q hq)) fun q hq => s2 q.1 ((S1.trans S2).up _ (R.fz q hq).2.2) (R.fz q hq).2.2
        obtain ⟨a', ws, ha', hw', hv', h5, h6⟩ := E'.dct hd
        rw [ha] at ha'; cases ha'
        have hy := keyD_v ek (Dq.of_rv E2 R2 ey)
        subst hy
        refine ⟨a, _, rfl, DPut.k h5 (by rw [dp_len h6]; exact h2.1), ?_⟩
        have dp := dp_out (dp_put key d h6)
        have E3 : EnR X.K (upd H2 a (.dK (putK ws key v))) W' A (env2.set i (some (.m (putD kvs key x)))) σ := E'.write (s := .m (putD kvs key x)) ha rfl ⟨_, upd_same, dp.1, by rw [hw_upd hw']; exact dp.2⟩
        exact O.nx σ _ W' A _ (R'.step (stp_write (List.mem_of_getElem? ha)) E3) h2.2
      · exact h2.elim
    · exact h2.elim
  · exact h1.elim
/-- for k, v in d.items(), d a name of the def; behind it the name is told no more -/
def tdForItems (i : Nat) (g : TDG) (tb : TDS) : TDS := fun D env => match env[i]? with
  | some (some (.m kvs)) => ∃ Pv : Nat → En → Prop, Pv 0 (env.set i none) ∧ (∀ j x env, (kvs.map fun kv => PyData.tuple [keyOf kv.1, kv.2])[j]? = some x → Pv j env → g x env fun env2 => tb { D with nx := Pv (j + 1), ct := Pv (j + 1), bk := D.nx } env2) ∧ ∀ env, Pv kvs.length env → D.nx env
  | _ => False
theorem walk_items {K : PySem.W.Frag} {G : Hp} {d : Addr} {o : Obj} {ws : List (Key × V)} {kvs : List (Key × PyData)} (h : DP K G ws kvs) (H : Hp) (W : List Addr) (hd : H d = some (.frz o (.dK ws))) (e : Same G (HW H W)) (hw : ∀ p, p ∈ W → H p ≠ none) (i : Nat) :
    (∀ x, (kvs.map fun kv => PyData.tuple [keyOf kv.1, kv.2])[i]? = some x → (Iti d o ws).go i H ∧ ∀ v H', (Iti d o ws).yld i H v H' → Grow H W H' W ∧ Dp K (HW H' W) v x) ∧ (kvs.length ≤ i → (Iti d o ws).stop i H) := by
  have hl := dp_len h
  refine ⟨fun x hx => ?_, fun hle => ⟨hd, by omega⟩⟩
  rw [List.getElem?_map] at hx
  obtain ⟨kv, hkv, rfl⟩ := Option.map_eq_some_iff.mp hx
  obtain ⟨k, y⟩ := kv
  obtain ⟨v, hv, dv⟩ := dp_get h hkv
  refine ⟨⟨hd, by rw [hl]; exact (List.getElem?_eq_some_iff.mp hkv).1⟩, fun u H' q => ?_⟩
  obtain ⟨T, k', v', h1, rfl, hT, rfl⟩ := q
  rw [hv] at h1; cases h1
  have g : Grow H W (upd H T (.tup [kV k, v])) W := grow_new hT
  refine ⟨g, .tup (.inl (.inl (hw_of (fun z => hw T z hT) upd_same))) ?_⟩
  refine dpa_mono ((g.stp (A := [])).same fun _ z => absurd z (by simp)) _ (.cons (key_dp k) (.cons (dp_mono e _ dv) .nil))
theorem psd_forItems {N : List Nat × List Nat} {elts : List Expr} {kk : Nat} {g : TDG} {tb : TDS} {body : List Stmt} (hp : PassesOwn (model X.prog X.w) X.A X.env X.xe) (hc : X.calm = true) (ho : PE X o (tVar i)) (hg : PDG X N (.Tuple elts kk tpos) g) (hb : PSDs X N body tb) (hM : i ∉ N.1 := by decide)
    (hbase : attributeBase o "items" X.env (eval o X.env) = eval o X.env := by rfl) (hline : (apos.endLine == cpos.line) = true := by rfl) (hs : ∀ x, foldedSetIterable (.Call (.Attribute o "items" apos) [] [] cpos) X.env x = pure x := by intro _; rfl) :
    PSD X N (.For (.Tuple elts kk tpos) (.Call (.Attribute o "items" apos) [] [] cpos) body [] pos) (tdForItems i g tb) := by
  obtain ⟨g1, p2, q2⟩ := hg
  obtain ⟨b1, p3, q3⟩ := hb
  refine ⟨_, ps_lock (ps_for hp hc (pi_items ho hbase hline) p2 p3 hs), fun B D Dd σ H W A env hB R h O => ?_⟩
  unfold tdForItems at h
  split at h
  · rename_i kvs hkv
    obtain ⟨Pv, h0, hs, hd⟩ := h
    obtain ⟨a, ws, ha, hw, hv, h1, h2⟩ := R.en.dct hkv
    have hi : i < env.length := (List.getElem?_eq_some_iff.mp hkv).1
    refine ⟨a, .dK ws, h1, True.intro, fun od => ?_⟩
    -- in the loop the dict is nobody's
    have notA : some a ∉ A.set i none := fun z => by
      obtain ⟨j, hj⟩ := List.mem_iff_getElem?.mp z
      rw [set_get] at hj
      split at hj
      · split at hj <;> cases hj
      · rename_i c
        exact c (R.en.inj i j a ha hj)
    have E1 : EnR X.K (upd H a (.frz od (.dK ws))) W (A.set i none) (env.set i none) σ := by
      refine ⟨by simp [R.en.len], by simp [R.en.lenA], fun j x e => ?_, fun j s e hz => ?_, fun j b e => ?_, fun j k b e1 e2 => ?_, fun p hp => ?_⟩
      · rw [set_get] at e
        split at e
        · split at e <;> cases e
        · rename_i c
          obtain ⟨x1, v, x2, x3⟩ := R.en.dat j x e
          exact ⟨by rw [set_get, if_neg c]; exact x1, v, x2, by rw [hw_upd hw]; exact x3⟩
      · rw [set_get] at e
        split at e
        · split at e <;> cases e
        · rename_i c
          obtain ⟨b, x1, x2, x3⟩ := R.en.own j s e hz
          exact ⟨b, by rw [set_get, if_neg c]; exact x1, x2, x3.mono (by rw [hw_upd hw]; exact Same.refl _) (upd_ne fun z => c (R.en.inj i j a ha (by rw [← z]; exact x1)))⟩
      · rw [set_get] at e
        split at e
        · split at e <;> cases e
        · rename_i c
          obtain ⟨x1, s, x2, x3⟩ := R.en.back j b e
          exact ⟨x1, s, by rw [set_get, if_neg c]; exact x2, x3⟩
      · rw [set_get] at e1 e2
        split at e1
        · split at e1 <;> cases e1
        · split at e2
          · split at e2 <;> cases e2
          · exact R.en.inj j k b e1 e2
      · by_cases c : p = a
        · rw [c, upd_same]; simp
        · rw [upd_ne c]; exact R.en.trk p hp
    have R1 : StR X.K { B with G := HW H W, Fz := (a, .frz od (.dK ws)) :: B.Fz } (upd H a (.frz od (.dK ws))) W (A.set i none) (env.set i none) σ := by
      refine ⟨E1, fun b o e n m => ?_, fun b e => ?_, R.up, R.fr, fun b z => R.own b ((mem_set z).resolve_left (by simp)), fun j b e => ?_, fun j b e m => ?_, fun q hq => ?_, ?_⟩
      · have c : b ≠ a := fun z => by
          rcases R.own a (List.mem_of_getElem? ha) with (y | y) | y
          · exact n (by rw [z]; exact y)
          · exact m (by rw [z]; exact y)
          · rw [z, y] at e; cases e
        rw [upd_ne c]
        exact R.old b o e n m
      · by_cases c : b = a
        · rw [c, upd_same]; simp
        · rw [upd_ne c]; exact R.there b e
      · rw [set_get, if_neg fun c => hM (by rw [c]; exact hB.n j b e)]
        exact R.par j b e
      · rw [set_get] at e
        split at e
        · split at e <;> cases e
        · exact R.mvs j b e m
      · rcases List.mem_cons.mp hq with rfl | hq
        · exact ⟨upd_same, notA, hw⟩
        · obtain ⟨z1, z2, z3⟩ := R.fz q hq
          exact ⟨by rw [upd_ne fun z => z2 (by rw [z]; exact List.mem_of_getElem? ha)]; exact z1, fun z => z2 ((mem_set z).resolve_left (Option.some_ne_none _)), z3⟩
      · rw [hw_upd hw]; exact Same.refl _
    -- behind the loop: the dict as it was
    have dn : ∀ {σ' H' W' A' env'}, StR X.K { B with G := HW H W, Fz := (a, .frz od (.dK ws)) :: B.Fz } H' W' A' env' σ' → H' a = some (.frz od (.dK ws)) ∧ StR X.K B (upd H' a (.dK ws)) W' A' env' σ' ∧ a ∈ W' := fun {σ' H' W' A' env'} r => by
      obtain ⟨f1, f2, aW⟩ := r.fz (a, .frz od (.dK ws)) List.mem_cons_self
      refine ⟨f1, ⟨r.en.hid aW f2, fun b o e n m => ?_, fun b e => ?_, r.up, r.fr, r.own, r.par, r.mvs, fun q hq => ?_, ?_⟩, aW⟩
      · have c : b ≠ a := fun z => by
          rcases R.own a (List.mem_of_getElem? ha) with (y | y) | y
          · exact n (by rw [z]; exact y)
          · exact m (by rw [z]; exact y)
          · rw [z, y] at e; cases e
        rw [upd_ne c]
        exact r.old b o e n m
      · by_cases c : b = a
        · rw [c, upd_same]; simp
        · rw [upd_ne c]; exact r.there b e
      · obtain ⟨z1, z2, z3⟩ := r.fz q (List.mem_cons_of_mem _ hq)
        have c : q.1 ≠ a := fun z => by
          obtain ⟨y1, y2, _⟩ := R.fz q hq
          exact y2 (by rw [z]; exact List.mem_of_getElem? ha)
        exact ⟨by rw [upd_ne c]; exact z1, z2, z3⟩
      · rw [hw_upd aW]
        exact fun b o e => r.seen b o (R.seen b o e)
    have hB1 : OkN { B with G := HW H W, Fz := (a, .frz od (.dK ws)) :: B.Fz } N := ⟨hB.n, hB.m, hB.w, hB.v⟩
    refine ⟨.ref a, hv, a, od, ws, rfl, upd_same, ?_⟩
    refine ⟨fun j m σ H' => m = kvs.length - j ∧ j ≤ kvs.length ∧ ∃ W' A env, StR X.K { B with G := HW H W, Fz := (a, .frz od (.dK ws)) :: B.Fz } H' W' A env σ ∧ Pv j env, ?_, ?_⟩
    · exact ⟨_, rfl, Nat.zero_le _, W, A.set i none, env.set i none, R1, h0⟩
    · rintro j m σ2 H2 ⟨rfl, hle, W2, A2, env2, R2, hP⟩
      obtain ⟨fd, _, _⟩ := R2.fz (a, .frz od (.dK ws)) List.mem_cons_self
      obtain ⟨wg, wst⟩ := walk_items (G := HW H W) h2 H2 W2 fd R2.seen R2.en.trk j
      by_cases hlt : j < kvs.length
      · obtain ⟨y0, hy0⟩ : ∃ y0, (kvs.map fun kv => PyData.tuple [keyOf kv.1, kv.2])[j]? = some y0 := ⟨_, by rw [List.getElem?_map, List.getElem?_eq_getElem hlt]; rfl⟩
        obtain ⟨go, yl⟩ := wg y0 hy0
        refine .inr ⟨go, fun σ' H' => ∃ W' A env, StR X.K { B with G := HW H W, Fz := (a, .frz od (.dK ws)) :: B.Fz } H' W' A env σ' ∧ Pv (j + 1) env, fun σ' H' q => ⟨kvs.length - (j + 1), by omega, rfl, hlt, ?_⟩, fun v H3 y => ?_⟩
        · exact q
        · obtain ⟨gr, dv⟩ := yl v H3 y
          have R3 := R2.step gr.stp (gr.en R2.en)
          refine q2 _ v y0 σ2 H3 W2 A2 env2 _ _ hB1 R3 dv (hs j _ env2 hy0 hP) fun σ' A' env' R4 h4 => ?_
          refine q3 _ _ { Dd with nx := Pv (j + 1), ct := Pv (j + 1), bk := Dd.nx } σ' H3 W2 A' env' hB1 R4 h4 ⟨fun σ H W A env r q => ⟨W, A, env, r, q⟩, fun σ H W A env r q => ?_, fun σ H W A env r q => ⟨W, A, env, r, q⟩, fun σ H W A env v s r q q' => ?_⟩
          · obtain ⟨f1, r', _⟩ := dn r
            exact ⟨f1, O.nx σ _ W A env r' q⟩
          · obtain ⟨f1, r', aW⟩ := dn r
            refine ⟨f1, O.rt σ _ W A env v s r' ?_ q'⟩
            have ow : ∀ p, OwR X.K H W p s → OwR X.K (upd H a (.dK ws)) W p s := fun p h => by
              have c : p ≠ a := fun z => by
                rw [z] at h
                cases s with
                | d _ => exact h
                | l _ => obtain ⟨_, h, _⟩ := h; rw [f1] at h; cases h
                | m _ => obtain ⟨_, h, _⟩ := h; rw [f1] at h; cases h
                | t _ => obtain ⟨_, h, _⟩ := h; rw [f1] at h; cases h
                | g _ _ => (have h2 := Eq.trans (Eq.symm h) f1; cases h2)
              exact h.mono (by rw [hw_upd aW]; exact Same.refl _) (upd_ne c)
            cases s with
            | d y => show Dp X.K (HW (upd H a (.dK ws)) W) v y; rw [hw_upd aW]; exact q
            | l _ => obtain ⟨p, e1, e2, e3, e4⟩ := q; exact ⟨p, e1, e2, e3, ow p e4⟩
            | m _ => obtain ⟨p, e1, e2, e3, e4⟩ := q; exact ⟨p, e1, e2, e3, ow p e4⟩
            | t _ => obtain ⟨p, e1, e2, e3, e4⟩ := q; exact ⟨p, e1, e2, e3, ow p e4⟩
            | g _ _ => obtain ⟨p, e1, e2, e3, e4⟩ := q; exact ⟨p, e1, e2, e3, ow p e4⟩
      · have ej : j = kvs.length := by omega
        subst ej
        obtain ⟨f1, r', _⟩ := dn R2
        exact .inl ⟨wst (Nat.le_refl _), f1, O.nx σ2 _ W2 A2 env2 r' (hd env2 hP)⟩
  · exact h.elim
end
end DL

set_option Elab.async false
set_option linter.all false
set_option maxRecDepth 100000
set_option maxHeartbeats 4000000
set_option autoImplicit false
namespace DL
open PySem PySem.Spec L2

/-! ### isinstance(x, T), T a built-in class -/
def tyN : PyData → Option String
  | .none => some "NoneType"
  | .bool _ => some "bool"
  | .int _ => some "int"
  | .str _ => some "str"
  | .list _ => some "list"
  | .tuple _ => some "tuple"
  | .dict _ => none
def isT (T : String) (x : PyData) : Bool := match x with
  | .bool _ => T == "bool" || T == "int"
  | .int _ => T == "int"
  | .str _ => T == "str"
  | .list _ => T == "list"
  | .tuple _ => T == "tuple"
  | _ => false
def IsTy (T : String) : Prop := ∀ (x : PyData) (n : String), tyN x = some n → L2.kitB n T = some (isT T x)
theorem isTy_tuple : IsTy "tuple" := fun x n h => by cases x <;> cases h <;> (simp only [isT]; decide +kernel)
theorem isTy_str : IsTy "str" := fun x n h => by cases x <;> cases h <;> (simp only [isT]; decide +kernel)
theorem isTy_int : IsTy "int" := fun x n h => by cases x <;> cases h <;> (simp only [isT]; decide +kernel)
theorem isTy_bool : IsTy "bool" := fun x n h => by cases x <;> cases h <;> (simp only [isT]; decide +kernel)
theorem isTy_list : IsTy "list" := fun x n h => by cases x <;> cases h <;> (simp only [isT]; decide +kernel)
def tdIsi (T : String) (t : TD) : TD := fun env Q => t env fun rv env1 => match res env1 rv with
  | some x => Q (.d (.bool (isT T x))) env1
  | none => False
theorem tyX_of {K : PySem.W.Frag} {H : Hp} {v : V} {x : PyData} (d : Dp K H v x) : ∃ n, tyN x = some n ∧ TyX K H v (.type n) := by
  cases d with
  | non => exact ⟨_, rfl, .base .non⟩
  | bl b => exact ⟨_, rfl, .base (.bl b)⟩
  | int i => exact ⟨_, rfl, .base (.int i)⟩
  | str s => exact ⟨_, rfl, .base (.str s)⟩
  | lst s _ =>
    refine ⟨_, rfl, ?_⟩
    rcases s with (s | ⟨o, s⟩) | ⟨o, its, n, h1, h2, _⟩
    · exact .base (.lst s)
    · exact .base (.frz s)
    · exact .kList h1 h2
  | tup s _ =>
    refine ⟨_, rfl, ?_⟩
    rcases s with (s | ⟨o, s⟩) | ⟨o, its, n, h1, h2, _⟩
    · exact .base (.tup s)
    · exact .fTuple s
    · exact .kTuple h1 h2
section
variable {X : Cx} {e o a : Expr} {te to_ : TD} {p pos q apos : Pos} {T Tn : Str}
theorem pd_isi {ty : String} (hT : IsTy ty) (hg : Gl X "isinstance") (hm : X.mg "isinstance" = none) (hg2 : Gl X Tn) (hm2 : X.mg Tn = none) (hv2 : bootBuiltins Tn = some (.type ty)) (he : PD X e te) (hn : Tn ≠ "__name__" := by decide) (hd : (Tn == ("__debug__" : Str)) = false := by decide)
    (h1 : starEach (e :: [.Name Tn q]) X.env = (false, eval e X.env) :: starEach [.Name Tn q] X.env := by rfl) (h2 : (backTo pos (starEach [.Name Tn q] X.env)).any (·.1) = false := by rfl) (h3 : starEach (.Name Tn q :: []) X.env = (false, eval (.Name Tn q) X.env) :: starEach [] X.env := by rfl) :
    PD X (.Call (.Name "isinstance" p) [e, .Name Tn q] [] pos) (tdIsi ty te) := by
  obtain ⟨t1, p1, q1⟩ := he
  refine ⟨_, pe_callB call_isi hg hm PyProof.Rows.boot_isinstance (pa_cons p1 (pa_cons (pe_bltn (v := .ty ty) hg2 hm2 hv2 rfl hn hd) pa_nil h3) h1) (by decide) (by decide) h1 h2, fun σ H W A env Q Qd E ht k => ?_⟩
  refine q1 σ H W A env _ _ E ht fun v H1 W1 env1 rv E1 S1 R1 h1 => ?_
  split at h1
  · rename_i x ex
    obtain ⟨n, e1, e2⟩ := tyX_of (Dq.of_rv E1 R1 ex).dp
    exact ⟨v, .ty ty, _, _, _, rfl, .ty ty, e2, kit_ty (hT x n e1), k (.bl _) H1 W1 env1 (.d (.bool (isT ty x))) E1 S1 (.bl _) h1⟩
  · exact h1.elim
/-! ### x in a list -/
theorem op_inA (hu : X.A.units + 65 < cLine) : OpR X (compareOp .In) (fun x y H Q => ∃ d ds, Dp X.K H x d ∧ Dp X.K H y (.tuple ds) ∧ SeqAt.shaped d = true ∧ SeqAt.shaped (.tuple ds) = true ∧ Q (.bl (ds.any fun z => PyData.eqv z d)) H) := by
  intro pins s σ H x y v u Q I rx ry h
  obtain ⟨d, ds, hd, he, sd, se, q⟩ := h
  obtain ⟨as, r1⟩ := Dp.reads I d x v hd rx
  obtain ⟨bs, r2⟩ := Dp.reads I (.tuple ds) y u he ry
  exact SeqAt.in_tuple_reads r2 r1 (SeqAt.canLay_of_shaped se) (SeqAt.canLay_of_shaped sd) (PyProof.Rows.room_in_shaped sd hu) ⟨.bl _, H, I, rfl, q⟩
theorem op_notInA (hu : X.A.units + 65 < cLine) : OpR X (compareOp .NotIn) (fun x y H Q => ∃ d ds, Dp X.K H x d ∧ Dp X.K H y (.tuple ds) ∧ SeqAt.shaped d = true ∧ SeqAt.shaped (.tuple ds) = true ∧ Q (.bl (!ds.any fun z => PyData.eqv z d)) H) := by
  intro pins s σ H x y v u Q I rx ry h
  obtain ⟨d, ds, hd, he, sd, se, q⟩ := h
  obtain ⟨as, r1⟩ := Dp.reads I d x v hd rx
  obtain ⟨bs, r2⟩ := Dp.reads I (.tuple ds) y u he ry
  exact SeqAt.notIn_tuple_reads r2 r1 (SeqAt.canLay_of_shaped se) (SeqAt.canLay_of_shaped sd) (PyProof.Rows.room_in_shaped sd hu) ⟨.bl _, H, I, rfl, q⟩
/-- one of two promises, by what stands -/
theorem opr_or {f : Value → Value → Sem Value} {r r2 : R2} (h : OpR X f r) (h2 : OpR X f r2) : OpR X f (fun x y H Q => r x y H Q ∨ r2 x y H Q) := by
  intro pins s σ H x y v u Q I rx ry q
  rcases q with q | q
  · exact h pins s σ H x y v u Q I rx ry q
  · exact h2 pins s σ H x y v u Q I rx ry q
def rdIn : PyData → PyData → (Rv → Prop) → Prop
  | x, .list ds, Q => SeqAt.shaped x = true ∧ SeqAt.shaped (.list ds) = true ∧ Q (.d (.bool (ds.any fun z => PyData.eqv z x)))
  | x, .tuple ds, Q => SeqAt.shaped x = true ∧ SeqAt.shaped (.tuple ds) = true ∧ Q (.d (.bool (ds.any fun z => PyData.eqv z x)))
  | _, _, _ => False
theorem od_in (hu : X.A.units + 65 < cLine) : OpD X (compareOp .In) rdIn := by
  refine ⟨_, opr_or (op_inD hu) (op_inA hu), fun H W x y a b Q Qd hw ra rb q k => ?_⟩
  unfold rdIn at q
  split at q
  · exact .inl ⟨_, _, ra.dp, rb.dp, q.1, q.2.1, k.bl q.2.2⟩
  · exact .inr ⟨_, _, ra.dp, rb.dp, q.1, q.2.1, k.bl q.2.2⟩
  · exact q.elim
/-! ### list(range(n)) -/
def tdListRg (t : TD) : TD := fun env Q => t env fun rv env1 => match res env1 rv with
  | some (.int n) => RgOk 0 n ∧ Q (.n (.l (rngL 0 n))) env1
  | _ => False
theorem pd_listRg {pr : Pos} (hc : X.calm = true) (hg : Gl X "list") (hm : X.mg "list" = none) (hg2 : Gl X "range") (hm2 : X.mg "range" = none) (he : PD X a te) (na : starEach [a] X.env = (false, eval a X.env) :: starEach [] X.env := by rfl)
    (na2 : starEach [.Call (.Name "range" q) [a] [] pr] X.env = (false, eval (.Call (.Name "range" q) [a] [] pr) X.env) :: starEach [] X.env := by rfl) : PD X (.Call (.Name "list" p) [.Call (.Name "range" q) [a] [] pr] [] pos) (tdListRg te) := by
  obtain ⟨t1, p1, q1⟩ := he
  refine ⟨_, pe_listRg hc hg hm (prg_1 hg2 hm2 p1 na) na2, fun σ H W A env Q Qd E ht k => ?_⟩
  refine q1 σ H W A env _ _ E ht fun v H1 W1 env1 rv E1 S1 R1 h1 => ?_
  split at h1
  · rename_i n en
    refine ⟨n, (Dq.of_rv E1 R1 en).int, h1.1, fun l hl => ?_⟩
    refine (fin_up E1 S1 k).lst E1.trk hl ?_ h1.2
    unfold rgV rngL
    have : ∀ ns : List Nat, DpAll X.K (HW H1 W1) (ns.map fun i => V.int (0 + (i : Nat))) (ns.map fun i => PyData.int (0 + (i : Nat))) := fun ns => by
      induction ns with
      | nil => exact .nil
      | cons a r ih => exact .cons (.int _) ih
    exact this _
  · exact h1.elim
/-! ### sep.join(texts) -/
def strsOf : List PyData → Option (List Str)
  | [] => some []
  | .str i :: r => (strsOf r).map (i :: ·)
  | _ :: _ => none
def tdJoin (to_ te : TD) : TD := fun env Q => to_ env fun ro env1 => match ro with
  | .d (.str a) => te env1 fun rv env2 => match res env2 rv with
    | some (.list xs) => ∃ ys : List Str, xs = ys.map PyData.str ∧ (ys.map (·.length)).sum + ys.length * a.length ≤ 16777216 ∧ Q (.d (.str (Txt.join a ys))) env2
    | _ => False
  | _ => False
theorem pd_join (ho : PD X o to_) (he : PD X e te) (hs : starEach [e] X.env = [(false, eval e X.env)] := by rfl) (hbase : attributeBase o "join" X.env (eval o X.env) = eval o X.env := by rfl) (hline : (apos.endLine == pos.line) = true := by rfl) :
    PD X (.Call (.Attribute o "join" apos) [e] [] pos) (tdJoin to_ te) := by
  obtain ⟨t1, p1, q1⟩ := ho
  obtain ⟨t2, p2, q2⟩ := he
  refine ⟨_, pe_join p1 p2 hs hbase hline, fun σ H W A env Q Qd E ht k => ?_⟩
  refine q1 σ H W A env _ _ E ht fun v H1 W1 env1 ro E1 S1 R1 h1 => ?_
  split at h1
  · rename_i a
    cases (show Dp X.K (HW H1 W1) v (.str a) from R1)
    refine ⟨⟨a, rfl⟩, ?_⟩
    refine q2 σ H1 W1 A env1 _ _ E1 h1 fun u H2 W2 env2 rv E2 S2 R2 h2 => ?_
    split at h2
    · rename_i xs ex
      obtain ⟨ys, rfl, hz, h2⟩ := h2
      obtain ⟨p, ws, rfl, s, d⟩ := Dq.of_rv E2 R2 ex
      rw [d.strs] at s
      exact ⟨a, p, ys, rfl, rfl, .inl s, hz, k (.str _) H2 W2 env2 (.d (.str _)) E2 (S1.trans S2) (.str _) h2⟩
    · exact h2.elim
  · exact h1.elim
end
/-! ### the law's own end -/
theorem law_sp {K : PySem.W.Frag} {H : Hp} {a : Addr} {ns : List Int} {f : FD} (hS : SqL K H a (ns.map V.int)) (h : f [.d (.list (ns.map PyData.int))] fun s _ => s = .d (.bool true)) : spD K ([], []) 1 f [.ref a] H (fun v _ => v = .bl true) fun _ _ _ => False := by
  refine ⟨[], [none], [.d (.list (ns.map PyData.int))], _, rfl, ⟨rfl, rfl, fun i x e => ?_, fun i s e hs => ?_, fun i b e => ?_, fun i j b e => ?_, fun p hp => absurd hp (List.not_mem_nil)⟩, fun i b e => ?_, h, fun s os e v H' W' bk rt => ?_⟩
  · cases i with
    | zero =>
      cases e
      have eH : HW H [] = H := by funext b; unfold HW; rw [if_neg (List.not_mem_nil)]
      exact ⟨rfl, .ref a, rfl, by rw [eH]; exact .lst hS (.of_ints ns)⟩
    | succ i => cases e
  · cases i with
    | zero => cases e; cases hs
    | succ i => cases e
  · cases i with
    | zero => cases e
    | succ i => cases e
  · cases i with
    | zero => cases e
    | succ i => cases e
  · cases i with
    | zero => cases e
    | succ i => cases e
  · subst e
    cases (show Dp K (HW H' W') v (.bool true) from rt)
    rfl
theorem bt_len : bootBuiltins "len" = some (.builtin "len") := by decide +kernel
theorem bt_int : bootBuiltins "int" = some (.type "int") := by decide +kernel
theorem bt_abs : bootBuiltins "abs" = some (.builtin "abs") := by decide +kernel
theorem bt_max : bootBuiltins "max" = some (.builtin "max") := by decide +kernel
theorem bt_min : bootBuiltins "min" = some (.builtin "min") := by decide +kernel
theorem bt_ord : bootBuiltins "ord" = some (.builtin "ord") := by decide +kernel
theorem bt_tuple : bootBuiltins "tuple" = some (.type "tuple") := by decide +kernel
theorem bt_list : bootBuiltins "list" = some (.type "list") := by decide +kernel
theorem bt_sorted : bootBuiltins "sorted" = some (.builtin "sorted") := by decide +kernel
theorem bt_sum : bootBuiltins "sum" = some (.builtin "sum") := by decide +kernel
theorem bt_all : bootBuiltins "all" = some (.builtin "all") := by decide +kernel
theorem bt_any : bootBuiltins "any" = some (.builtin "any") := by decide +kernel
theorem bt_bool : bootBuiltins "bool" = some (.type "bool") := by decide +kernel
theorem bt_str : bootBuiltins "str" = some (.type "str") := by decide +kernel
end DL
namespace DL
open PySem PySem.Spec L2
theorem u65 {k : Nat} {A : Around} (r : Room k A) : A.units + 65 < cLine := by have := r.un; omega
theorem u64 {k : Nat} {A : Around} (r : Room k A) : A.units + 64 < cLine := r.units
theorem u1 {k : Nat} {A : Around} (r : Room k A) : A.units + 1 < cLine := by have := r.un; omega
end DL

set_option Elab.async false
set_option linter.all false
set_option maxRecDepth 100000
set_option maxHeartbeats 4000000
set_option autoImplicit false
namespace DL
open PySem PySem.Spec L2
section
variable {X : Cx} {T : List Nat} {tg iter elt : Expr} {ifs : List Expr} {scope : Scope} {vs : List Nat} {pos spos : Pos} {ti : TDI} {g : TDC} {tt : TDT} {te : TD}
/-- pd_lc, what it wants told first -/
theorem pd_lcV (own : List (Str × Nat)) (hv : own.map (·.2) = vs) (hc : X.calm = true) (hN : X.N.Nodup) (hi : PDI X tg iter ti) (ok : BlkOk X.N X.env.scope scope own)
    (hg : ∀ (s : Shared) (H : Hp) (C : Addr) (cl : List (Str × Addr)) (fp : List Addr), PDC (X.blk s H scope (compEnvC scope cl C X.env) fp) vs tg g) (ht : ∀ (s : Shared) (H : Hp) (C : Addr) (cl : List (Str × Addr)) (fp : List Addr), PDTs (X.blk s H scope (compEnvC scope cl C X.env) fp) ifs tt)
    (he : ∀ (s : Shared) (H : Hp) (C : Addr) (cl : List (Str × Addr)) (fp : List Addr), PD (X.blk s H scope (compEnvC scope cl C X.env) fp) elt te) (hs : ∀ x, foldedSetIterable iter X.env x = pure x := by intro _; rfl) :
    PD X (.ListComp elt [⟨tg, iter, ifs, 0⟩] scope pos) (tdLc ti g tt te vs) := by
  subst hv
  exact pd_lc hc hN hi ok (fun i h => h) hg ht he hs
theorem psd_setLcO {N : List Nat × List Nat} {i : Nat} {y : Str} {py : Pos} (own : List (Str × Nat)) (hv : own.map (·.2) = vs) (hc : X.calm = true) (hN : X.N.Nodup) (hy : X.N[i]? = some y) (hyl : X.env.scope.names.lookup y = some .local)
    (hsw : swapsWith (.ListComp elt [⟨tg, iter, ifs, 0⟩] scope pos) (some (.Name y py)) spos.line X.env = pure true) (hi : PDI X tg iter ti) (ok : BlkOk X.N X.env.scope scope own)
    (hg : ∀ (s : Shared) (H : Hp) (C : Addr) (cl : List (Str × Addr)) (fp : List Addr), PDC (X.blk s H scope (compEnvC scope cl C X.env) fp) vs tg g) (ht : ∀ (s : Shared) (H : Hp) (C : Addr) (cl : List (Str × Addr)) (fp : List Addr), PDTs (X.blk s H scope (compEnvC scope cl C X.env) fp) ifs tt)
    (he : ∀ (s : Shared) (H : Hp) (C : Addr) (cl : List (Str × Addr)) (fp : List Addr), PD (X.blk s H scope (compEnvC scope cl C X.env) fp) elt te) (hM : i ∉ N.1 := by decide) (hs : ∀ x, foldedSetIterable iter X.env x = pure x := by intro _; rfl) :
    PSD X N (.Assign [.Name y py] (.ListComp elt [⟨tg, iter, ifs, 0⟩] scope pos) spos) (tdSet i (tdLc ti g tt te vs)) := by
  subst hv
  exact psd_setLc (keep := true) hc hN hy hyl hsw hi ok (fun i h => h) hg ht he hM hs
theorem psd_setLcD {N : List Nat × List Nat} {i : Nat} {y : Str} {py : Pos} (own : List (Str × Nat)) (hv : own.map (·.2) = vs) (hc : X.calm = true) (hN : X.N.Nodup) (hy : X.N[i]? = some y) (hyl : X.env.scope.names.lookup y = some .local)
    (hsw : swapsWith (.ListComp elt [⟨tg, iter, ifs, 0⟩] scope pos) (some (.Name y py)) spos.line X.env = pure true) (hi : PDI X tg iter ti) (ok : BlkOk X.N X.env.scope scope own)
    (hg : ∀ (s : Shared) (H : Hp) (C : Addr) (cl : List (Str × Addr)) (fp : List Addr), PDC (X.blk s H scope (compEnvC scope cl C X.env) fp) vs tg g) (ht : ∀ (s : Shared) (H : Hp) (C : Addr) (cl : List (Str × Addr)) (fp : List Addr), PDTs (X.blk s H scope (compEnvC scope cl C X.env) fp) ifs tt)
    (he : ∀ (s : Shared) (H : Hp) (C : Addr) (cl : List (Str × Addr)) (fp : List Addr), PD (X.blk s H scope (compEnvC scope cl C X.env) fp) elt te) (hM : i ∉ N.1 := by decide) (hs : ∀ x, foldedSetIterable iter X.env x = pure x := by intro _; rfl) :
    PSD X N (.Assign [.Name y py] (.ListComp elt [⟨tg, iter, ifs, 0⟩] scope pos) spos) (tdSetD i (tdLc ti g tt te vs)) := by
  subst hv
  exact psd_setLc (keep := false) hc hN hy hyl hsw hi ok (fun i h => h) hg ht he hM hs
end
end DL

set_option Elab.async false
set_option linter.all false
set_option maxRecDepth 100000
set_option maxHeartbeats 4000000
set_option autoImplicit false
namespace DL
open PySem PySem.Spec L2
/-! ### what readings come to -/
theorem ixNat {n j : Nat} (hj : j < n) : ixN n (j : Int) = some j := by
  unfold ixN
  rw [if_pos (Int.natCast_nonneg _), if_pos (by omega), Int.toNat_natCast]
section
variable {α : Type} {a b c d : α} {r : List α}
theorem at0 : atI (a :: r) 0 = some a := atI_nat (j := 0) rfl
theorem at1 : atI (a :: b :: r) 1 = some b := atI_nat (j := 1) rfl
theorem at2 : atI (a :: b :: c :: r) 2 = some c := atI_nat (j := 2) rfl
theorem at3 : atI (a :: b :: c :: d :: r) 3 = some d := atI_nat (j := 3) rfl
theorem ix0 : ixN (a :: r).length 0 = some 0 := ixNat (j := 0) (by simp)
theorem ix1 : ixN (a :: b :: r).length 1 = some 1 := ixNat (j := 1) (by simp)
theorem ix2 : ixN (a :: b :: c :: r).length 2 = some 2 := ixNat (j := 2) (by simp)
theorem ix3 : ixN (a :: b :: c :: d :: r).length 3 = some 3 := ixNat (j := 3) (by simp)
end
theorem ix40 : ixN 4 0 = some 0 := rfl
theorem ix41 : ixN 4 1 = some 1 := rfl
theorem ix42 : ixN 4 2 = some 2 := rfl
theorem ix43 : ixN 4 3 = some 3 := rfl
theorem sh_int {i : Int} : SeqAt.shaped (.int i) = true := by simp [SeqAt.shaped, PyData.canLay0, PyData.depth]
theorem sh_bl {i : Bool} : SeqAt.shaped (.bool i) = true := by simp [SeqAt.shaped, PyData.canLay0, PyData.depth]
theorem sh_non : SeqAt.shaped .none = true := by simp [SeqAt.shaped, PyData.canLay0, PyData.depth]
theorem eqv_int {i j : Int} : PyData.eqv (.int i) (.int j) = decide (i = j) := by simp [PyData.eqv]; rfl
theorem eqv_bl {i j : Bool} : PyData.eqv (.bool i) (.bool j) = decide (i = j) := by simp [PyData.eqv]; rfl
theorem eqv_str {i j : Str} : PyData.eqv (.str i) (.str j) = decide (i = j) := by simp only [PyData.eqv]; by_cases h : i = j <;> simp [h]
/-- for, by an invariant -/
theorem for_use {ti : TDI} {g : TDG} {tb : TDS} {D : DE} {env : En} (Pv : List PyData → Nat → En → Prop) (h : ti env fun xs env1 => Pv xs 0 env1 ∧ (∀ i x env, xs[i]? = some x → Pv xs i env → g x env fun env2 => tb { D with nx := Pv xs (i + 1), ct := Pv xs (i + 1), bk := D.nx } env2) ∧ ∀ env, Pv xs xs.length env → D.nx env)
    (hm : ∀ (P P' : List PyData → En → Prop), (∀ xs env, P xs env → P' xs env) → ti env P → ti env P') : tdFor ti g tb D env := hm _ _ (fun xs env h => ⟨Pv xs, h⟩) h
/-! ### the tape of draws -/
def TapeOk (tp : List PyData) : Prop := ∃ (ns : List Int) (p q m : Int), tp = [.list (ns.map .int), .int p, .int q, .int m] ∧ 0 ≤ p
def spTape : FD := fun args Q => ∃ ns : List Int, args = [.d (.list (ns.map .int))] ∧ ∀ tp os, TapeOk tp → Q (.l tp) os
def spDraw : FD := fun args Q => ∃ (tp : List PyData) (many : Int), args = [.l tp, .d (.int many)] ∧ many < 2 ^ 62 ∧ TapeOk tp ∧ ∀ r tp' os, TapeOk tp' → 0 ≤ r → (1 ≤ many → r < many) → (many < 1 → r = 0) → os 0 = some (.l tp') → Q (.d (.int r)) os
def rTape : TDS := (tdSeq (tdSetD 1 (tdC (.int 7)))
  (tdSeq (tdFor (tdIt (tdV 0)) (gdName 2) (tdSetD 1 (tdBin rdMod (tdB rdInt (tdCons (tdBin rdAdd (tdBin rdMul (tdV 1) (tdC (.int 31))) (tdB rdAbs (tdCons (tdB rdInt (tdCons (tdV 2) tdNil)) tdNil))) tdNil)) (tdC (.int 2147483647)))))
  (tdRet ([], []) (tdLst (tdCons (tdB rdList (tdCons (tdV 0) tdNil)) (tdCons (tdC (.int 0)) (tdCons (tdC (.int 0)) (tdCons (tdV 1) tdNil))))))))
def rDraw : TDS := (tdSeq (tdIfS (tdTest (tdBin rdEq (tdBin rdIx (tdV 0) (tdC (.int 2))) (tdC (.int 0)))) (tdSeq (tdSetD 2 (tdBin rdIx (tdV 0) (tdC (.int 1))))
  (tdSeq (tdSetD 3 (tdC (.int 0)))
  (tdSeq (tdIfS (tdTest (tdBin (rdCmp fun i j => decide (i < j)) (tdV 2) (tdB rdLen (tdCons (tdBin rdIx (tdV 0) (tdC (.int 0))) tdNil)))) (tdSetD 3 (tdB rdAbs (tdCons (tdB rdInt (tdCons (tdBin rdIx (tdBin rdIx (tdV 0) (tdC (.int 0))) (tdV 2)) tdNil)) tdNil))) (tdSeq (tdSetIx 0 (tdC (.int 3)) (tdBin rdMod (tdB rdInt (tdCons (tdBin rdAdd (tdBin rdAdd (tdBin rdMul (tdBin rdIx (tdV 0) (tdC (.int 3))) (tdC (.int 48271))) (tdV 2)) (tdC (.int 1))) tdNil)) (tdC (.int 2147483647))))
  (tdSetD 3 (tdBin rdIx (tdV 0) (tdC (.int 3))))))
  (tdSeq (tdSetIx 0 (tdC (.int 1)) (tdBin rdAdd (tdV 2) (tdC (.int 1))))
  (tdSeq (tdIfS (tdTest (tdBin (rdCmp fun i j => decide (i < j)) (tdV 3) (tdBin rdPow (tdC (.int 10)) (tdC (.int 18))))) (tdSeq (tdSetD 3 (tdBin rdMod (tdB rdInt (tdCons (tdBin rdAdd (tdBin rdAdd (tdBin rdMul (tdV 3) (tdC (.int 48271))) (tdBin rdMul (tdV 2) (tdC (.int 69621)))) (tdC (.int 5))) tdNil)) (tdC (.int 2147483647))))
  (tdSeq (tdSetD 3 (tdBin rdMod (tdB rdInt (tdCons (tdBin rdMul (tdV 3) (tdC (.int 69621))) tdNil)) (tdC (.int 2147483629))))
  (tdRet ([0], []) (tdBin rdMod (tdB rdInt (tdCons (tdV 3) tdNil)) (tdB rdMax2 (tdCons (tdV 1) (tdCons (tdC (.int 1)) tdNil))))))) tdNext)
  (tdSetIx 0 (tdC (.int 2)) (tdV 3))))))) tdNext)
  (tdSeq (tdSetD 3 (tdBin rdIx (tdV 0) (tdC (.int 2))))
  (tdSeq (tdSetIx 0 (tdC (.int 2)) (tdBin rdDiv (tdV 3) (tdB rdMax2 (tdCons (tdV 1) (tdCons (tdC (.int 2)) tdNil)))))
  (tdRet ([0], []) (tdBin rdMod (tdB rdInt (tdCons (tdV 3) tdNil)) (tdB rdMax2 (tdCons (tdV 1) (tdCons (tdC (.int 1)) tdNil))))))))
theorem hDraw (args : List Sl) (Q : Sl → (Nat → Option Sl) → Prop) (hl : args.length = 2) (h : spDraw args Q) : rDraw { nx := fun env => Q (.d .none) (osOf env), rt := fun r env => Q r (osOf env) } (startE 4 args) := by
  obtain ⟨tp, many, rfl, hmany, ⟨ns, p, q, m, rfl, hp⟩, k⟩ := h
  have k' : ∀ (n p q m : Int) x2 x3 M, 0 ≤ p → 0 < M → (1 ≤ many → M = many) → (many < 1 → M = 1) → Q (.d (.int (n % M))) (osOf [some (.l [.list (ns.map .int), .int p, .int q, .int m]), some (.d (.int many)), x2, x3]) := fun n p q m x2 x3 M hp hM h1 h2 =>
    k _ _ _ ⟨ns, p, q, m, rfl, hp⟩ (Int.emod_nonneg _ (by omega)) (fun h => by rw [← h1 h]; exact Int.emod_lt_of_pos _ hM) (fun h => by rw [h2 h]; exact Int.emod_one _) rfl
  have hDv : ∀ {x : Int}, CDivW x (if 2 > many then 2 else many) := fun {x} => by
    have h2 : (if 2 > many then 2 else many) < 2 ^ 62 ∧ 0 < (if 2 > many then 2 else many) := by
      by_cases h : 2 > many
      · rw [if_pos h]; exact ⟨by decide, by decide⟩
      · rw [if_neg h]; exact ⟨hmany, by omega⟩
    refine ⟨h2.2, ?_⟩
    rcases Nat.eq_zero_or_pos (if 2 > many then 2 else many).natAbs with e | e
    · rw [e]; decide
    · exact (Nat.log2_lt (by omega)).mpr (Nat.lt_of_lt_of_le (m := 2 ^ 62) (by omega) (Nat.pow_le_pow_right (by decide) (by decide)))
  have cp : CPow 10 18 := by unfold CPow; decide
  have cm : ∀ (x y : Int), -18446744073709551616 < y → y < 18446744073709551616 → CMul x y := fun x y h1 h2 => .inr ⟨by omega, by omega⟩
  have m1 : 0 < (if 1 > many then 1 else many) ∧ (1 ≤ many → (if 1 > many then 1 else many) = many) ∧ (many < 1 → (if 1 > many then 1 else many) = 1) := by
    by_cases h : 1 > many
    · rw [if_pos h]; exact ⟨by omega, fun h2 => by omega, fun _ => rfl⟩
    · rw [if_neg h]; exact ⟨by omega, fun _ => rfl, fun h2 => by omega⟩
  unfold rDraw
  have fin : ∀ (q p m : Int) (x2 : Option Sl), 0 ≤ p → (0 < (if 1 > many then 1 else many)) ∧ Q (.d (.int (q % (if 1 > many then 1 else many)))) (osOf [some (.l [.list (ns.map .int), .int p, .int (q / if 2 > many then 2 else many), .int m]), some (.d (.int many)), x2, some (.d (.int q))]) := fun q p m x2 hp =>
    ⟨m1.1, k' _ _ _ _ _ _ _ hp m1.1 m1.2.1 m1.2.2⟩
  by_cases hq : q = 0
  · by_cases hp2 : p < ns.length
    · obtain ⟨k0, rfl⟩ : ∃ k : Nat, p = k := ⟨p.toNat, by omega⟩
      have hk : k0 < ns.length := by omega
      have e1 : atI (ns.map PyData.int) (k0 : Int) = some (.int ns[k0]) := atI_nat (by rw [List.getElem?_map, List.getElem?_eq_getElem hk]; rfl)
      generalize ha : (if ns[k0] < 0 then -ns[k0] else ns[k0]) = av
      by_cases h18 : av < (10 : Int) ^ (18 : Int).toNat
      · simp only [hq, hp2, e1, ha, h18, cp, ↓startE, ↓tdSeq, ↓tdSet, ↓tdSetD, ↓tdDrop, ↓tdRet, ↓tdIfS, ↓tdNext, ↓tdAsg, ↓tdV, ↓tdC, ↓tdBin, ↓tdB, ↓tdCons, ↓tdNil, ↓tdTup, ↓tdLst, ↓tdTest, ↓tdAnd, ↓tdOr, ↓tdNot, ↓tdIf, ↓tdAndV, ↓tdOrV, ↓tdNotV, ↓tdNeg, ↓tdIsN, ↓tdNotN, ↓tdSl, ↓tdPart, ↓tdNoPart, ↓tdM, ↓tdSetIx, ↓tdAug, ↓tdPut, ↓tdGet2, ↓tdIsi, ↓tdListRg, ↓gdName, ↓gdNil, ↓gdCons, ↓gdTup, ↓tdIt, ↓tdRng1, ↓tdRng2, ↓tdCall, ↓tdNew, ↓tdJoin, ↓gcName, ↓gcNil, ↓gcCons, ↓gcTup, ↓tdYes, ↓res, ↓resR, ↓resAll, ↓rvD, ↓rdLen, ↓rdInt, ↓rdAbs, ↓rdMax2, ↓rdMin2, ↓rdOrd, ↓rdTuple, ↓rdList, ↓rdIx, ↓rdAdd, ↓rdSub, ↓rdMul, ↓rdMod, ↓rdDiv, ↓rdPow, ↓rdCmp, ↓rdEq, ↓rdNe, ↓rdIadd, ↓rdIn, ↓rdSorted, ↓rdSl, ↓isT, ↓rdAppend, ↓itemsOf, ↓rvOf, ↓argsOf, ↓argOf, Nat.reduceAdd, Nat.reduceLT, Nat.reduceSub, Int.reduceLT, Int.reduceLE, Int.reduceAdd, Int.reduceEq, Int.reduceNeg, Nat.reduceLeDiff, Nat.zero_add, Nat.reduceEqDiff, Nat.reduceBEq, ix41, ix42, ix43, ix40, List.length_cons, List.length_nil, List.map_cons, List.map_nil, List.replicate, List.cons_append, List.nil_append, List.getElem?_cons_zero, List.getElem?_cons_succ, List.set_cons_zero, List.set_cons_succ, Option.map_some, at0, at1, at2, at3, ix0, ix1, ix2, ix3, sh_int, sh_bl, sh_non, eqv_int, eqv_bl, eqv_str, decide_eq_true_eq, Bool.not_eq_true, Bool.not_true, Bool.not_false, Bool.false_eq_true, true_and, and_true, if_true, if_false, ite_true, ite_false, List.length_map, List.length_set, Sl.isD, List.mem_singleton, List.mem_cons, List.not_mem_nil, not_true_eq_false, not_false_eq_true, or_false]
        exact ⟨cm _ _ (by decide) (by decide), cm _ _ (by decide) (by decide), cm _ _ (by decide) (by decide), m1.1, k' _ _ _ _ _ _ _ (by omega) m1.1 m1.2.1 m1.2.2⟩
      · simp only [hq, hp2, e1, ha, h18, cp, ↓startE, ↓tdSeq, ↓tdSet, ↓tdSetD, ↓tdDrop, ↓tdRet, ↓tdIfS, ↓tdNext, ↓tdAsg, ↓tdV, ↓tdC, ↓tdBin, ↓tdB, ↓tdCons, ↓tdNil, ↓tdTup, ↓tdLst, ↓tdTest, ↓tdAnd, ↓tdOr, ↓tdNot, ↓tdIf, ↓tdAndV, ↓tdOrV, ↓tdNotV, ↓tdNeg, ↓tdIsN, ↓tdNotN, ↓tdSl, ↓tdPart, ↓tdNoPart, ↓tdM, ↓tdSetIx, ↓tdAug, ↓tdPut, ↓tdGet2, ↓tdIsi, ↓tdListRg, ↓gdName, ↓gdNil, ↓gdCons, ↓gdTup, ↓tdIt, ↓tdRng1, ↓tdRng2, ↓tdCall, ↓tdNew, ↓tdJoin, ↓gcName, ↓gcNil, ↓gcCons, ↓gcTup, ↓tdYes, ↓res, ↓resR, ↓resAll, ↓rvD, ↓rdLen, ↓rdInt, ↓rdAbs, ↓rdMax2, ↓rdMin2, ↓rdOrd, ↓rdTuple, ↓rdList, ↓rdIx, ↓rdAdd, ↓rdSub, ↓rdMul, ↓rdMod, ↓rdDiv, ↓rdPow, ↓rdCmp, ↓rdEq, ↓rdNe, ↓rdIadd, ↓rdIn, ↓rdSorted, ↓rdSl, ↓isT, ↓rdAppend, ↓itemsOf, ↓rvOf, ↓argsOf, ↓argOf, Nat.reduceAdd, Nat.reduceLT, Nat.reduceSub, Int.reduceLT, Int.reduceLE, Int.reduceAdd, Int.reduceEq, Int.reduceNeg, Nat.reduceLeDiff, Nat.zero_add, Nat.reduceEqDiff, Nat.reduceBEq, ix41, ix42, ix43, ix40, List.length_cons, List.length_nil, List.map_cons, List.map_nil, List.replicate, List.cons_append, List.nil_append, List.getElem?_cons_zero, List.getElem?_cons_succ, List.set_cons_zero, List.set_cons_succ, Option.map_some, at0, at1, at2, at3, ix0, ix1, ix2, ix3, sh_int, sh_bl, sh_non, eqv_int, eqv_bl, eqv_str, decide_eq_true_eq, Bool.not_eq_true, Bool.not_true, Bool.not_false, Bool.false_eq_true, true_and, and_true, if_true, if_false, ite_true, ite_false, List.length_map, List.length_set, Sl.isD, List.mem_singleton, List.mem_cons, List.not_mem_nil, not_true_eq_false, not_false_eq_true, or_false]
        exact ⟨hDv, fin _ _ _ _ (by omega)⟩
    · generalize ha : (m * 48271 + p + 1) % 2147483647 = av
      by_cases h18 : av < (10 : Int) ^ (18 : Int).toNat
      · simp only [hq, hp2, ha, h18, cp, ↓startE, ↓tdSeq, ↓tdSet, ↓tdSetD, ↓tdDrop, ↓tdRet, ↓tdIfS, ↓tdNext, ↓tdAsg, ↓tdV, ↓tdC, ↓tdBin, ↓tdB, ↓tdCons, ↓tdNil, ↓tdTup, ↓tdLst, ↓tdTest, ↓tdAnd, ↓tdOr, ↓tdNot, ↓tdIf, ↓tdAndV, ↓tdOrV, ↓tdNotV, ↓tdNeg, ↓tdIsN, ↓tdNotN, ↓tdSl, ↓tdPart, ↓tdNoPart, ↓tdM, ↓tdSetIx, ↓tdAug, ↓tdPut, ↓tdGet2, ↓tdIsi, ↓tdListRg, ↓gdName, ↓gdNil, ↓gdCons, ↓gdTup, ↓tdIt, ↓tdRng1, ↓tdRng2, ↓tdCall, ↓tdNew, ↓tdJoin, ↓gcName, ↓gcNil, ↓gcCons, ↓gcTup, ↓tdYes, ↓res, ↓resR, ↓resAll, ↓rvD, ↓rdLen, ↓rdInt, ↓rdAbs, ↓rdMax2, ↓rdMin2, ↓rdOrd, ↓rdTuple, ↓rdList, ↓rdIx, ↓rdAdd, ↓rdSub, ↓rdMul, ↓rdMod, ↓rdDiv, ↓rdPow, ↓rdCmp, ↓rdEq, ↓rdNe, ↓rdIadd, ↓rdIn, ↓rdSorted, ↓rdSl, ↓isT, ↓rdAppend, ↓itemsOf, ↓rvOf, ↓argsOf, ↓argOf, Nat.reduceAdd, Nat.reduceLT, Nat.reduceSub, Int.reduceLT, Int.reduceLE, Int.reduceAdd, Int.reduceEq, Int.reduceNeg, Nat.reduceLeDiff, Nat.zero_add, Nat.reduceEqDiff, Nat.reduceBEq, ix41, ix42, ix43, ix40, List.length_cons, List.length_nil, List.map_cons, List.map_nil, List.replicate, List.cons_append, List.nil_append, List.getElem?_cons_zero, List.getElem?_cons_succ, List.set_cons_zero, List.set_cons_succ, Option.map_some, at0, at1, at2, at3, ix0, ix1, ix2, ix3, sh_int, sh_bl, sh_non, eqv_int, eqv_bl, eqv_str, decide_eq_true_eq, Bool.not_eq_true, Bool.not_true, Bool.not_false, Bool.false_eq_true, true_and, and_true, if_true, if_false, ite_true, ite_false, List.length_map, List.length_set, Sl.isD, List.mem_singleton, List.mem_cons, List.not_mem_nil, not_true_eq_false, not_false_eq_true, or_false]
        exact ⟨cm _ _ (by decide) (by decide), cm _ _ (by decide) (by decide), cm _ _ (by decide) (by decide), cm _ _ (by decide) (by decide), m1.1, k' _ _ _ _ _ _ _ (by omega) m1.1 m1.2.1 m1.2.2⟩
      · simp only [hq, hp2, ha, h18, cp, ↓startE, ↓tdSeq, ↓tdSet, ↓tdSetD, ↓tdDrop, ↓tdRet, ↓tdIfS, ↓tdNext, ↓tdAsg, ↓tdV, ↓tdC, ↓tdBin, ↓tdB, ↓tdCons, ↓tdNil, ↓tdTup, ↓tdLst, ↓tdTest, ↓tdAnd, ↓tdOr, ↓tdNot, ↓tdIf, ↓tdAndV, ↓tdOrV, ↓tdNotV, ↓tdNeg, ↓tdIsN, ↓tdNotN, ↓tdSl, ↓tdPart, ↓tdNoPart, ↓tdM, ↓tdSetIx, ↓tdAug, ↓tdPut, ↓tdGet2, ↓tdIsi, ↓tdListRg, ↓gdName, ↓gdNil, ↓gdCons, ↓gdTup, ↓tdIt, ↓tdRng1, ↓tdRng2, ↓tdCall, ↓tdNew, ↓tdJoin, ↓gcName, ↓gcNil, ↓gcCons, ↓gcTup, ↓tdYes, ↓res, ↓resR, ↓resAll, ↓rvD, ↓rdLen, ↓rdInt, ↓rdAbs, ↓rdMax2, ↓rdMin2, ↓rdOrd, ↓rdTuple, ↓rdList, ↓rdIx, ↓rdAdd, ↓rdSub, ↓rdMul, ↓rdMod, ↓rdDiv, ↓rdPow, ↓rdCmp, ↓rdEq, ↓rdNe, ↓rdIadd, ↓rdIn, ↓rdSorted, ↓rdSl, ↓isT, ↓rdAppend, ↓itemsOf, ↓rvOf, ↓argsOf, ↓argOf, Nat.reduceAdd, Nat.reduceLT, Nat.reduceSub, Int.reduceLT, Int.reduceLE, Int.reduceAdd, Int.reduceEq, Int.reduceNeg, Nat.reduceLeDiff, Nat.zero_add, Nat.reduceEqDiff, Nat.reduceBEq, ix41, ix42, ix43, ix40, List.length_cons, List.length_nil, List.map_cons, List.map_nil, List.replicate, List.cons_append, List.nil_append, List.getElem?_cons_zero, List.getElem?_cons_succ, List.set_cons_zero, List.set_cons_succ, Option.map_some, at0, at1, at2, at3, ix0, ix1, ix2, ix3, sh_int, sh_bl, sh_non, eqv_int, eqv_bl, eqv_str, decide_eq_true_eq, Bool.not_eq_true, Bool.not_true, Bool.not_false, Bool.false_eq_true, true_and, and_true, if_true, if_false, ite_true, ite_false, List.length_map, List.length_set, Sl.isD, List.mem_singleton, List.mem_cons, List.not_mem_nil, not_true_eq_false, not_false_eq_true, or_false]
        exact ⟨cm _ _ (by decide) (by decide), hDv, fin _ _ _ _ (by omega)⟩
  · simp only [hq, ↓startE, ↓tdSeq, ↓tdSet, ↓tdSetD, ↓tdDrop, ↓tdRet, ↓tdIfS, ↓tdNext, ↓tdAsg, ↓tdV, ↓tdC, ↓tdBin, ↓tdB, ↓tdCons, ↓tdNil, ↓tdTup, ↓tdLst, ↓tdTest, ↓tdAnd, ↓tdOr, ↓tdNot, ↓tdIf, ↓tdAndV, ↓tdOrV, ↓tdNotV, ↓tdNeg, ↓tdIsN, ↓tdNotN, ↓tdSl, ↓tdPart, ↓tdNoPart, ↓tdM, ↓tdSetIx, ↓tdAug, ↓tdPut, ↓tdGet2, ↓tdIsi, ↓tdListRg, ↓gdName, ↓gdNil, ↓gdCons, ↓gdTup, ↓tdIt, ↓tdRng1, ↓tdRng2, ↓tdCall, ↓tdNew, ↓tdJoin, ↓gcName, ↓gcNil, ↓gcCons, ↓gcTup, ↓tdYes, ↓res, ↓resR, ↓resAll, ↓rvD, ↓rdLen, ↓rdInt, ↓rdAbs, ↓rdMax2, ↓rdMin2, ↓rdOrd, ↓rdTuple, ↓rdList, ↓rdIx, ↓rdAdd, ↓rdSub, ↓rdMul, ↓rdMod, ↓rdDiv, ↓rdPow, ↓rdCmp, ↓rdEq, ↓rdNe, ↓rdIadd, ↓rdIn, ↓rdSorted, ↓rdSl, ↓isT, ↓rdAppend, ↓itemsOf, ↓rvOf, ↓argsOf, ↓argOf, Nat.reduceAdd, Nat.reduceLT, Nat.reduceSub, Int.reduceLT, Int.reduceLE, Int.reduceAdd, Int.reduceEq, Int.reduceNeg, Nat.reduceLeDiff, Nat.zero_add, Nat.reduceEqDiff, Nat.reduceBEq, ix41, ix42, ix43, ix40, List.length_cons, List.length_nil, List.map_cons, List.map_nil, List.replicate, List.cons_append, List.nil_append, List.getElem?_cons_zero, List.getElem?_cons_succ, List.set_cons_zero, List.set_cons_succ, Option.map_some, at0, at1, at2, at3, ix0, ix1, ix2, ix3, sh_int, sh_bl, sh_non, eqv_int, eqv_bl, eqv_str, decide_eq_true_eq, Bool.not_eq_true, Bool.not_true, Bool.not_false, Bool.false_eq_true, true_and, and_true, if_true, if_false, ite_true, ite_false, List.length_map, List.length_set, Sl.isD, List.mem_singleton, List.mem_cons, List.not_mem_nil, not_true_eq_false, not_false_eq_true, or_false]
    exact ⟨hDv, fin _ _ _ _ hp⟩
/-- what the lent list holds behind a call, by its place -/
def ios (s : Sl) (os : Nat → Option Sl) : Nat → Option Sl := fun i => if i = 0 then some s else os i
theorem ios_eq {s : Sl} {os : Nat → Option Sl} (h : os 0 = some s) : ios s os = os := by
  funext i
  unfold ios
  by_cases e : i = 0
  · rw [if_pos e, e, h]
  · rw [if_neg e]
theorem outE_i {j : Nat} {r : List Rv} {s : Sl} {os : Nat → Option Sl} {env : En} : outE ([0], []) (.o j :: r) (ios s os) env = env.set j (some s) := rfl
theorem outE_n {r : List Rv} {os : Nat → Option Sl} {env : En} : outE ([], []) r os env = env := rfl
theorem outE_m {r : List Rv} {m : List Nat} {os : Nat → Option Sl} {env : En} : outE ([], m) r os env = env := rfl
theorem seq_i {t u : TDS} {D : DE} {env : En} (h : ∀ Kc : En → Prop, Kc = u D → t { D with nx := Kc } env) : tdSeq t u D env := h _ rfl
theorem draw_if {tp : List PyData} {many : Int} {Q : Sl → (Nat → Option Sl) → Prop} : spDraw [.l tp, .d (.int many)] Q = (many < 2 ^ 62 ∧ TapeOk tp ∧ ∀ (r : Int) (tp' : List PyData) (os : Nat → Option Sl), TapeOk tp' → 0 ≤ r → (1 ≤ many → r < many) → (many < 1 → r = 0) → Q (.d (.int r)) (ios (.l tp') os)) := by
  refine propext ⟨fun ⟨tp2, m2, e, h1, h2, h3⟩ => ?_, fun ⟨h1, h2, h3⟩ => ⟨tp, many, rfl, h1, h2, fun r tp' os a b c d e => ?_⟩⟩
  · cases e
    exact ⟨h1, h2, fun r tp' os a b c d => h3 r tp' _ a b c d rfl⟩
  · have := h3 r tp' os a b c d
    rwa [ios_eq e] at this
def spPick : FD := fun args Q => ∃ (tp : List PyData) (menu : PyData) (xs : List PyData), args = [.l tp, .d menu] ∧ itemsOf menu = some xs ∧ 1 ≤ xs.length ∧ xs.length ≤ sizeLine ∧ TapeOk tp ∧ ∀ x tp' os, TapeOk tp' → x ∈ xs → os 0 = some (.l tp') → Q (.d x) os
theorem pick_if {tp : List PyData} {menu : PyData} {Q : Sl → (Nat → Option Sl) → Prop} : spPick [.l tp, .d menu] Q = ∃ xs, itemsOf menu = some xs ∧ 1 ≤ xs.length ∧ xs.length ≤ sizeLine ∧ TapeOk tp ∧ ∀ (x : PyData) (tp' : List PyData) (os : Nat → Option Sl), TapeOk tp' → x ∈ xs → Q (.d x) (ios (.l tp') os) := by
  refine propext ⟨fun ⟨tp2, m2, xs, e, h1, h2, h3, h4, h5⟩ => ?_, fun ⟨xs, h1, h2, h3, h4, h5⟩ => ⟨tp, menu, xs, rfl, h1, h2, h3, h4, fun x tp' os a b e => ?_⟩⟩
  · cases e
    exact ⟨xs, h1, h2, h3, h4, fun x tp' os a b => h5 x tp' _ a b rfl⟩
  · have := h5 x tp' os a b
    rwa [ios_eq e] at this
def rPick : TDS := (tdRet ([0], []) (tdBin rdIx (tdV 1) (tdCall ([0], []) 2 spDraw (tdCons (tdV 0) (tdCons (tdB rdLen (tdCons (tdV 1) tdNil)) tdNil)))))
theorem hPick (args : List Sl) (Q : Sl → (Nat → Option Sl) → Prop) (hl : args.length = 2) (h : spPick args Q) : rPick { nx := fun env => Q (.d .none) (osOf env), rt := fun r env => Q r (osOf env) } (startE 2 args) := by
  obtain ⟨tp, menu, xs, rfl, hm, h1, h2, ht, k⟩ := h
  have hz : ((xs.length : Nat) : Int) < 2 ^ 62 := Int.lt_of_le_of_lt (Int.ofNat_le.mpr h2) (by decide)
  have fin : ∀ r : Int, 0 ≤ r → (1 ≤ ((xs.length : Nat) : Int) → r < ((xs.length : Nat) : Int)) → ∃ x, atI xs r = some x ∧ x ∈ xs := fun r a b => by
    obtain ⟨j, rfl⟩ : ∃ j : Nat, r = j := ⟨r.toNat, by omega⟩
    have hj : j < xs.length := by have := b (by omega); omega
    exact ⟨xs[j], atI_nat (by rw [List.getElem?_eq_getElem hj]), List.getElem_mem hj⟩
  unfold rPick
  cases menu with
  | list ys =>
    cases hm
    simp only [↓startE, ↓tdSeq, ↓tdSet, ↓tdSetD, ↓tdDrop, ↓tdRet, ↓tdIfS, ↓tdNext, ↓tdAsg, ↓tdV, ↓tdC, ↓tdBin, ↓tdB, ↓tdCons, ↓tdNil, ↓tdTup, ↓tdLst, ↓tdTest, ↓tdAnd, ↓tdOr, ↓tdNot, ↓tdIf, ↓tdAndV, ↓tdOrV, ↓tdNotV, ↓tdNeg, ↓tdIsN, ↓tdNotN, ↓tdSl, ↓tdPart, ↓tdNoPart, ↓tdM, ↓tdSetIx, ↓tdAug, ↓tdPut, ↓tdGet2, ↓tdIsi, ↓tdListRg, ↓gdName, ↓gdNil, ↓gdCons, ↓gdTup, ↓tdIt, ↓tdRng1, ↓tdRng2, ↓tdCall, ↓tdNew, ↓tdJoin, ↓gcName, ↓gcNil, ↓gcCons, ↓gcTup, ↓tdYes, ↓res, ↓resR, ↓resAll, ↓rvD, ↓rdLen, ↓rdInt, ↓rdAbs, ↓rdMax2, ↓rdMin2, ↓rdOrd, ↓rdTuple, ↓rdList, ↓rdIx, ↓rdAdd, ↓rdSub, ↓rdMul, ↓rdMod, ↓rdDiv, ↓rdPow, ↓rdCmp, ↓rdEq, ↓rdNe, ↓rdIadd, ↓rdIn, ↓rdSorted, ↓rdSl, ↓isT, ↓rdAppend, ↓itemsOf, ↓rvOf, ↓argsOf, ↓argOf, Nat.reduceAdd, Nat.reduceLT, Nat.reduceSub, Int.reduceLT, Int.reduceLE, Int.reduceAdd, Int.reduceEq, Int.reduceNeg, Nat.reduceLeDiff, Nat.zero_add, Nat.reduceEqDiff, Nat.reduceBEq, ix41, ix42, ix43, ix40, List.length_cons, List.length_nil, List.map_cons, List.map_nil, List.replicate, List.cons_append, List.nil_append, List.getElem?_cons_zero, List.getElem?_cons_succ, List.set_cons_zero, List.set_cons_succ, Option.map_some, at0, at1, at2, at3, ix0, ix1, ix2, ix3, sh_int, sh_bl, sh_non, eqv_int, eqv_bl, eqv_str, decide_eq_true_eq, Bool.not_eq_true, Bool.not_true, Bool.not_false, Bool.false_eq_true, true_and, and_true, if_true, if_false, ite_true, ite_false, List.length_map, List.length_set, Sl.isD, List.mem_singleton, List.mem_cons, List.not_mem_nil, not_true_eq_false, not_false_eq_true, or_false, ↓draw_if, outE_i]
    refine ⟨hz, ht, fun r tp' os t1 a b _ => ?_⟩
    obtain ⟨x, e1, e2⟩ := fin r a b
    simp only [e1, ↓startE, ↓tdSeq, ↓tdSet, ↓tdSetD, ↓tdDrop, ↓tdRet, ↓tdIfS, ↓tdNext, ↓tdAsg, ↓tdV, ↓tdC, ↓tdBin, ↓tdB, ↓tdCons, ↓tdNil, ↓tdTup, ↓tdLst, ↓tdTest, ↓tdAnd, ↓tdOr, ↓tdNot, ↓tdIf, ↓tdAndV, ↓tdOrV, ↓tdNotV, ↓tdNeg, ↓tdIsN, ↓tdNotN, ↓tdSl, ↓tdPart, ↓tdNoPart, ↓tdM, ↓tdSetIx, ↓tdAug, ↓tdPut, ↓tdGet2, ↓tdIsi, ↓tdListRg, ↓gdName, ↓gdNil, ↓gdCons, ↓gdTup, ↓tdIt, ↓tdRng1, ↓tdRng2, ↓tdCall, ↓tdNew, ↓tdJoin, ↓gcName, ↓gcNil, ↓gcCons, ↓gcTup, ↓tdYes, ↓res, ↓resR, ↓resAll, ↓rvD, ↓rdLen, ↓rdInt, ↓rdAbs, ↓rdMax2, ↓rdMin2, ↓rdOrd, ↓rdTuple, ↓rdList, ↓rdIx, ↓rdAdd, ↓rdSub, ↓rdMul, ↓rdMod, ↓rdDiv, ↓rdPow, ↓rdCmp, ↓rdEq, ↓rdNe, ↓rdIadd, ↓rdIn, ↓rdSorted, ↓rdSl, ↓isT, ↓rdAppend, ↓itemsOf, ↓rvOf, ↓argsOf, ↓argOf, Nat.reduceAdd, Nat.reduceLT, Nat.reduceSub, Int.reduceLT, Int.reduceLE, Int.reduceAdd, Int.reduceEq, Int.reduceNeg, Nat.reduceLeDiff, Nat.zero_add, Nat.reduceEqDiff, Nat.reduceBEq, ix41, ix42, ix43, ix40, List.length_cons, List.length_nil, List.map_cons, List.map_nil, List.replicate, List.cons_append, List.nil_append, List.getElem?_cons_zero, List.getElem?_cons_succ, List.set_cons_zero, List.set_cons_succ, Option.map_some, at0, at1, at2, at3, ix0, ix1, ix2, ix3, sh_int, sh_bl, sh_non, eqv_int, eqv_bl, eqv_str, decide_eq_true_eq, Bool.not_eq_true, Bool.not_true, Bool.not_false, Bool.false_eq_true, true_and, and_true, if_true, if_false, ite_true, ite_false, List.length_map, List.length_set, Sl.isD, List.mem_singleton, List.mem_cons, List.not_mem_nil, not_true_eq_false, not_false_eq_true, or_false]
    exact k x tp' _ t1 e2 rfl
  | tuple ys =>
    cases hm
    simp only [↓startE, ↓tdSeq, ↓tdSet, ↓tdSetD, ↓tdDrop, ↓tdRet, ↓tdIfS, ↓tdNext, ↓tdAsg, ↓tdV, ↓tdC, ↓tdBin, ↓tdB, ↓tdCons, ↓tdNil, ↓tdTup, ↓tdLst, ↓tdTest, ↓tdAnd, ↓tdOr, ↓tdNot, ↓tdIf, ↓tdAndV, ↓tdOrV, ↓tdNotV, ↓tdNeg, ↓tdIsN, ↓tdNotN, ↓tdSl, ↓tdPart, ↓tdNoPart, ↓tdM, ↓tdSetIx, ↓tdAug, ↓tdPut, ↓tdGet2, ↓tdIsi, ↓tdListRg, ↓gdName, ↓gdNil, ↓gdCons, ↓gdTup, ↓tdIt, ↓tdRng1, ↓tdRng2, ↓tdCall, ↓tdNew, ↓tdJoin, ↓gcName, ↓gcNil, ↓gcCons, ↓gcTup, ↓tdYes, ↓res, ↓resR, ↓resAll, ↓rvD, ↓rdLen, ↓rdInt, ↓rdAbs, ↓rdMax2, ↓rdMin2, ↓rdOrd, ↓rdTuple, ↓rdList, ↓rdIx, ↓rdAdd, ↓rdSub, ↓rdMul, ↓rdMod, ↓rdDiv, ↓rdPow, ↓rdCmp, ↓rdEq, ↓rdNe, ↓rdIadd, ↓rdIn, ↓rdSorted, ↓rdSl, ↓isT, ↓rdAppend, ↓itemsOf, ↓rvOf, ↓argsOf, ↓argOf, Nat.reduceAdd, Nat.reduceLT, Nat.reduceSub, Int.reduceLT, Int.reduceLE, Int.reduceAdd, Int.reduceEq, Int.reduceNeg, Nat.reduceLeDiff, Nat.zero_add, Nat.reduceEqDiff, Nat.reduceBEq, ix41, ix42, ix43, ix40, List.length_cons, List.length_nil, List.map_cons, List.map_nil, List.replicate, List.cons_append, List.nil_append, List.getElem?_cons_zero, List.getElem?_cons_succ, List.set_cons_zero, List.set_cons_succ, Option.map_some, at0, at1, at2, at3, ix0, ix1, ix2, ix3, sh_int, sh_bl, sh_non, eqv_int, eqv_bl, eqv_str, decide_eq_true_eq, Bool.not_eq_true, Bool.not_true, Bool.not_false, Bool.false_eq_true, true_and, and_true, if_true, if_false, ite_true, ite_false, List.length_map, List.length_set, Sl.isD, List.mem_singleton, List.mem_cons, List.not_mem_nil, not_true_eq_false, not_false_eq_true, or_false, ↓draw_if, outE_i]
    refine ⟨hz, ht, fun r tp' os t1 a b _ => ?_⟩
    obtain ⟨x, e1, e2⟩ := fin r a b
    simp only [e1, ↓startE, ↓tdSeq, ↓tdSet, ↓tdSetD, ↓tdDrop, ↓tdRet, ↓tdIfS, ↓tdNext, ↓tdAsg, ↓tdV, ↓tdC, ↓tdBin, ↓tdB, ↓tdCons, ↓tdNil, ↓tdTup, ↓tdLst, ↓tdTest, ↓tdAnd, ↓tdOr, ↓tdNot, ↓tdIf, ↓tdAndV, ↓tdOrV, ↓tdNotV, ↓tdNeg, ↓tdIsN, ↓tdNotN, ↓tdSl, ↓tdPart, ↓tdNoPart, ↓tdM, ↓tdSetIx, ↓tdAug, ↓tdPut, ↓tdGet2, ↓tdIsi, ↓tdListRg, ↓gdName, ↓gdNil, ↓gdCons, ↓gdTup, ↓tdIt, ↓tdRng1, ↓tdRng2, ↓tdCall, ↓tdNew, ↓tdJoin, ↓gcName, ↓gcNil, ↓gcCons, ↓gcTup, ↓tdYes, ↓res, ↓resR, ↓resAll, ↓rvD, ↓rdLen, ↓rdInt, ↓rdAbs, ↓rdMax2, ↓rdMin2, ↓rdOrd, ↓rdTuple, ↓rdList, ↓rdIx, ↓rdAdd, ↓rdSub, ↓rdMul, ↓rdMod, ↓rdDiv, ↓rdPow, ↓rdCmp, ↓rdEq, ↓rdNe, ↓rdIadd, ↓rdIn, ↓rdSorted, ↓rdSl, ↓isT, ↓rdAppend, ↓itemsOf, ↓rvOf, ↓argsOf, ↓argOf, Nat.reduceAdd, Nat.reduceLT, Nat.reduceSub, Int.reduceLT, Int.reduceLE, Int.reduceAdd, Int.reduceEq, Int.reduceNeg, Nat.reduceLeDiff, Nat.zero_add, Nat.reduceEqDiff, Nat.reduceBEq, ix41, ix42, ix43, ix40, List.length_cons, List.length_nil, List.map_cons, List.map_nil, List.replicate, List.cons_append, List.nil_append, List.getElem?_cons_zero, List.getElem?_cons_succ, List.set_cons_zero, List.set_cons_succ, Option.map_some, at0, at1, at2, at3, ix0, ix1, ix2, ix3, sh_int, sh_bl, sh_non, eqv_int, eqv_bl, eqv_str, decide_eq_true_eq, Bool.not_eq_true, Bool.not_true, Bool.not_false, Bool.false_eq_true, true_and, and_true, if_true, if_false, ite_true, ite_false, List.length_map, List.length_set, Sl.isD, List.mem_singleton, List.mem_cons, List.not_mem_nil, not_true_eq_false, not_false_eq_true, or_false]
    exact k x tp' _ t1 e2 rfl
  | str z =>
    cases hm
    rw [List.length_map, Array.length_toList] at hz h2
    simp only [↓startE, ↓tdSeq, ↓tdSet, ↓tdSetD, ↓tdDrop, ↓tdRet, ↓tdIfS, ↓tdNext, ↓tdAsg, ↓tdV, ↓tdC, ↓tdBin, ↓tdB, ↓tdCons, ↓tdNil, ↓tdTup, ↓tdLst, ↓tdTest, ↓tdAnd, ↓tdOr, ↓tdNot, ↓tdIf, ↓tdAndV, ↓tdOrV, ↓tdNotV, ↓tdNeg, ↓tdIsN, ↓tdNotN, ↓tdSl, ↓tdPart, ↓tdNoPart, ↓tdM, ↓tdSetIx, ↓tdAug, ↓tdPut, ↓tdGet2, ↓tdIsi, ↓tdListRg, ↓gdName, ↓gdNil, ↓gdCons, ↓gdTup, ↓tdIt, ↓tdRng1, ↓tdRng2, ↓tdCall, ↓tdNew, ↓tdJoin, ↓gcName, ↓gcNil, ↓gcCons, ↓gcTup, ↓tdYes, ↓res, ↓resR, ↓resAll, ↓rvD, ↓rdLen, ↓rdInt, ↓rdAbs, ↓rdMax2, ↓rdMin2, ↓rdOrd, ↓rdTuple, ↓rdList, ↓rdIx, ↓rdAdd, ↓rdSub, ↓rdMul, ↓rdMod, ↓rdDiv, ↓rdPow, ↓rdCmp, ↓rdEq, ↓rdNe, ↓rdIadd, ↓rdIn, ↓rdSorted, ↓rdSl, ↓isT, ↓rdAppend, ↓itemsOf, ↓rvOf, ↓argsOf, ↓argOf, Nat.reduceAdd, Nat.reduceLT, Nat.reduceSub, Int.reduceLT, Int.reduceLE, Int.reduceAdd, Int.reduceEq, Int.reduceNeg, Nat.reduceLeDiff, Nat.zero_add, Nat.reduceEqDiff, Nat.reduceBEq, ix41, ix42, ix43, ix40, List.length_cons, List.length_nil, List.map_cons, List.map_nil, List.replicate, List.cons_append, List.nil_append, List.getElem?_cons_zero, List.getElem?_cons_succ, List.set_cons_zero, List.set_cons_succ, Option.map_some, at0, at1, at2, at3, ix0, ix1, ix2, ix3, sh_int, sh_bl, sh_non, eqv_int, eqv_bl, eqv_str, decide_eq_true_eq, Bool.not_eq_true, Bool.not_true, Bool.not_false, Bool.false_eq_true, true_and, and_true, if_true, if_false, ite_true, ite_false, List.length_map, List.length_set, Sl.isD, List.mem_singleton, List.mem_cons, List.not_mem_nil, not_true_eq_false, not_false_eq_true, or_false, ↓draw_if, outE_i]
    refine ⟨h2, hz, ht, fun r tp' os t1 a b _ => ⟨h2, ?_⟩⟩
    obtain ⟨x, e1, e2⟩ := fin r a (by rw [List.length_map, Array.length_toList]; exact b)
    have e3 : ∃ c, atI z.cps.toList r = some c ∧ x = .str ⟨#[c]⟩ := by
      unfold atI at e1 ⊢
      rw [List.length_map] at e1
      obtain ⟨j, q1, q2⟩ := Option.bind_eq_some_iff.mp e1
      rw [List.getElem?_map] at q2
      obtain ⟨c, q3, q4⟩ := Option.map_eq_some_iff.mp q2
      exact ⟨c, by rw [q1]; exact q3, q4.symm⟩
    obtain ⟨c, e4, rfl⟩ := e3
    simp only [e4, ↓startE, ↓tdSeq, ↓tdSet, ↓tdSetD, ↓tdDrop, ↓tdRet, ↓tdIfS, ↓tdNext, ↓tdAsg, ↓tdV, ↓tdC, ↓tdBin, ↓tdB, ↓tdCons, ↓tdNil, ↓tdTup, ↓tdLst, ↓tdTest, ↓tdAnd, ↓tdOr, ↓tdNot, ↓tdIf, ↓tdAndV, ↓tdOrV, ↓tdNotV, ↓tdNeg, ↓tdIsN, ↓tdNotN, ↓tdSl, ↓tdPart, ↓tdNoPart, ↓tdM, ↓tdSetIx, ↓tdAug, ↓tdPut, ↓tdGet2, ↓tdIsi, ↓tdListRg, ↓gdName, ↓gdNil, ↓gdCons, ↓gdTup, ↓tdIt, ↓tdRng1, ↓tdRng2, ↓tdCall, ↓tdNew, ↓tdJoin, ↓gcName, ↓gcNil, ↓gcCons, ↓gcTup, ↓tdYes, ↓res, ↓resR, ↓resAll, ↓rvD, ↓rdLen, ↓rdInt, ↓rdAbs, ↓rdMax2, ↓rdMin2, ↓rdOrd, ↓rdTuple, ↓rdList, ↓rdIx, ↓rdAdd, ↓rdSub, ↓rdMul, ↓rdMod, ↓rdDiv, ↓rdPow, ↓rdCmp, ↓rdEq, ↓rdNe, ↓rdIadd, ↓rdIn, ↓rdSorted, ↓rdSl, ↓isT, ↓rdAppend, ↓itemsOf, ↓rvOf, ↓argsOf, ↓argOf, Nat.reduceAdd, Nat.reduceLT, Nat.reduceSub, Int.reduceLT, Int.reduceLE, Int.reduceAdd, Int.reduceEq, Int.reduceNeg, Nat.reduceLeDiff, Nat.zero_add, Nat.reduceEqDiff, Nat.reduceBEq, ix41, ix42, ix43, ix40, List.length_cons, List.length_nil, List.map_cons, List.map_nil, List.replicate, List.cons_append, List.nil_append, List.getElem?_cons_zero, List.getElem?_cons_succ, List.set_cons_zero, List.set_cons_succ, Option.map_some, at0, at1, at2, at3, ix0, ix1, ix2, ix3, sh_int, sh_bl, sh_non, eqv_int, eqv_bl, eqv_str, decide_eq_true_eq, Bool.not_eq_true, Bool.not_true, Bool.not_false, Bool.false_eq_true, true_and, and_true, if_true, if_false, ite_true, ite_false, List.length_map, List.length_set, Sl.isD, List.mem_singleton, List.mem_cons, List.not_mem_nil, not_true_eq_false, not_false_eq_true, or_false]
    exact k _ tp' _ t1 e2 rfl
  | _ => cases hm
theorem hTape (args : List Sl) (Q : Sl → (Nat → Option Sl) → Prop) (hl : args.length = 1) (h : spTape args Q) : rTape { nx := fun env => Q (.d .none) (osOf env), rt := fun r env => Q r (osOf env) } (startE 3 args) := by
  obtain ⟨ns, rfl, k⟩ := h
  unfold rTape
  refine seq_i fun Kc hK => ?_
  simp only [↓startE, ↓tdSeq, ↓tdSet, ↓tdSetD, ↓tdDrop, ↓tdRet, ↓tdIfS, ↓tdNext, ↓tdAsg, ↓tdV, ↓tdC, ↓tdBin, ↓tdB, ↓tdCons, ↓tdNil, ↓tdTup, ↓tdLst, ↓tdTest, ↓tdAnd, ↓tdOr, ↓tdNot, ↓tdIf, ↓tdAndV, ↓tdOrV, ↓tdNotV, ↓tdNeg, ↓tdIsN, ↓tdNotN, ↓tdSl, ↓tdPart, ↓tdNoPart, ↓tdM, ↓tdSetIx, ↓tdAug, ↓tdPut, ↓tdGet2, ↓tdIsi, ↓tdListRg, ↓gdName, ↓gdNil, ↓gdCons, ↓gdTup, ↓tdIt, ↓tdRng1, ↓tdRng2, ↓tdCall, ↓tdNew, ↓tdJoin, ↓gcName, ↓gcNil, ↓gcCons, ↓gcTup, ↓tdYes, ↓res, ↓resR, ↓resAll, ↓rvD, ↓rdLen, ↓rdInt, ↓rdAbs, ↓rdMax2, ↓rdMin2, ↓rdOrd, ↓rdTuple, ↓rdList, ↓rdIx, ↓rdAdd, ↓rdSub, ↓rdMul, ↓rdMod, ↓rdDiv, ↓rdPow, ↓rdCmp, ↓rdEq, ↓rdNe, ↓rdIadd, ↓rdIn, ↓rdSorted, ↓rdSl, ↓isT, ↓rdAppend, ↓itemsOf, ↓rvOf, ↓argsOf, ↓argOf, Nat.reduceAdd, Nat.reduceLT, Nat.reduceSub, Int.reduceLT, Int.reduceLE, Int.reduceAdd, Int.reduceEq, Int.reduceNeg, Nat.reduceLeDiff, Nat.zero_add, Nat.reduceEqDiff, Nat.reduceBEq, ix41, ix42, ix43, ix40, List.length_cons, List.length_nil, List.map_cons, List.map_nil, List.replicate, List.cons_append, List.nil_append, List.getElem?_cons_zero, List.getElem?_cons_succ, List.set_cons_zero, List.set_cons_succ, Option.map_some, at0, at1, at2, at3, ix0, ix1, ix2, ix3, sh_int, sh_bl, sh_non, eqv_int, eqv_bl, eqv_str, decide_eq_true_eq, Bool.not_eq_true, Bool.not_true, Bool.not_false, Bool.false_eq_true, true_and, and_true, if_true, if_false, ite_true, ite_false, List.length_map, List.length_set, Sl.isD, List.mem_singleton, List.mem_cons, List.not_mem_nil, not_true_eq_false, not_false_eq_true, or_false]
  subst hK
  refine seq_i fun Kc hK => ?_
  refine ⟨fun i env => ∃ (m : Int) (x : Option Sl), env = [some (.d (.list (ns.map .int))), some (.d (.int m)), x], ⟨7, none, rfl⟩, fun i x env hx hP => ?_, fun env hP => ?_⟩
  · obtain ⟨m, x2, rfl⟩ := hP
    rw [List.getElem?_map] at hx
    obtain ⟨n, hn, rfl⟩ := Option.map_eq_some_iff.mp hx
    simp only [↓startE, ↓tdSeq, ↓tdSet, ↓tdSetD, ↓tdDrop, ↓tdRet, ↓tdIfS, ↓tdNext, ↓tdAsg, ↓tdV, ↓tdC, ↓tdBin, ↓tdB, ↓tdCons, ↓tdNil, ↓tdTup, ↓tdLst, ↓tdTest, ↓tdAnd, ↓tdOr, ↓tdNot, ↓tdIf, ↓tdAndV, ↓tdOrV, ↓tdNotV, ↓tdNeg, ↓tdIsN, ↓tdNotN, ↓tdSl, ↓tdPart, ↓tdNoPart, ↓tdM, ↓tdSetIx, ↓tdAug, ↓tdPut, ↓tdGet2, ↓tdIsi, ↓tdListRg, ↓gdName, ↓gdNil, ↓gdCons, ↓gdTup, ↓tdIt, ↓tdRng1, ↓tdRng2, ↓tdCall, ↓tdNew, ↓tdJoin, ↓gcName, ↓gcNil, ↓gcCons, ↓gcTup, ↓tdYes, ↓res, ↓resR, ↓resAll, ↓rvD, ↓rdLen, ↓rdInt, ↓rdAbs, ↓rdMax2, ↓rdMin2, ↓rdOrd, ↓rdTuple, ↓rdList, ↓rdIx, ↓rdAdd, ↓rdSub, ↓rdMul, ↓rdMod, ↓rdDiv, ↓rdPow, ↓rdCmp, ↓rdEq, ↓rdNe, ↓rdIadd, ↓rdIn, ↓rdSorted, ↓rdSl, ↓isT, ↓rdAppend, ↓itemsOf, ↓rvOf, ↓argsOf, ↓argOf, Nat.reduceAdd, Nat.reduceLT, Nat.reduceSub, Int.reduceLT, Int.reduceLE, Int.reduceAdd, Int.reduceEq, Int.reduceNeg, Nat.reduceLeDiff, Nat.zero_add, Nat.reduceEqDiff, Nat.reduceBEq, ix41, ix42, ix43, ix40, List.length_cons, List.length_nil, List.map_cons, List.map_nil, List.replicate, List.cons_append, List.nil_append, List.getElem?_cons_zero, List.getElem?_cons_succ, List.set_cons_zero, List.set_cons_succ, Option.map_some, at0, at1, at2, at3, ix0, ix1, ix2, ix3, sh_int, sh_bl, sh_non, eqv_int, eqv_bl, eqv_str, decide_eq_true_eq, Bool.not_eq_true, Bool.not_true, Bool.not_false, Bool.false_eq_true, true_and, and_true, if_true, if_false, ite_true, ite_false, List.length_map, List.length_set, Sl.isD, List.mem_singleton, List.mem_cons, List.not_mem_nil, not_true_eq_false, not_false_eq_true, or_false]
    exact ⟨.inr ⟨by decide, by decide⟩, _, _, rfl⟩
  · obtain ⟨m, x2, rfl⟩ := hP
    subst hK
    simp only [↓startE, ↓tdSeq, ↓tdSet, ↓tdSetD, ↓tdDrop, ↓tdRet, ↓tdIfS, ↓tdNext, ↓tdAsg, ↓tdV, ↓tdC, ↓tdBin, ↓tdB, ↓tdCons, ↓tdNil, ↓tdTup, ↓tdLst, ↓tdTest, ↓tdAnd, ↓tdOr, ↓tdNot, ↓tdIf, ↓tdAndV, ↓tdOrV, ↓tdNotV, ↓tdNeg, ↓tdIsN, ↓tdNotN, ↓tdSl, ↓tdPart, ↓tdNoPart, ↓tdM, ↓tdSetIx, ↓tdAug, ↓tdPut, ↓tdGet2, ↓tdIsi, ↓tdListRg, ↓gdName, ↓gdNil, ↓gdCons, ↓gdTup, ↓tdIt, ↓tdRng1, ↓tdRng2, ↓tdCall, ↓tdNew, ↓tdJoin, ↓gcName, ↓gcNil, ↓gcCons, ↓gcTup, ↓tdYes, ↓res, ↓resR, ↓resAll, ↓rvD, ↓rdLen, ↓rdInt, ↓rdAbs, ↓rdMax2, ↓rdMin2, ↓rdOrd, ↓rdTuple, ↓rdList, ↓rdIx, ↓rdAdd, ↓rdSub, ↓rdMul, ↓rdMod, ↓rdDiv, ↓rdPow, ↓rdCmp, ↓rdEq, ↓rdNe, ↓rdIadd, ↓rdIn, ↓rdSorted, ↓rdSl, ↓isT, ↓rdAppend, ↓itemsOf, ↓rvOf, ↓argsOf, ↓argOf, Nat.reduceAdd, Nat.reduceLT, Nat.reduceSub, Int.reduceLT, Int.reduceLE, Int.reduceAdd, Int.reduceEq, Int.reduceNeg, Nat.reduceLeDiff, Nat.zero_add, Nat.reduceEqDiff, Nat.reduceBEq, ix41, ix42, ix43, ix40, List.length_cons, List.length_nil, List.map_cons, List.map_nil, List.replicate, List.cons_append, List.nil_append, List.getElem?_cons_zero, List.getElem?_cons_succ, List.set_cons_zero, List.set_cons_succ, Option.map_some, at0, at1, at2, at3, ix0, ix1, ix2, ix3, sh_int, sh_bl, sh_non, eqv_int, eqv_bl, eqv_str, decide_eq_true_eq, Bool.not_eq_true, Bool.not_true, Bool.not_false, Bool.false_eq_true, true_and, and_true, if_true, if_false, ite_true, ite_false, List.length_map, List.length_set, Sl.isD, List.mem_singleton, List.mem_cons, List.not_mem_nil, not_true_eq_false, not_false_eq_true, or_false]
    exact ⟨by decide, k _ _ ⟨ns, 0, 0, m, rfl, Int.le_refl 0⟩⟩
end DL

set_option Elab.async false
set_option linter.all false
set_option maxRecDepth 100000
set_option maxHeartbeats 4000000
set_option autoImplicit false
namespace DL
open PySem PySem.Spec L2
theorem cut_mem {xs : List PyData} {lo hi : Option Int} {x : PyData} (h : x ∈ cutL xs lo hi) : x ∈ xs := List.mem_of_mem_drop (List.mem_of_mem_take h)
theorem popAt {xs : List PyData} {r : Int} {Qd : PyData → List PyData → Prop} (h0 : 0 ≤ r) (h1 : r < xs.length) (hs : xs.length ≤ sizeLine) (h : ∀ (k : Nat) (y : PyData), r = k → xs[k]? = some y → Qd y (xs.eraseIdx k)) : rdPopAt xs [.int r] Qd := by
  obtain ⟨k, rfl⟩ : ∃ k : Nat, r = k := ⟨r.toNat, by omega⟩
  have hk : k < xs.length := by omega
  have hz : k < 2 ^ 24 := Nat.lt_of_lt_of_le hk hs
  have e : seqIndex? (k : Int) xs.length = some k := (ixN_seq (ixNat hk)).1
  unfold rdPopAt
  dsimp only
  rw [e]
  refine ⟨⟨by omega, by omega⟩, ?_⟩
  dsimp only
  rw [List.getElem?_eq_getElem hk]
  exact h k _ rfl (List.getElem?_eq_getElem hk)
def spTurns : FD := fun args Q => ∃ (tp : List PyData) (many : Int), args = [.l tp, .d (.int many)] ∧ 0 ≤ many ∧ many ≤ 1000 ∧ TapeOk tp ∧ ∀ (ns : List Int) tp' os, (∀ n ∈ ns, 0 ≤ n ∧ n < many) → TapeOk tp' → os 0 = some (.l tp') → Q (.l (ns.map .int)) os
def rTurns : TDS := (tdSeq (tdSet 2 (tdListRg (tdV 1)))
  (tdSeq (tdSet 3 (tdLst tdNil))
  (tdSeq (tdFor (tdRng1 (tdCons (tdV 1) tdNil)) (gdName 4) (tdDrop (tdM 3 rdAppend (tdCons (tdM 2 rdPopAt (tdCons (tdCall ([0], []) 2 spDraw (tdCons (tdV 0) (tdCons (tdB rdLen (tdCons (tdV 2) tdNil)) tdNil))) tdNil)) tdNil))))
  (tdRet ([0], []) (tdSl (tdV 3) tdNoPart (tdPart (tdBin rdIx (tdLst (tdCons (tdV 1) (tdCons (tdV 1) (tdCons (tdC (.int 1)) tdNil)))) (tdCall ([0], []) 2 spDraw (tdCons (tdV 0) (tdCons (tdC (.int 3)) tdNil))))))))))
theorem hTurns (args : List Sl) (Q : Sl → (Nat → Option Sl) → Prop) (hl : args.length = 2) (h : spTurns args Q) : rTurns { nx := fun env => Q (.d .none) (osOf env), rt := fun r env => Q r (osOf env) } (startE 5 args) := by
  obtain ⟨tp, many, rfl, h0, h1, ht, k⟩ := h
  obtain ⟨m, rfl⟩ : ∃ m : Nat, many = m := ⟨many.toNat, by omega⟩
  unfold rTurns
  refine seq_i fun Kc hK => ?_
  simp only [↓startE, ↓tdSeq, ↓tdSet, ↓tdSetD, ↓tdDrop, ↓tdRet, ↓tdIfS, ↓tdNext, ↓tdAsg, ↓tdV, ↓tdC, ↓tdBin, ↓tdB, ↓tdCons, ↓tdNil, ↓tdTup, ↓tdLst, ↓tdTest, ↓tdAnd, ↓tdOr, ↓tdNot, ↓tdIf, ↓tdAndV, ↓tdOrV, ↓tdNotV, ↓tdNeg, ↓tdIsN, ↓tdNotN, ↓tdSl, ↓tdPart, ↓tdNoPart, ↓tdM, ↓tdSetIx, ↓tdAug, ↓tdPut, ↓tdGet2, ↓tdIsi, ↓tdListRg, ↓gdName, ↓gdNil, ↓gdCons, ↓gdTup, ↓tdIt, ↓tdRng1, ↓tdRng2, ↓tdCall, ↓tdNew, ↓tdJoin, ↓gcName, ↓gcNil, ↓gcCons, ↓gcTup, ↓tdYes, ↓res, ↓resR, ↓resAll, ↓rvD, ↓rdLen, ↓rdInt, ↓rdAbs, ↓rdMax2, ↓rdMin2, ↓rdOrd, ↓rdTuple, ↓rdList, ↓rdIx, ↓rdAdd, ↓rdSub, ↓rdMul, ↓rdMod, ↓rdDiv, ↓rdPow, ↓rdCmp, ↓rdEq, ↓rdNe, ↓rdIadd, ↓rdIn, ↓rdSorted, ↓rdSl, ↓isT, ↓rdAppend, ↓itemsOf, ↓rvOf, ↓argsOf, ↓argOf, Nat.reduceAdd, Nat.reduceLT, Nat.reduceSub, Int.reduceLT, Int.reduceLE, Int.reduceAdd, Int.reduceEq, Int.reduceNeg, Nat.reduceLeDiff, Nat.zero_add, Nat.reduceEqDiff, Nat.reduceBEq, ix41, ix42, ix43, ix40, List.length_cons, List.length_nil, List.map_cons, List.map_nil, List.replicate, List.cons_append, List.nil_append, List.getElem?_cons_zero, List.getElem?_cons_succ, List.set_cons_zero, List.set_cons_succ, Option.map_some, at0, at1, at2, at3, ix0, ix1, ix2, ix3, sh_int, sh_bl, sh_non, eqv_int, eqv_bl, eqv_str, decide_eq_true_eq, Bool.not_eq_true, Bool.not_true, Bool.not_false, Bool.false_eq_true, true_and, and_true, if_true, if_false, ite_true, ite_false, List.length_map, List.length_set, Sl.isD, List.mem_singleton, List.mem_cons, List.not_mem_nil, not_true_eq_false, not_false_eq_true, or_false]
  refine ⟨⟨by omega, by omega⟩, ?_⟩
  subst hK
  refine seq_i fun Kc hK => ?_
  simp only [↓startE, ↓tdSeq, ↓tdSet, ↓tdSetD, ↓tdDrop, ↓tdRet, ↓tdIfS, ↓tdNext, ↓tdAsg, ↓tdV, ↓tdC, ↓tdBin, ↓tdB, ↓tdCons, ↓tdNil, ↓tdTup, ↓tdLst, ↓tdTest, ↓tdAnd, ↓tdOr, ↓tdNot, ↓tdIf, ↓tdAndV, ↓tdOrV, ↓tdNotV, ↓tdNeg, ↓tdIsN, ↓tdNotN, ↓tdSl, ↓tdPart, ↓tdNoPart, ↓tdM, ↓tdSetIx, ↓tdAug, ↓tdPut, ↓tdGet2, ↓tdIsi, ↓tdListRg, ↓gdName, ↓gdNil, ↓gdCons, ↓gdTup, ↓tdIt, ↓tdRng1, ↓tdRng2, ↓tdCall, ↓tdNew, ↓tdJoin, ↓gcName, ↓gcNil, ↓gcCons, ↓gcTup, ↓tdYes, ↓res, ↓resR, ↓resAll, ↓rvD, ↓rdLen, ↓rdInt, ↓rdAbs, ↓rdMax2, ↓rdMin2, ↓rdOrd, ↓rdTuple, ↓rdList, ↓rdIx, ↓rdAdd, ↓rdSub, ↓rdMul, ↓rdMod, ↓rdDiv, ↓rdPow, ↓rdCmp, ↓rdEq, ↓rdNe, ↓rdIadd, ↓rdIn, ↓rdSorted, ↓rdSl, ↓isT, ↓rdAppend, ↓itemsOf, ↓rvOf, ↓argsOf, ↓argOf, Nat.reduceAdd, Nat.reduceLT, Nat.reduceSub, Int.reduceLT, Int.reduceLE, Int.reduceAdd, Int.reduceEq, Int.reduceNeg, Nat.reduceLeDiff, Nat.zero_add, Nat.reduceEqDiff, Nat.reduceBEq, ix41, ix42, ix43, ix40, List.length_cons, List.length_nil, List.map_cons, List.map_nil, List.replicate, List.cons_append, List.nil_append, List.getElem?_cons_zero, List.getElem?_cons_succ, List.set_cons_zero, List.set_cons_succ, Option.map_some, at0, at1, at2, at3, ix0, ix1, ix2, ix3, sh_int, sh_bl, sh_non, eqv_int, eqv_bl, eqv_str, decide_eq_true_eq, Bool.not_eq_true, Bool.not_true, Bool.not_false, Bool.false_eq_true, true_and, and_true, if_true, if_false, ite_true, ite_false, List.length_map, List.length_set, Sl.isD, List.mem_singleton, List.mem_cons, List.not_mem_nil, not_true_eq_false, not_false_eq_true, or_false]
  subst hK
  refine ⟨by decide, ?_⟩
  refine seq_i fun Kc hK => ?_
  refine ⟨⟨by omega, by omega⟩, fun i env => ∃ (tp : List PyData) (hs ts : List Int) (x : Option Sl), env = [some (.l tp), some (.d (.int m)), some (.l (hs.map .int)), some (.l (ts.map .int)), x] ∧ TapeOk tp ∧ hs.length + i = m ∧ ts.length = i ∧ (∀ n ∈ hs, 0 ≤ n ∧ n < (m : Int)) ∧ ∀ n ∈ ts, 0 ≤ n ∧ n < (m : Int), ?_, fun i x env hx hP => ?_, fun env hP => ?_⟩
  · refine ⟨tp, (List.range m).map fun i => ((i : Nat) : Int), [], none, ?_, ht, by simp, rfl, fun n hn => ?_, fun n hn => by cases hn⟩
    · show _ = _
      unfold rngL
      simp
    · obtain ⟨a, ha, rfl⟩ := List.mem_map.mp hn
      have := List.mem_range.mp ha
      exact ⟨by omega, by omega⟩
  · obtain ⟨tp, hs, ts, x0, rfl, ht, e1, e2, hh, ht2⟩ := hP
    have hi : i < m := by
      have := (List.getElem?_eq_some_iff.mp hx).1
      unfold rngL at this
      simp at this
      omega
    simp only [↓startE, ↓tdSeq, ↓tdSet, ↓tdSetD, ↓tdDrop, ↓tdRet, ↓tdIfS, ↓tdNext, ↓tdAsg, ↓tdV, ↓tdC, ↓tdBin, ↓tdB, ↓tdCons, ↓tdNil, ↓tdTup, ↓tdLst, ↓tdTest, ↓tdAnd, ↓tdOr, ↓tdNot, ↓tdIf, ↓tdAndV, ↓tdOrV, ↓tdNotV, ↓tdNeg, ↓tdIsN, ↓tdNotN, ↓tdSl, ↓tdPart, ↓tdNoPart, ↓tdM, ↓tdSetIx, ↓tdAug, ↓tdPut, ↓tdGet2, ↓tdIsi, ↓tdListRg, ↓gdName, ↓gdNil, ↓gdCons, ↓gdTup, ↓tdIt, ↓tdRng1, ↓tdRng2, ↓tdCall, ↓tdNew, ↓tdJoin, ↓gcName, ↓gcNil, ↓gcCons, ↓gcTup, ↓tdYes, ↓res, ↓resR, ↓resAll, ↓rvD, ↓rdLen, ↓rdInt, ↓rdAbs, ↓rdMax2, ↓rdMin2, ↓rdOrd, ↓rdTuple, ↓rdList, ↓rdIx, ↓rdAdd, ↓rdSub, ↓rdMul, ↓rdMod, ↓rdDiv, ↓rdPow, ↓rdCmp, ↓rdEq, ↓rdNe, ↓rdIadd, ↓rdIn, ↓rdSorted, ↓rdSl, ↓isT, ↓rdAppend, ↓itemsOf, ↓rvOf, ↓argsOf, ↓argOf, Nat.reduceAdd, Nat.reduceLT, Nat.reduceSub, Int.reduceLT, Int.reduceLE, Int.reduceAdd, Int.reduceEq, Int.reduceNeg, Nat.reduceLeDiff, Nat.zero_add, Nat.reduceEqDiff, Nat.reduceBEq, ix41, ix42, ix43, ix40, List.length_cons, List.length_nil, List.map_cons, List.map_nil, List.replicate, List.cons_append, List.nil_append, List.getElem?_cons_zero, List.getElem?_cons_succ, List.set_cons_zero, List.set_cons_succ, Option.map_some, at0, at1, at2, at3, ix0, ix1, ix2, ix3, sh_int, sh_bl, sh_non, eqv_int, eqv_bl, eqv_str, decide_eq_true_eq, Bool.not_eq_true, Bool.not_true, Bool.not_false, Bool.false_eq_true, true_and, and_true, if_true, if_false, ite_true, ite_false, List.length_map, List.length_set, Sl.isD, List.mem_singleton, List.mem_cons, List.not_mem_nil, not_true_eq_false, not_false_eq_true, or_false]
    rw [draw_if]
    refine ⟨by omega, ht, fun r tp' os t1 a b _ => ?_⟩
    have hr := b (by omega)
    simp only [outE_i, ↓startE, ↓tdSeq, ↓tdSet, ↓tdSetD, ↓tdDrop, ↓tdRet, ↓tdIfS, ↓tdNext, ↓tdAsg, ↓tdV, ↓tdC, ↓tdBin, ↓tdB, ↓tdCons, ↓tdNil, ↓tdTup, ↓tdLst, ↓tdTest, ↓tdAnd, ↓tdOr, ↓tdNot, ↓tdIf, ↓tdAndV, ↓tdOrV, ↓tdNotV, ↓tdNeg, ↓tdIsN, ↓tdNotN, ↓tdSl, ↓tdPart, ↓tdNoPart, ↓tdM, ↓tdSetIx, ↓tdAug, ↓tdPut, ↓tdGet2, ↓tdIsi, ↓tdListRg, ↓gdName, ↓gdNil, ↓gdCons, ↓gdTup, ↓tdIt, ↓tdRng1, ↓tdRng2, ↓tdCall, ↓tdNew, ↓tdJoin, ↓gcName, ↓gcNil, ↓gcCons, ↓gcTup, ↓tdYes, ↓res, ↓resR, ↓resAll, ↓rvD, ↓rdLen, ↓rdInt, ↓rdAbs, ↓rdMax2, ↓rdMin2, ↓rdOrd, ↓rdTuple, ↓rdList, ↓rdIx, ↓rdAdd, ↓rdSub, ↓rdMul, ↓rdMod, ↓rdDiv, ↓rdPow, ↓rdCmp, ↓rdEq, ↓rdNe, ↓rdIadd, ↓rdIn, ↓rdSorted, ↓rdSl, ↓isT, ↓rdAppend, ↓itemsOf, ↓rvOf, ↓argsOf, ↓argOf, Nat.reduceAdd, Nat.reduceLT, Nat.reduceSub, Int.reduceLT, Int.reduceLE, Int.reduceAdd, Int.reduceEq, Int.reduceNeg, Nat.reduceLeDiff, Nat.zero_add, Nat.reduceEqDiff, Nat.reduceBEq, ix41, ix42, ix43, ix40, List.length_cons, List.length_nil, List.map_cons, List.map_nil, List.replicate, List.cons_append, List.nil_append, List.getElem?_cons_zero, List.getElem?_cons_succ, List.set_cons_zero, List.set_cons_succ, Option.map_some, at0, at1, at2, at3, ix0, ix1, ix2, ix3, sh_int, sh_bl, sh_non, eqv_int, eqv_bl, eqv_str, decide_eq_true_eq, Bool.not_eq_true, Bool.not_true, Bool.not_false, Bool.false_eq_true, true_and, and_true, if_true, if_false, ite_true, ite_false, List.length_map, List.length_set, Sl.isD, List.mem_singleton, List.mem_cons, List.not_mem_nil, not_true_eq_false, not_false_eq_true, or_false]
    refine popAt a (by rw [List.length_map]; exact hr) (by rw [List.length_map]; exact Nat.le_trans (by omega) (show 1000 ≤ sizeLine by decide)) fun j y ej hj => ?_
    rw [List.getElem?_map] at hj
    obtain ⟨n, hn, rfl⟩ := Option.map_eq_some_iff.mp hj
    refine ⟨Nat.lt_of_lt_of_le (show ts.length < 1001 by omega) (by decide), tp', hs.eraseIdx j, ts ++ [n], some (.d x), ?_, t1, ?_, by simp [e2], fun n hn => hh n (List.mem_of_mem_eraseIdx hn), fun n' hn' => ?_⟩
    · have ee : (hs.map PyData.int).eraseIdx j = (hs.eraseIdx j).map PyData.int := by
        rw [List.eraseIdx_eq_take_drop_succ, List.eraseIdx_eq_take_drop_succ, List.map_append, List.map_take, List.map_drop]
      rw [List.map_append, ee]; rfl
    · rw [List.length_eraseIdx, if_pos (by omega)]; omega
    · rcases List.mem_append.mp hn' with q | q
      · exact ht2 n' q
      · rw [List.mem_singleton.mp q]; exact hh n (List.mem_of_getElem? hn)
  · obtain ⟨tp, hs, ts, x0, rfl, ht, e1, e2, hh, ht2⟩ := hP
    subst hK
    simp only [↓draw_if, outE_i, ↓startE, ↓tdSeq, ↓tdSet, ↓tdSetD, ↓tdDrop, ↓tdRet, ↓tdIfS, ↓tdNext, ↓tdAsg, ↓tdV, ↓tdC, ↓tdBin, ↓tdB, ↓tdCons, ↓tdNil, ↓tdTup, ↓tdLst, ↓tdTest, ↓tdAnd, ↓tdOr, ↓tdNot, ↓tdIf, ↓tdAndV, ↓tdOrV, ↓tdNotV, ↓tdNeg, ↓tdIsN, ↓tdNotN, ↓tdSl, ↓tdPart, ↓tdNoPart, ↓tdM, ↓tdSetIx, ↓tdAug, ↓tdPut, ↓tdGet2, ↓tdIsi, ↓tdListRg, ↓gdName, ↓gdNil, ↓gdCons, ↓gdTup, ↓tdIt, ↓tdRng1, ↓tdRng2, ↓tdCall, ↓tdNew, ↓tdJoin, ↓gcName, ↓gcNil, ↓gcCons, ↓gcTup, ↓tdYes, ↓res, ↓resR, ↓resAll, ↓rvD, ↓rdLen, ↓rdInt, ↓rdAbs, ↓rdMax2, ↓rdMin2, ↓rdOrd, ↓rdTuple, ↓rdList, ↓rdIx, ↓rdAdd, ↓rdSub, ↓rdMul, ↓rdMod, ↓rdDiv, ↓rdPow, ↓rdCmp, ↓rdEq, ↓rdNe, ↓rdIadd, ↓rdIn, ↓rdSorted, ↓rdSl, ↓isT, ↓rdAppend, ↓itemsOf, ↓rvOf, ↓argsOf, ↓argOf, Nat.reduceAdd, Nat.reduceLT, Nat.reduceSub, Int.reduceLT, Int.reduceLE, Int.reduceAdd, Int.reduceEq, Int.reduceNeg, Nat.reduceLeDiff, Nat.zero_add, Nat.reduceEqDiff, Nat.reduceBEq, ix41, ix42, ix43, ix40, List.length_cons, List.length_nil, List.map_cons, List.map_nil, List.replicate, List.cons_append, List.nil_append, List.getElem?_cons_zero, List.getElem?_cons_succ, List.set_cons_zero, List.set_cons_succ, Option.map_some, at0, at1, at2, at3, ix0, ix1, ix2, ix3, sh_int, sh_bl, sh_non, eqv_int, eqv_bl, eqv_str, decide_eq_true_eq, Bool.not_eq_true, Bool.not_true, Bool.not_false, Bool.false_eq_true, true_and, and_true, if_true, if_false, ite_true, ite_false, List.length_map, List.length_set, Sl.isD, List.mem_singleton, List.mem_cons, List.not_mem_nil, not_true_eq_false, not_false_eq_true, or_false]
    refine ⟨by decide, by decide, ht, fun r tp' os t1 a b _ => ?_⟩
    have hr := b (by decide)
    have fin : ∀ z : Int, Q (.l (cutL (ts.map .int) none (some z))) (osOf [some (.l tp'), some (.d (.int m)), some (.l (hs.map .int)), some (.l (ts.map .int)), x0]) := fun z => by
      have := k (((ts.drop (HT.sIx ts.length 0 none)).take (HT.sIx ts.length ts.length (some z) - HT.sIx ts.length 0 none))) tp' (osOf [some (.l tp'), some (.d (.int m)), some (.l (hs.map .int)), some (.l (ts.map .int)), x0]) (fun n hn => ht2 n (List.mem_of_mem_drop (List.mem_of_mem_take hn))) t1 rfl
      unfold cutL
      rwa [List.length_map, ← List.map_drop, ← List.map_take]
    rcases (show r = 0 ∨ r = 1 ∨ r = 2 by omega) with rfl | rfl | rfl
    · simp only [↓startE, ↓tdSeq, ↓tdSet, ↓tdSetD, ↓tdDrop, ↓tdRet, ↓tdIfS, ↓tdNext, ↓tdAsg, ↓tdV, ↓tdC, ↓tdBin, ↓tdB, ↓tdCons, ↓tdNil, ↓tdTup, ↓tdLst, ↓tdTest, ↓tdAnd, ↓tdOr, ↓tdNot, ↓tdIf, ↓tdAndV, ↓tdOrV, ↓tdNotV, ↓tdNeg, ↓tdIsN, ↓tdNotN, ↓tdSl, ↓tdPart, ↓tdNoPart, ↓tdM, ↓tdSetIx, ↓tdAug, ↓tdPut, ↓tdGet2, ↓tdIsi, ↓tdListRg, ↓gdName, ↓gdNil, ↓gdCons, ↓gdTup, ↓tdIt, ↓tdRng1, ↓tdRng2, ↓tdCall, ↓tdNew, ↓tdJoin, ↓gcName, ↓gcNil, ↓gcCons, ↓gcTup, ↓tdYes, ↓res, ↓resR, ↓resAll, ↓rvD, ↓rdLen, ↓rdInt, ↓rdAbs, ↓rdMax2, ↓rdMin2, ↓rdOrd, ↓rdTuple, ↓rdList, ↓rdIx, ↓rdAdd, ↓rdSub, ↓rdMul, ↓rdMod, ↓rdDiv, ↓rdPow, ↓rdCmp, ↓rdEq, ↓rdNe, ↓rdIadd, ↓rdIn, ↓rdSorted, ↓rdSl, ↓isT, ↓rdAppend, ↓itemsOf, ↓rvOf, ↓argsOf, ↓argOf, Nat.reduceAdd, Nat.reduceLT, Nat.reduceSub, Int.reduceLT, Int.reduceLE, Int.reduceAdd, Int.reduceEq, Int.reduceNeg, Nat.reduceLeDiff, Nat.zero_add, Nat.reduceEqDiff, Nat.reduceBEq, ix41, ix42, ix43, ix40, List.length_cons, List.length_nil, List.map_cons, List.map_nil, List.replicate, List.cons_append, List.nil_append, List.getElem?_cons_zero, List.getElem?_cons_succ, List.set_cons_zero, List.set_cons_succ, Option.map_some, at0, at1, at2, at3, ix0, ix1, ix2, ix3, sh_int, sh_bl, sh_non, eqv_int, eqv_bl, eqv_str, decide_eq_true_eq, Bool.not_eq_true, Bool.not_true, Bool.not_false, Bool.false_eq_true, true_and, and_true, if_true, if_false, ite_true, ite_false, List.length_map, List.length_set, Sl.isD, List.mem_singleton, List.mem_cons, List.not_mem_nil, not_true_eq_false, not_false_eq_true, or_false]; exact fin _
    · simp only [↓startE, ↓tdSeq, ↓tdSet, ↓tdSetD, ↓tdDrop, ↓tdRet, ↓tdIfS, ↓tdNext, ↓tdAsg, ↓tdV, ↓tdC, ↓tdBin, ↓tdB, ↓tdCons, ↓tdNil, ↓tdTup, ↓tdLst, ↓tdTest, ↓tdAnd, ↓tdOr, ↓tdNot, ↓tdIf, ↓tdAndV, ↓tdOrV, ↓tdNotV, ↓tdNeg, ↓tdIsN, ↓tdNotN, ↓tdSl, ↓tdPart, ↓tdNoPart, ↓tdM, ↓tdSetIx, ↓tdAug, ↓tdPut, ↓tdGet2, ↓tdIsi, ↓tdListRg, ↓gdName, ↓gdNil, ↓gdCons, ↓gdTup, ↓tdIt, ↓tdRng1, ↓tdRng2, ↓tdCall, ↓tdNew, ↓tdJoin, ↓gcName, ↓gcNil, ↓gcCons, ↓gcTup, ↓tdYes, ↓res, ↓resR, ↓resAll, ↓rvD, ↓rdLen, ↓rdInt, ↓rdAbs, ↓rdMax2, ↓rdMin2, ↓rdOrd, ↓rdTuple, ↓rdList, ↓rdIx, ↓rdAdd, ↓rdSub, ↓rdMul, ↓rdMod, ↓rdDiv, ↓rdPow, ↓rdCmp, ↓rdEq, ↓rdNe, ↓rdIadd, ↓rdIn, ↓rdSorted, ↓rdSl, ↓isT, ↓rdAppend, ↓itemsOf, ↓rvOf, ↓argsOf, ↓argOf, Nat.reduceAdd, Nat.reduceLT, Nat.reduceSub, Int.reduceLT, Int.reduceLE, Int.reduceAdd, Int.reduceEq, Int.reduceNeg, Nat.reduceLeDiff, Nat.zero_add, Nat.reduceEqDiff, Nat.reduceBEq, ix41, ix42, ix43, ix40, List.length_cons, List.length_nil, List.map_cons, List.map_nil, List.replicate, List.cons_append, List.nil_append, List.getElem?_cons_zero, List.getElem?_cons_succ, List.set_cons_zero, List.set_cons_succ, Option.map_some, at0, at1, at2, at3, ix0, ix1, ix2, ix3, sh_int, sh_bl, sh_non, eqv_int, eqv_bl, eqv_str, decide_eq_true_eq, Bool.not_eq_true, Bool.not_true, Bool.not_false, Bool.false_eq_true, true_and, and_true, if_true, if_false, ite_true, ite_false, List.length_map, List.length_set, Sl.isD, List.mem_singleton, List.mem_cons, List.not_mem_nil, not_true_eq_false, not_false_eq_true, or_false]; exact fin _
    · simp only [↓startE, ↓tdSeq, ↓tdSet, ↓tdSetD, ↓tdDrop, ↓tdRet, ↓tdIfS, ↓tdNext, ↓tdAsg, ↓tdV, ↓tdC, ↓tdBin, ↓tdB, ↓tdCons, ↓tdNil, ↓tdTup, ↓tdLst, ↓tdTest, ↓tdAnd, ↓tdOr, ↓tdNot, ↓tdIf, ↓tdAndV, ↓tdOrV, ↓tdNotV, ↓tdNeg, ↓tdIsN, ↓tdNotN, ↓tdSl, ↓tdPart, ↓tdNoPart, ↓tdM, ↓tdSetIx, ↓tdAug, ↓tdPut, ↓tdGet2, ↓tdIsi, ↓tdListRg, ↓gdName, ↓gdNil, ↓gdCons, ↓gdTup, ↓tdIt, ↓tdRng1, ↓tdRng2, ↓tdCall, ↓tdNew, ↓tdJoin, ↓gcName, ↓gcNil, ↓gcCons, ↓gcTup, ↓tdYes, ↓res, ↓resR, ↓resAll, ↓rvD, ↓rdLen, ↓rdInt, ↓rdAbs, ↓rdMax2, ↓rdMin2, ↓rdOrd, ↓rdTuple, ↓rdList, ↓rdIx, ↓rdAdd, ↓rdSub, ↓rdMul, ↓rdMod, ↓rdDiv, ↓rdPow, ↓rdCmp, ↓rdEq, ↓rdNe, ↓rdIadd, ↓rdIn, ↓rdSorted, ↓rdSl, ↓isT, ↓rdAppend, ↓itemsOf, ↓rvOf, ↓argsOf, ↓argOf, Nat.reduceAdd, Nat.reduceLT, Nat.reduceSub, Int.reduceLT, Int.reduceLE, Int.reduceAdd, Int.reduceEq, Int.reduceNeg, Nat.reduceLeDiff, Nat.zero_add, Nat.reduceEqDiff, Nat.reduceBEq, ix41, ix42, ix43, ix40, List.length_cons, List.length_nil, List.map_cons, List.map_nil, List.replicate, List.cons_append, List.nil_append, List.getElem?_cons_zero, List.getElem?_cons_succ, List.set_cons_zero, List.set_cons_succ, Option.map_some, at0, at1, at2, at3, ix0, ix1, ix2, ix3, sh_int, sh_bl, sh_non, eqv_int, eqv_bl, eqv_str, decide_eq_true_eq, Bool.not_eq_true, Bool.not_true, Bool.not_false, Bool.false_eq_true, true_and, and_true, if_true, if_false, ite_true, ite_false, List.length_map, List.length_set, Sl.isD, List.mem_singleton, List.mem_cons, List.not_mem_nil, not_true_eq_false, not_false_eq_true, or_false]; exact fin _
/-! ### the law's own test of two values -/
def sameB : Nat → PyData → Bool
  | _, .none => true
  | _, .bool _ => true
  | _, .int _ => true
  | _, .str z => z.cps.all (· < 0x110000)
  | d + 1, .tuple xs => decide (xs.length ≤ sizeLine) && xs.all (sameB d)
  | _, _ => false
def spSameD : Nat → FD
  | 0 => fun _ _ => False
  | d + 1 => fun args Q => ∃ x, args = [.d x, .d x] ∧ sameB d x = true ∧ ∀ os, Q (.d (.bool true)) os
def rSame (sp_law_same : FD) : TDS := (tdSeq (tdIfS (tdTest (tdIsi "tuple" (tdV 1))) (tdSeq (tdIfS (tdOr (tdNot (tdTest (tdIsi "tuple" (tdV 0)))) (tdTest (tdBin rdNe (tdB rdLen (tdCons (tdV 0) tdNil)) (tdB rdLen (tdCons (tdV 1) tdNil))))) (tdRet ([], []) (tdC (.bool false))) tdNext)
  (tdSeq (tdFor (tdRng1 (tdCons (tdB rdLen (tdCons (tdV 1) tdNil)) tdNil)) (gdName 2) (tdIfS (tdNot (tdTest (tdCall ([], []) 2 sp_law_same (tdCons (tdBin rdIx (tdV 0) (tdV 2)) (tdCons (tdBin rdIx (tdV 1) (tdV 2)) tdNil))))) (tdRet ([], []) (tdC (.bool false))) tdNext))
  (tdRet ([], []) (tdC (.bool true))))) tdNext)
  (tdSeq (tdIfS (tdOr (tdTest (tdIsN (tdV 1))) (tdTest (tdIsN (tdV 0)))) (tdRet ([], []) (tdAndV (tdIsN (tdV 1)) (tdIsN (tdV 0)))) tdNext)
  (tdSeq (tdIfS (tdTest (tdIsi "str" (tdV 1))) (tdRet ([], []) (tdAndV (tdIsi "str" (tdV 0)) (tdBin rdEq (tdV 0) (tdV 1)))) tdNext)
  (tdSeq (tdIfS (tdOr (tdTest (tdBin rdNe (tdIsi "bool" (tdV 0)) (tdIsi "bool" (tdV 1)))) (tdNot (tdTest (tdIsi "int" (tdV 0))))) (tdRet ([], []) (tdC (.bool false))) tdNext)
  (tdRet ([], []) (tdBin rdEq (tdV 0) (tdV 1)))))))
theorem hSame (j : Nat) (args : List Sl) (Q : Sl → (Nat → Option Sl) → Prop) (hl : args.length = 2) (h : spSameD (j + 1) args Q) : rSame (spSameD j) { nx := fun env => Q (.d .none) (osOf env), rt := fun r env => Q r (osOf env) } (startE 3 args) := by
  obtain ⟨x, rfl, hx, k⟩ := h
  unfold rSame
  cases x with
  | none => simp only [↓startE, ↓tdSeq, ↓tdSet, ↓tdSetD, ↓tdDrop, ↓tdRet, ↓tdIfS, ↓tdNext, ↓tdAsg, ↓tdV, ↓tdC, ↓tdBin, ↓tdB, ↓tdCons, ↓tdNil, ↓tdTup, ↓tdLst, ↓tdTest, ↓tdAnd, ↓tdOr, ↓tdNot, ↓tdIf, ↓tdAndV, ↓tdOrV, ↓tdNotV, ↓tdNeg, ↓tdIsN, ↓tdNotN, ↓tdSl, ↓tdPart, ↓tdNoPart, ↓tdM, ↓tdSetIx, ↓tdAug, ↓tdPut, ↓tdGet2, ↓tdIsi, ↓tdListRg, ↓gdName, ↓gdNil, ↓gdCons, ↓gdTup, ↓tdIt, ↓tdRng1, ↓tdRng2, ↓tdCall, ↓tdNew, ↓tdJoin, ↓gcName, ↓gcNil, ↓gcCons, ↓gcTup, ↓tdYes, ↓res, ↓resR, ↓resAll, ↓rvD, ↓rdLen, ↓rdInt, ↓rdAbs, ↓rdMax2, ↓rdMin2, ↓rdOrd, ↓rdTuple, ↓rdList, ↓rdIx, ↓rdAdd, ↓rdSub, ↓rdMul, ↓rdMod, ↓rdDiv, ↓rdPow, ↓rdCmp, ↓rdEq, ↓rdNe, ↓rdIadd, ↓rdIn, ↓rdSorted, ↓rdSl, ↓isT, ↓rdAppend, ↓itemsOf, ↓rvOf, ↓argsOf, ↓argOf, Nat.reduceAdd, Nat.reduceLT, Nat.reduceSub, Int.reduceLT, Int.reduceLE, Int.reduceAdd, Int.reduceEq, Int.reduceNeg, Nat.reduceLeDiff, Nat.zero_add, Nat.reduceEqDiff, Nat.reduceBEq, ix41, ix42, ix43, ix40, List.length_cons, List.length_nil, List.map_cons, List.map_nil, List.replicate, List.cons_append, List.nil_append, List.getElem?_cons_zero, List.getElem?_cons_succ, List.set_cons_zero, List.set_cons_succ, Option.map_some, at0, at1, at2, at3, ix0, ix1, ix2, ix3, sh_int, sh_bl, sh_non, eqv_int, eqv_bl, eqv_str, decide_eq_true_eq, Bool.not_eq_true, Bool.not_true, Bool.not_false, Bool.false_eq_true, true_and, and_true, if_true, if_false, ite_true, ite_false, List.length_map, List.length_set, Sl.isD, List.mem_singleton, List.mem_cons, List.not_mem_nil, not_true_eq_false, not_false_eq_true, or_false]; exact k _
  | bool b => cases b <;> (simp (config := { decide := true }) only [↓startE, ↓tdSeq, ↓tdSet, ↓tdSetD, ↓tdDrop, ↓tdRet, ↓tdIfS, ↓tdNext, ↓tdAsg, ↓tdV, ↓tdC, ↓tdBin, ↓tdB, ↓tdCons, ↓tdNil, ↓tdTup, ↓tdLst, ↓tdTest, ↓tdAnd, ↓tdOr, ↓tdNot, ↓tdIf, ↓tdAndV, ↓tdOrV, ↓tdNotV, ↓tdNeg, ↓tdIsN, ↓tdNotN, ↓tdSl, ↓tdPart, ↓tdNoPart, ↓tdM, ↓tdSetIx, ↓tdAug, ↓tdPut, ↓tdGet2, ↓tdIsi, ↓tdListRg, ↓gdName, ↓gdNil, ↓gdCons, ↓gdTup, ↓tdIt, ↓tdRng1, ↓tdRng2, ↓tdCall, ↓tdNew, ↓tdJoin, ↓gcName, ↓gcNil, ↓gcCons, ↓gcTup, ↓tdYes, ↓res, ↓resR, ↓resAll, ↓rvD, ↓rdLen, ↓rdInt, ↓rdAbs, ↓rdMax2, ↓rdMin2, ↓rdOrd, ↓rdTuple, ↓rdList, ↓rdIx, ↓rdAdd, ↓rdSub, ↓rdMul, ↓rdMod, ↓rdDiv, ↓rdPow, ↓rdCmp, ↓rdEq, ↓rdNe, ↓rdIadd, ↓rdIn, ↓rdSorted, ↓rdSl, ↓isT, ↓rdAppend, ↓itemsOf, ↓rvOf, ↓argsOf, ↓argOf, Nat.reduceAdd, Nat.reduceLT, Nat.reduceSub, Int.reduceLT, Int.reduceLE, Int.reduceAdd, Int.reduceEq, Int.reduceNeg, Nat.reduceLeDiff, Nat.zero_add, Nat.reduceEqDiff, Nat.reduceBEq, ix41, ix42, ix43, ix40, List.length_cons, List.length_nil, List.map_cons, List.map_nil, List.replicate, List.cons_append, List.nil_append, List.getElem?_cons_zero, List.getElem?_cons_succ, List.set_cons_zero, List.set_cons_succ, Option.map_some, at0, at1, at2, at3, ix0, ix1, ix2, ix3, sh_int, sh_bl, sh_non, eqv_int, eqv_bl, eqv_str, decide_eq_true_eq, Bool.not_eq_true, Bool.not_true, Bool.not_false, Bool.false_eq_true, true_and, and_true, if_true, if_false, ite_true, ite_false, List.length_map, List.length_set, Sl.isD, List.mem_singleton, List.mem_cons, List.not_mem_nil, not_true_eq_false, not_false_eq_true, or_false]; exact k _)
  | int i => simp (config := { decide := true }) only [↓startE, ↓tdSeq, ↓tdSet, ↓tdSetD, ↓tdDrop, ↓tdRet, ↓tdIfS, ↓tdNext, ↓tdAsg, ↓tdV, ↓tdC, ↓tdBin, ↓tdB, ↓tdCons, ↓tdNil, ↓tdTup, ↓tdLst, ↓tdTest, ↓tdAnd, ↓tdOr, ↓tdNot, ↓tdIf, ↓tdAndV, ↓tdOrV, ↓tdNotV, ↓tdNeg, ↓tdIsN, ↓tdNotN, ↓tdSl, ↓tdPart, ↓tdNoPart, ↓tdM, ↓tdSetIx, ↓tdAug, ↓tdPut, ↓tdGet2, ↓tdIsi, ↓tdListRg, ↓gdName, ↓gdNil, ↓gdCons, ↓gdTup, ↓tdIt, ↓tdRng1, ↓tdRng2, ↓tdCall, ↓tdNew, ↓tdJoin, ↓gcName, ↓gcNil, ↓gcCons, ↓gcTup, ↓tdYes, ↓res, ↓resR, ↓resAll, ↓rvD, ↓rdLen, ↓rdInt, ↓rdAbs, ↓rdMax2, ↓rdMin2, ↓rdOrd, ↓rdTuple, ↓rdList, ↓rdIx, ↓rdAdd, ↓rdSub, ↓rdMul, ↓rdMod, ↓rdDiv, ↓rdPow, ↓rdCmp, ↓rdEq, ↓rdNe, ↓rdIadd, ↓rdIn, ↓rdSorted, ↓rdSl, ↓isT, ↓rdAppend, ↓itemsOf, ↓rvOf, ↓argsOf, ↓argOf, Nat.reduceAdd, Nat.reduceLT, Nat.reduceSub, Int.reduceLT, Int.reduceLE, Int.reduceAdd, Int.reduceEq, Int.reduceNeg, Nat.reduceLeDiff, Nat.zero_add, Nat.reduceEqDiff, Nat.reduceBEq, ix41, ix42, ix43, ix40, List.length_cons, List.length_nil, List.map_cons, List.map_nil, List.replicate, List.cons_append, List.nil_append, List.getElem?_cons_zero, List.getElem?_cons_succ, List.set_cons_zero, List.set_cons_succ, Option.map_some, at0, at1, at2, at3, ix0, ix1, ix2, ix3, sh_int, sh_bl, sh_non, eqv_int, eqv_bl, eqv_str, decide_eq_true_eq, Bool.not_eq_true, Bool.not_true, Bool.not_false, Bool.false_eq_true, true_and, and_true, if_true, if_false, ite_true, ite_false, List.length_map, List.length_set, Sl.isD, List.mem_singleton, List.mem_cons, List.not_mem_nil, not_true_eq_false, not_false_eq_true, or_false]; exact k _
  | str z =>
    have hz : SeqAt.shaped (.str z) = true := by
      simp only [SeqAt.shaped, PyData.canLay0, PyData.depth, Bool.and_eq_true]
      exact ⟨by cases j <;> exact hx, decide_eq_true (Nat.zero_le _)⟩
    simp (config := { decide := true }) only [hz, ↓startE, ↓tdSeq, ↓tdSet, ↓tdSetD, ↓tdDrop, ↓tdRet, ↓tdIfS, ↓tdNext, ↓tdAsg, ↓tdV, ↓tdC, ↓tdBin, ↓tdB, ↓tdCons, ↓tdNil, ↓tdTup, ↓tdLst, ↓tdTest, ↓tdAnd, ↓tdOr, ↓tdNot, ↓tdIf, ↓tdAndV, ↓tdOrV, ↓tdNotV, ↓tdNeg, ↓tdIsN, ↓tdNotN, ↓tdSl, ↓tdPart, ↓tdNoPart, ↓tdM, ↓tdSetIx, ↓tdAug, ↓tdPut, ↓tdGet2, ↓tdIsi, ↓tdListRg, ↓gdName, ↓gdNil, ↓gdCons, ↓gdTup, ↓tdIt, ↓tdRng1, ↓tdRng2, ↓tdCall, ↓tdNew, ↓tdJoin, ↓gcName, ↓gcNil, ↓gcCons, ↓gcTup, ↓tdYes, ↓res, ↓resR, ↓resAll, ↓rvD, ↓rdLen, ↓rdInt, ↓rdAbs, ↓rdMax2, ↓rdMin2, ↓rdOrd, ↓rdTuple, ↓rdList, ↓rdIx, ↓rdAdd, ↓rdSub, ↓rdMul, ↓rdMod, ↓rdDiv, ↓rdPow, ↓rdCmp, ↓rdEq, ↓rdNe, ↓rdIadd, ↓rdIn, ↓rdSorted, ↓rdSl, ↓isT, ↓rdAppend, ↓itemsOf, ↓rvOf, ↓argsOf, ↓argOf, Nat.reduceAdd, Nat.reduceLT, Nat.reduceSub, Int.reduceLT, Int.reduceLE, Int.reduceAdd, Int.reduceEq, Int.reduceNeg, Nat.reduceLeDiff, Nat.zero_add, Nat.reduceEqDiff, Nat.reduceBEq, ix41, ix42, ix43, ix40, List.length_cons, List.length_nil, List.map_cons, List.map_nil, List.replicate, List.cons_append, List.nil_append, List.getElem?_cons_zero, List.getElem?_cons_succ, List.set_cons_zero, List.set_cons_succ, Option.map_some, at0, at1, at2, at3, ix0, ix1, ix2, ix3, sh_int, sh_bl, sh_non, eqv_int, eqv_bl, eqv_str, decide_eq_true_eq, Bool.not_eq_true, Bool.not_true, Bool.not_false, Bool.false_eq_true, true_and, and_true, if_true, if_false, ite_true, ite_false, List.length_map, List.length_set, Sl.isD, List.mem_singleton, List.mem_cons, List.not_mem_nil, not_true_eq_false, not_false_eq_true, or_false]; exact k _
  | tuple xs =>
    refine seq_i fun Kc hK => ?_
    cases j with
    | zero => cases hx
    | succ j =>
    obtain ⟨hz, ha⟩ := Bool.and_eq_true_iff.mp (show (decide (xs.length ≤ sizeLine) && xs.all (sameB j)) = true from hx)
    have hz2 : xs.length ≤ 2 ^ 24 := of_decide_eq_true hz
    have hall := List.all_eq_true.mp ha
    simp (config := { decide := true }) only [↓startE, ↓tdSeq, ↓tdSet, ↓tdSetD, ↓tdDrop, ↓tdRet, ↓tdIfS, ↓tdNext, ↓tdAsg, ↓tdV, ↓tdC, ↓tdBin, ↓tdB, ↓tdCons, ↓tdNil, ↓tdTup, ↓tdLst, ↓tdTest, ↓tdAnd, ↓tdOr, ↓tdNot, ↓tdIf, ↓tdAndV, ↓tdOrV, ↓tdNotV, ↓tdNeg, ↓tdIsN, ↓tdNotN, ↓tdSl, ↓tdPart, ↓tdNoPart, ↓tdM, ↓tdSetIx, ↓tdAug, ↓tdPut, ↓tdGet2, ↓tdIsi, ↓tdListRg, ↓gdName, ↓gdNil, ↓gdCons, ↓gdTup, ↓tdIt, ↓tdRng1, ↓tdRng2, ↓tdCall, ↓tdNew, ↓tdJoin, ↓gcName, ↓gcNil, ↓gcCons, ↓gcTup, ↓tdYes, ↓res, ↓resR, ↓resAll, ↓rvD, ↓rdLen, ↓rdInt, ↓rdAbs, ↓rdMax2, ↓rdMin2, ↓rdOrd, ↓rdTuple, ↓rdList, ↓rdIx, ↓rdAdd, ↓rdSub, ↓rdMul, ↓rdMod, ↓rdDiv, ↓rdPow, ↓rdCmp, ↓rdEq, ↓rdNe, ↓rdIadd, ↓rdIn, ↓rdSorted, ↓rdSl, ↓isT, ↓rdAppend, ↓itemsOf, ↓rvOf, ↓argsOf, ↓argOf, Nat.reduceAdd, Nat.reduceLT, Nat.reduceSub, Int.reduceLT, Int.reduceLE, Int.reduceAdd, Int.reduceEq, Int.reduceNeg, Nat.reduceLeDiff, Nat.zero_add, Nat.reduceEqDiff, Nat.reduceBEq, ix41, ix42, ix43, ix40, List.length_cons, List.length_nil, List.map_cons, List.map_nil, List.replicate, List.cons_append, List.nil_append, List.getElem?_cons_zero, List.getElem?_cons_succ, List.set_cons_zero, List.set_cons_succ, Option.map_some, at0, at1, at2, at3, ix0, ix1, ix2, ix3, sh_int, sh_bl, sh_non, eqv_int, eqv_bl, eqv_str, decide_eq_true_eq, Bool.not_eq_true, Bool.not_true, Bool.not_false, Bool.false_eq_true, true_and, and_true, if_true, if_false, ite_true, ite_false, List.length_map, List.length_set, Sl.isD, List.mem_singleton, List.mem_cons, List.not_mem_nil, not_true_eq_false, not_false_eq_true, or_false]
    refine ⟨⟨by omega, by omega⟩, fun i env => ∃ x : Option Sl, env = [some (.d (.tuple xs)), some (.d (.tuple xs)), x], ⟨_, rfl⟩, fun i x env hx2 hP => ?_, fun env hP => ?_⟩
    · obtain ⟨x0, rfl⟩ := hP
      unfold rngL at hx2
      rw [List.getElem?_map] at hx2
      obtain ⟨a, ha2, rfl⟩ := Option.map_eq_some_iff.mp hx2
      obtain ⟨h1, h2⟩ := List.getElem?_eq_some_iff.mp ha2
      rw [List.getElem_range] at h2
      subst h2
      rw [List.length_range] at h1
      have hi : i < xs.length := by omega
      have ez : (0 : Int) + (i : Nat) = (i : Nat) := by omega
      rw [ez]
      have e1 : atI xs (i : Int) = some xs[i] := atI_nat (List.getElem?_eq_getElem hi)
      simp only [e1, outE_n, ↓startE, ↓tdSeq, ↓tdSet, ↓tdSetD, ↓tdDrop, ↓tdRet, ↓tdIfS, ↓tdNext, ↓tdAsg, ↓tdV, ↓tdC, ↓tdBin, ↓tdB, ↓tdCons, ↓tdNil, ↓tdTup, ↓tdLst, ↓tdTest, ↓tdAnd, ↓tdOr, ↓tdNot, ↓tdIf, ↓tdAndV, ↓tdOrV, ↓tdNotV, ↓tdNeg, ↓tdIsN, ↓tdNotN, ↓tdSl, ↓tdPart, ↓tdNoPart, ↓tdM, ↓tdSetIx, ↓tdAug, ↓tdPut, ↓tdGet2, ↓tdIsi, ↓tdListRg, ↓gdName, ↓gdNil, ↓gdCons, ↓gdTup, ↓tdIt, ↓tdRng1, ↓tdRng2, ↓tdCall, ↓tdNew, ↓tdJoin, ↓gcName, ↓gcNil, ↓gcCons, ↓gcTup, ↓tdYes, ↓res, ↓resR, ↓resAll, ↓rvD, ↓rdLen, ↓rdInt, ↓rdAbs, ↓rdMax2, ↓rdMin2, ↓rdOrd, ↓rdTuple, ↓rdList, ↓rdIx, ↓rdAdd, ↓rdSub, ↓rdMul, ↓rdMod, ↓rdDiv, ↓rdPow, ↓rdCmp, ↓rdEq, ↓rdNe, ↓rdIadd, ↓rdIn, ↓rdSorted, ↓rdSl, ↓isT, ↓rdAppend, ↓itemsOf, ↓rvOf, ↓argsOf, ↓argOf, Nat.reduceAdd, Nat.reduceLT, Nat.reduceSub, Int.reduceLT, Int.reduceLE, Int.reduceAdd, Int.reduceEq, Int.reduceNeg, Nat.reduceLeDiff, Nat.zero_add, Nat.reduceEqDiff, Nat.reduceBEq, ix41, ix42, ix43, ix40, List.length_cons, List.length_nil, List.map_cons, List.map_nil, List.replicate, List.cons_append, List.nil_append, List.getElem?_cons_zero, List.getElem?_cons_succ, List.set_cons_zero, List.set_cons_succ, Option.map_some, at0, at1, at2, at3, ix0, ix1, ix2, ix3, sh_int, sh_bl, sh_non, eqv_int, eqv_bl, eqv_str, decide_eq_true_eq, Bool.not_eq_true, Bool.not_true, Bool.not_false, Bool.false_eq_true, true_and, and_true, if_true, if_false, ite_true, ite_false, List.length_map, List.length_set, Sl.isD, List.mem_singleton, List.mem_cons, List.not_mem_nil, not_true_eq_false, not_false_eq_true, or_false]
      exact ⟨xs[i], rfl, hall _ (List.getElem_mem hi), fun os => ⟨_, rfl⟩⟩
    · obtain ⟨x0, rfl⟩ := hP
      simp only [↓startE, ↓tdSeq, ↓tdSet, ↓tdSetD, ↓tdDrop, ↓tdRet, ↓tdIfS, ↓tdNext, ↓tdAsg, ↓tdV, ↓tdC, ↓tdBin, ↓tdB, ↓tdCons, ↓tdNil, ↓tdTup, ↓tdLst, ↓tdTest, ↓tdAnd, ↓tdOr, ↓tdNot, ↓tdIf, ↓tdAndV, ↓tdOrV, ↓tdNotV, ↓tdNeg, ↓tdIsN, ↓tdNotN, ↓tdSl, ↓tdPart, ↓tdNoPart, ↓tdM, ↓tdSetIx, ↓tdAug, ↓tdPut, ↓tdGet2, ↓tdIsi, ↓tdListRg, ↓gdName, ↓gdNil, ↓gdCons, ↓gdTup, ↓tdIt, ↓tdRng1, ↓tdRng2, ↓tdCall, ↓tdNew, ↓tdJoin, ↓gcName, ↓gcNil, ↓gcCons, ↓gcTup, ↓tdYes, ↓res, ↓resR, ↓resAll, ↓rvD, ↓rdLen, ↓rdInt, ↓rdAbs, ↓rdMax2, ↓rdMin2, ↓rdOrd, ↓rdTuple, ↓rdList, ↓rdIx, ↓rdAdd, ↓rdSub, ↓rdMul, ↓rdMod, ↓rdDiv, ↓rdPow, ↓rdCmp, ↓rdEq, ↓rdNe, ↓rdIadd, ↓rdIn, ↓rdSorted, ↓rdSl, ↓isT, ↓rdAppend, ↓itemsOf, ↓rvOf, ↓argsOf, ↓argOf, Nat.reduceAdd, Nat.reduceLT, Nat.reduceSub, Int.reduceLT, Int.reduceLE, Int.reduceAdd, Int.reduceEq, Int.reduceNeg, Nat.reduceLeDiff, Nat.zero_add, Nat.reduceEqDiff, Nat.reduceBEq, ix41, ix42, ix43, ix40, List.length_cons, List.length_nil, List.map_cons, List.map_nil, List.replicate, List.cons_append, List.nil_append, List.getElem?_cons_zero, List.getElem?_cons_succ, List.set_cons_zero, List.set_cons_succ, Option.map_some, at0, at1, at2, at3, ix0, ix1, ix2, ix3, sh_int, sh_bl, sh_non, eqv_int, eqv_bl, eqv_str, decide_eq_true_eq, Bool.not_eq_true, Bool.not_true, Bool.not_false, Bool.false_eq_true, true_and, and_true, if_true, if_false, ite_true, ite_false, List.length_map, List.length_set, Sl.isD, List.mem_singleton, List.mem_cons, List.not_mem_nil, not_true_eq_false, not_false_eq_true, or_false]
      exact k _
  | list xs => cases j <;> cases hx
  | dict xs => cases j <;> cases hx
end DL

set_option Elab.async false
set_option linter.all false
set_option maxRecDepth 100000
set_option maxHeartbeats 4000000
set_option autoImplicit false
namespace DL
open PySem PySem.Spec L2
/-- a comprehension whose turns change no name -/
theorem lc_pure {ti : TDI} {g : TDC} {te : TD} {vs : List Nat} {env : En} {Q : Rv → En → Prop} (xs : List PyData) (f : PyData → PyData) (hti : ∀ R : List PyData → En → Prop, R xs env → ti env R) (hlen : xs.length ≤ sizeLine) (hno : noOwn env vs)
    (hs : ∀ x ∈ xs, ∀ (A : Prop) (B : PyData → Prop), A → B (f x) → g x (wipeE env vs) fun env2 => te env2 fun rv env4 => match rvD rv with
      | some y => A ∧ (mergeE env env4 vs = env ∧ B y)
      | none => False) (hQ : Q (.n (.l (xs.map f))) env) : tdLc ti g tdYes te vs env Q := by
  refine hti _ ⟨fun i acc env' => env' = env ∧ acc = (xs.take i).map f, ⟨rfl, rfl⟩, fun i x acc env' hx hP => ?_, fun acc env' hP => ?_⟩
  · obtain ⟨rfl, rfl⟩ := hP
    have hi := (List.getElem?_eq_some_iff.mp hx).1
    refine ⟨hno, hs x (List.mem_of_getElem? hx) _ (fun y => (xs.take i).map f ++ [y] = (xs.take (i + 1)).map f) ?_ ?_⟩
    · rw [List.length_map, List.length_take]; omega
    · rw [List.take_add_one, hx, List.map_append]; rfl
  · obtain ⟨rfl, rfl⟩ := hP
    rw [List.take_length]
    exact hQ
theorem sorted_uniq : ∀ {a b : List Int}, a.Perm b → a.Pairwise (· ≤ ·) → b.Pairwise (· ≤ ·) → a = b := by
  intro a b p ha hb
  induction a generalizing b with
  | nil => exact (List.nil_perm.mp p).symm ▸ rfl
  | cons x a ih =>
    cases b with
    | nil => exact absurd p.length_eq (by simp)
    | cons y b =>
      have hx : x ∈ y :: b := p.mem_iff.mp List.mem_cons_self
      have hy : y ∈ x :: a := p.mem_iff.mpr List.mem_cons_self
      rw [List.pairwise_cons] at ha hb
      have e : x = y := by
        rcases List.mem_cons.mp hx with q | q
        · exact q
        · rcases List.mem_cons.mp hy with r | r
          · exact r.symm
          · have := ha.1 y r
            have := hb.1 x q
            omega
      subst e
      rw [ih ((List.perm_cons x).mp p) ha.2 hb.2]
theorem cutL_map {α : Type} (f : α → PyData) (xs : List α) (lo hi : Option Int) : cutL (xs.map f) lo hi = ((xs.drop (HT.sIx xs.length 0 lo)).take (HT.sIx xs.length xs.length hi - HT.sIx xs.length 0 lo)).map f := by
  unfold cutL
  rw [List.length_map, ← List.map_drop, ← List.map_take]
theorem sIx_k (n : Nat) (d k : Nat) : HT.sIx n d (some (k : Int)) = min k n := HT.sIx_nat n d k
/-- the same, over what a list's things are -/
theorem lc_map {α : Type} {ti : TDI} {g : TDC} {te : TD} {vs : List Nat} {env : En} {Q : Rv → En → Prop} (l : List α) (g0 f : α → PyData) (hti : ∀ R : List PyData → En → Prop, R (l.map g0) env → ti env R) (hlen : l.length ≤ sizeLine) (hno : noOwn env vs)
    (hs : ∀ x ∈ l, ∀ (A : Prop) (B : PyData → Prop), A → B (f x) → g (g0 x) (wipeE env vs) fun env2 => te env2 fun rv env4 => match rvD rv with
      | some y => A ∧ (mergeE env env4 vs = env ∧ B y)
      | none => False) (hQ : Q (.n (.l (l.map f))) env) : tdLc ti g tdYes te vs env Q := by
  refine hti _ ⟨fun i acc env' => env' = env ∧ acc = (l.take i).map f, ⟨rfl, rfl⟩, fun i x acc env' hx hP => ?_, fun acc env' hP => ?_⟩
  · obtain ⟨rfl, rfl⟩ := hP
    rw [List.getElem?_map] at hx
    obtain ⟨y, hy, rfl⟩ := Option.map_eq_some_iff.mp hx
    have hi := (List.getElem?_eq_some_iff.mp hy).1
    refine ⟨hno, hs y (List.mem_of_getElem? hy) _ (fun y => (l.take i).map f ++ [y] = (l.take (i + 1)).map f) ?_ ?_⟩
    · rw [List.length_map, List.length_take]; omega
    · rw [List.take_add_one, hy, List.map_append]; rfl
  · obtain ⟨rfl, rfl⟩ := hP
    rw [List.length_map, List.take_length]
    exact hQ
/-- a comprehension that draws: what its turns keep, and what they make -/
theorem lc_inv {ti : TDI} {g : TDC} {te : TD} {vs : List Nat} {env : En} {Q : Rv → En → Prop} (P : List PyData → Prop) (J : En → Prop) (Y : PyData → Prop) (hti : ∀ R : List PyData → En → Prop, (∀ xs env1, P xs → J env1 → R xs env1) → ti env R) (hlen : ∀ xs, P xs → xs.length ≤ sizeLine)
    (hs : ∀ xs x, P xs → x ∈ xs → ∀ env, J env → noOwn env vs ∧ ∀ (A : Prop) (B : En → PyData → Prop), A → (∀ env y, J env → Y y → B env y) → g x (wipeE env vs) fun env2 => te env2 fun rv env4 => match rvD rv with
      | some y => A ∧ B (mergeE env env4 vs) y
      | none => False) (hQ : ∀ xs env acc, P xs → J env → acc.length = xs.length → (∀ y ∈ acc, Y y) → Q (.n (.l acc)) env) : tdLc ti g tdYes te vs env Q := by
  refine hti _ fun xs env1 hP h0 => ⟨fun i acc env' => J env' ∧ acc.length = i ∧ ∀ y ∈ acc, Y y, ⟨h0, rfl, fun y hy => by cases hy⟩, fun i x acc env' hx hI => ?_, fun acc env' hI => hQ xs env' acc hP hI.1 hI.2.1 hI.2.2⟩
  obtain ⟨hJ, rfl, hY⟩ := hI
  have hi := (List.getElem?_eq_some_iff.mp hx).1
  have hz := hlen xs hP
  obtain ⟨hno, hh⟩ := hs xs x hP (List.mem_of_getElem? hx) env' hJ
  refine ⟨hno, hh (acc.length < sizeLine) (fun e y => J e ∧ (acc ++ [y]).length = acc.length + 1 ∧ ∀ z ∈ acc ++ [y], Y z) (by omega) fun e y je hy => ⟨je, by rw [List.length_append]; rfl, fun z hz => ?_⟩⟩
  rcases List.mem_append.mp hz with q | q
  · exact hY z q
  · rw [List.mem_singleton.mp q]; exact hy
theorem any_int (fr : List Int) (n : Int) : ((fr.map PyData.int).any fun z => PyData.eqv z (.int n)) = decide (n ∈ fr) := by
  induction fr with
  | nil => simp
  | cons a r ih =>
    rw [List.map_cons, List.any_cons, ih, eqv_int]
    by_cases h : a = n
    · simp [h]
    · simp [h]
      exact fun e => absurd e.symm h
theorem lay_ints : ∀ fr : List Int, PyData.canLayAll0 (fr.map PyData.int) = true ∧ PyData.depthAll (fr.map PyData.int) = 0
  | [] => by simp [PyData.canLayAll0, PyData.depthAll]
  | a :: r => by
    obtain ⟨h1, h2⟩ := lay_ints r
    simp [PyData.canLayAll0, PyData.depthAll, PyData.canLay0, PyData.depth, h1, h2]
theorem sh_ints (fr : List Int) : SeqAt.shaped (.list (fr.map PyData.int)) = true := by
  obtain ⟨h1, h2⟩ := lay_ints fr
  simp [SeqAt.shaped, PyData.canLay0, PyData.depth, h1, h2]
/-! ### dicts that count -/
theorem val_ks (f : Int → PyData) (n : Int) : ∀ ks : List Int, valD (ks.map fun k => ((.inl k : Key), f k)) (.inl n) = if n ∈ ks then some (f n) else none
  | [] => by simp [valD]
  | k :: ks => by
    have ih := val_ks f n ks
    unfold valD at ih ⊢
    rw [List.map_cons, List.find?_cons]
    by_cases h : k = n
    · subst h; simp
    · have h1 : decide ((.inl k : Key) = .inl n) = false := decide_eq_false fun e => h (by injection e)
      rw [h1]
      dsimp only
      rw [ih]
      by_cases h2 : n ∈ ks
      · rw [if_pos h2, if_pos (List.mem_cons_of_mem _ h2)]
      · rw [if_neg h2, if_neg fun q => (List.mem_cons.mp q).elim (fun e => h e.symm) h2]
theorem any_ks (f : Int → PyData) (n : Int) (ks : List Int) : ((ks.map fun k => ((.inl k : Key), f k)).any fun kv => decide (kv.1 = .inl n)) = decide (n ∈ ks) := by
  induction ks with
  | nil => simp
  | cons k ks ih =>
    rw [List.map_cons, List.any_cons, ih]
    by_cases h : k = n
    · subst h; simp
    · have h1 : decide ((.inl k : Key) = .inl n) = false := decide_eq_false fun e => h (by injection e)
      rw [show (decide (((.inl k : Key), f k).1 = .inl n)) = false from h1, Bool.false_or]
      by_cases h2 : n ∈ ks
      · rw [decide_eq_true h2, decide_eq_true (List.mem_cons_of_mem _ h2)]
      · rw [decide_eq_false h2, decide_eq_false fun q => (List.mem_cons.mp q).elim (fun e => h e.symm) h2]
theorem nodup_len : ∀ {ks ns : List Int}, ks.Nodup → (∀ n ∈ ks, n ∈ ns) → ks.length ≤ ns.length
  | [], _, _, _ => Nat.zero_le _
  | k :: ks, ns, h, hs => by
    rw [List.nodup_cons] at h
    have hk := hs k List.mem_cons_self
    have := nodup_len (ks := ks) (ns := ns.erase k) h.2 fun n hn => (List.mem_erase_of_ne (show n ≠ k from fun e => h.1 (e ▸ hn))).mpr (hs n (List.mem_cons_of_mem _ hn))
    rw [List.length_erase_of_mem hk] at this
    have := List.length_pos_of_mem hk
    rw [List.length_cons]
    omega
def TimesOk (kvs : List (Key × PyData)) (ns : List Int) : Prop := ∃ ks : List Int, ks.Nodup ∧ (∀ n, n ∈ ks ↔ n ∈ ns) ∧ kvs = ks.map fun k => ((.inl k : Key), PyData.int (ns.count k))
theorem times_nil : TimesOk [] [] := ⟨[], List.nodup_nil, fun n => Iff.rfl, rfl⟩
theorem times_get {kvs : List (Key × PyData)} {ns : List Int} (h : TimesOk kvs ns) (n : Int) : (valD kvs (.inl n)).getD (.int 0) = .int (ns.count n) := by
  obtain ⟨ks, h1, h2, rfl⟩ := h
  rw [val_ks (fun k => PyData.int (ns.count k))]
  by_cases q : n ∈ ks
  · rw [if_pos q]; rfl
  · rw [if_neg q, List.count_eq_zero_of_not_mem fun z => q ((h2 n).mpr z)]; rfl
theorem times_len {kvs : List (Key × PyData)} {ns : List Int} (h : TimesOk kvs ns) : kvs.length ≤ ns.length := by
  obtain ⟨ks, h1, h2, rfl⟩ := h
  rw [List.length_map]
  exact nodup_len h1 fun n hn => (h2 n).mp hn
theorem times_put {kvs : List (Key × PyData)} {ns : List Int} (h : TimesOk kvs ns) (n : Int) : TimesOk (putD kvs (.inl n) (.int (ns.count n + 1))) (ns ++ [n]) := by
  obtain ⟨ks, h1, h2, rfl⟩ := h
  unfold putD
  rw [any_ks (fun k => PyData.int (ns.count k))]
  have cnt : ∀ k, ((ns ++ [n]).count k : Int) = ns.count k + (if k = n then 1 else 0) := fun k => by
    rw [List.count_append, List.count_singleton]
    by_cases e : k = n
    · subst e; simp
    · rw [if_neg e, if_neg (by simpa using fun q : n = k => e q.symm)]; simp
  by_cases q : n ∈ ks
  · rw [if_pos (decide_eq_true q)]
    refine ⟨ks, h1, fun m => ?_, ?_⟩
    · rw [List.mem_append, List.mem_singleton, ← h2 m]
      exact ⟨.inl, fun z => z.elim id fun e => e ▸ q⟩
    · rw [List.map_map]
      refine List.map_congr_left fun k hk => ?_
      show (if (.inl k : Key) = .inl n then _ else _) = _
      by_cases e : k = n
      · subst e
        rw [if_pos rfl, cnt, if_pos rfl]
      · rw [if_neg fun z => e (by injection z), cnt, if_neg e, Int.add_zero]
  · rw [if_neg (by simpa using q)]
    refine ⟨ks ++ [n], ?_, fun m => ?_, ?_⟩
    · rw [List.nodup_append]
      exact ⟨h1, by simp, fun a ha b hb => by rw [List.mem_singleton.mp hb]; exact fun e => q (e ▸ ha)⟩
    · rw [List.mem_append, List.mem_append, h2 m]
    · rw [List.map_append]
      refine congr (congrArg _ (List.map_congr_left fun k hk => ?_)) ?_
      · have e : k ≠ n := fun e => q (e ▸ hk)
        rw [cnt, if_neg e, Int.add_zero]
      · rw [List.map_cons, List.map_nil, cnt, if_pos rfl]
end DL

set_option Elab.async false
set_option linter.all false
set_option maxRecDepth 100000
set_option maxHeartbeats 4000000
set_option autoImplicit false
namespace DL
open PySem PySem.Spec L2 RZ
section
variable {K : PySem.W.Frag} {G : Hp} {a b : Addr} {vs us : List V} {xs ys : List PyData}
theorem walk_enum (s : SqL K G a vs) (d : DpAll K G vs xs) : Walk K (Ite K a) G (enumL xs) := by
  intro H W e hw i
  have s' : SqL K H a vs := hw_same.seq (e.seq s)
  have hl : (enumL xs).length = xs.length := by unfold enumL; rw [List.length_zipWith, List.length_range, Nat.min_self]
  refine ⟨fun x hx => ?_, fun hle => ⟨vs, s', by rw [d.len]; omega⟩⟩
  have hi : i < xs.length := by rw [← hl]; exact (List.getElem?_eq_some_iff.mp hx).1
  have hx2 : x = .tuple [.int (i : Nat), xs[i]] := by
    unfold enumL at hx
    rw [List.getElem?_zipWith, List.getElem?_eq_getElem hi, List.getElem?_range hi] at hx
    exact (Option.some.inj hx).symm
  obtain ⟨v, hv, dv⟩ := d.get (List.getElem?_eq_getElem hi)
  refine ⟨⟨vs, v, s', hv⟩, fun u H' y => ?_⟩
  obtain ⟨T, x1, rfl, hT, rfl, y⟩ := y
  have := y vs s'
  rw [hv] at this; cases this
  have g : Grow H W (upd H T (.tup [.int (i : Nat), v])) W := grow_new hT
  refine ⟨g, ?_⟩
  rw [hx2]
  refine .tup (.inl (.inl (hw_of (fun z => hw T z hT) upd_same))) ?_
  exact dpa_mono ((g.stp (A := [])).same fun _ z => absurd z (by simp)) _ (.cons (.int _) (.cons (dp_mono e _ dv) .nil))
theorem walk_zip (s : SqL K G a vs) (d : DpAll K G vs xs) (s2 : SqL K G b us) (d2 : DpAll K G us ys) : Walk K (Itz K a b) G (xs.zipWith (fun x y => .tuple [x, y]) ys) := by
  intro H W e hw i
  have s' : SqL K H a vs := hw_same.seq (e.seq s)
  have s2' : SqL K H b us := hw_same.seq (e.seq s2)
  refine ⟨fun x hx => ?_, fun hle => ⟨vs, us, s', s2', by rw [d.len, d2.len]; rw [List.length_zipWith] at hle; omega⟩⟩
  have hi := (List.getElem?_eq_some_iff.mp hx).1
  rw [List.length_zipWith] at hi
  have h1 : i < xs.length := by omega
  have h2 : i < ys.length := by omega
  have hx2 : x = .tuple [xs[i], ys[i]] := by
    rw [List.getElem?_zipWith, List.getElem?_eq_getElem h1, List.getElem?_eq_getElem h2] at hx
    exact (Option.some.inj hx).symm
  obtain ⟨v, hv, dv⟩ := d.get (List.getElem?_eq_getElem h1)
  obtain ⟨u, hu, du⟩ := d2.get (List.getElem?_eq_getElem h2)
  refine ⟨⟨vs, us, v, u, s', s2', hv, hu⟩, fun w H' y => ?_⟩
  obtain ⟨T, x1, x2, rfl, hT, rfl, y1, y2⟩ := y
  have z1 := y1 vs s'
  have z2 := y2 us s2'
  rw [hv] at z1; cases z1
  rw [hu] at z2; cases z2
  have g : Grow H W (upd H T (.tup [v, u])) W := grow_new hT
  refine ⟨g, ?_⟩
  rw [hx2]
  refine .tup (.inl (.inl (hw_of (fun z => hw T z hT) upd_same))) ?_
  exact dpa_mono ((g.stp (A := [])).same fun _ z => absurd z (by simp)) _ (.cons (dp_mono e _ dv) (.cons (dp_mono e _ du) .nil))
theorem walk_zipT (s : SqT K G a vs) (d : DpAll K G vs xs) (s2 : SqT K G b us) (d2 : DpAll K G us ys) : Walk K (ItzT K a b) G (xs.zipWith (fun x y => .tuple [x, y]) ys) := by
  intro H W e hw i
  have s' : SqT K H a vs := same_t hw_same (same_t e s)
  have s2' : SqT K H b us := same_t hw_same (same_t e s2)
  refine ⟨fun x hx => ?_, fun hle => ⟨vs, us, s', s2', by rw [d.len, d2.len]; rw [List.length_zipWith] at hle; omega⟩⟩
  have hi := (List.getElem?_eq_some_iff.mp hx).1
  rw [List.length_zipWith] at hi
  have h1 : i < xs.length := by omega
  have h2 : i < ys.length := by omega
  have hx2 : x = .tuple [xs[i], ys[i]] := by
    rw [List.getElem?_zipWith, List.getElem?_eq_getElem h1, List.getElem?_eq_getElem h2] at hx
    exact (Option.some.inj hx).symm
  obtain ⟨v, hv, dv⟩ := d.get (List.getElem?_eq_getElem h1)
  obtain ⟨u, hu, du⟩ := d2.get (List.getElem?_eq_getElem h2)
  refine ⟨⟨vs, us, v, u, s', s2', hv, hu⟩, fun w H' y => ?_⟩
  obtain ⟨T, x1, x2, rfl, hT, rfl, y1, y2⟩ := y
  have z1 := y1 vs s'
  have z2 := y2 us s2'
  rw [hv] at z1; cases z1
  rw [hu] at z2; cases z2
  have g : Grow H W (upd H T (.tup [v, u])) W := grow_new hT
  refine ⟨g, ?_⟩
  rw [hx2]
  refine .tup (.inl (.inl (hw_of (fun z => hw T z hT) upd_same))) ?_
  exact dpa_mono ((g.stp (A := [])).same fun _ z => absurd z (by simp)) _ (.cons (dp_mono e _ dv) (.cons (dp_mono e _ du) .nil))
end
/-- zip of two lists or two tuples -/
def tdZip2 (t : TDA) : TDI := fun env Q => t env fun rvs env1 => match resAll rvs with
  | some [.list xs, .list ys] => Q (xs.zipWith (fun x y => .tuple [x, y]) ys) env1
  | some [.tuple xs, .tuple ys] => Q (xs.zipWith (fun x y => .tuple [x, y]) ys) env1
  | _ => False
section
variable {X : Cx} {e e2 : Expr} {ta : TDA} {p pos tpos : Pos} {elts : List Expr} {kk : Nat}
theorem pdi_enum (hg : Gl X "enumerate") (hm : X.mg "enumerate" = none) (ha : PDA X [e] ta) (hs : starEach [e] X.env = [(false, eval e X.env)] := by rfl) : PDI X (.Tuple elts kk tpos) (.Call (.Name "enumerate" p) [e] [] pos) (tdEnum ta) := by
  obtain ⟨t1, p1, q1⟩ := ha
  refine ⟨_, pi_enum hg hm p1 hs, fun σ H W A env R Qd E ht k => ?_⟩
  refine q1 σ H W A env _ _ E ht fun vs H1 W1 env1 rvs E1 S1 R1 h1 => ?_
  split at h1
  · rename_i xs ex
    obtain ⟨W', s1, s2, d⟩ := R1.keep ex
    have E' := E1.sub s1 fun a ha => s2 a (E1.ain a ha) (E.ain a ha)
    have S' := S1.sub s1 s2
    cases d with
    | cons d1 d2 =>
      cases d2
      cases d1 with
      | lst s r => exact ⟨_, _, rfl, hw_same.seq s, k _ H1 W' env1 _ E' S' (walk_enum s r) h1⟩
  · exact h1.elim
theorem pdi_zip (hg : Gl X "zip") (hm : X.mg "zip" = none) (ha : PDA X [e, e2] ta)
    (hs : starEach [e, e2] X.env = (false, eval e X.env) :: starEach [e2] X.env := by rfl) (hpl : (backTo pos (starEach [e2] X.env)).any (·.1) = false := by rfl) : PDI X (.Tuple elts kk tpos) (.Call (.Name "zip" p) [e, e2] [] pos) (tdZip2 ta) := by
  obtain ⟨t1, p1, q1⟩ := ha
  refine ⟨_, pi_zipA hg hm p1 hs hpl, fun σ H W A env R Qd E ht k => ?_⟩
  refine q1 σ H W A env _ _ E ht fun vs H1 W1 env1 rvs E1 S1 R1 h1 => ?_
  split at h1
  · rename_i xs ys ex
    obtain ⟨W', s1, s2, d⟩ := R1.keep ex
    have E' := E1.sub s1 fun a ha => s2 a (E1.ain a ha) (E.ain a ha)
    have S' := S1.sub s1 s2
    cases d with
    | cons d1 d2 =>
      cases d2 with
      | cons d2 d3 =>
        cases d3
        cases d1 with
        | lst s r =>
          cases d2 with
          | lst s2 r2 => exact ⟨_, _, _, _, rfl, .inl ⟨hw_same.seq s, hw_same.seq s2, k _ H1 W' env1 _ E' S' (walk_zip s r s2 r2) h1⟩⟩
  · rename_i xs ys ex
    obtain ⟨W', s1, s2, d⟩ := R1.keep ex
    have E' := E1.sub s1 fun a ha => s2 a (E1.ain a ha) (E.ain a ha)
    have S' := S1.sub s1 s2
    cases d with
    | cons d1 d2 =>
      cases d2 with
      | cons d2 d3 =>
        cases d3
        cases d1 with
        | tup s r =>
          cases d2 with
          | tup s2 r2 => exact ⟨_, _, _, _, rfl, .inr ⟨same_t hw_same s, same_t hw_same s2, k _ H1 W' env1 _ E' S' (walk_zipT s r s2 r2) h1⟩⟩
  · exact h1.elim
end
section
variable {X : Cx}
def rdNotIn : PyData → PyData → (Rv → Prop) → Prop
  | x, .list ds, Q => SeqAt.shaped x = true ∧ SeqAt.shaped (.list ds) = true ∧ Q (.d (.bool (!ds.any fun z => PyData.eqv z x)))
  | x, .tuple ds, Q => SeqAt.shaped x = true ∧ SeqAt.shaped (.tuple ds) = true ∧ Q (.d (.bool (!ds.any fun z => PyData.eqv z x)))
  | _, _, _ => False
theorem od_notIn (hu : X.A.units + 65 < cLine) : OpD X (compareOp .NotIn) rdNotIn := by
  refine ⟨_, opr_or (op_notInD hu) (op_notInA hu), fun H W x y a b Q Qd hw ra rb q k => ?_⟩
  unfold rdNotIn at q
  split at q
  · exact .inl ⟨_, _, ra.dp, rb.dp, q.1, q.2.1, k.bl q.2.2⟩
  · exact .inr ⟨_, _, ra.dp, rb.dp, q.1, q.2.1, k.bl q.2.2⟩
  · exact q.elim
def rdDivmod : List PyData → (Rv → Prop) → Prop
  | [.int i, .int j], Q => CDivP i j ∧ Q (.d (.tuple [.int (i / j), .int (i % j)]))
  | _, _ => False
theorem bd_divmod : BD X (.builtin "divmod") rdDivmod := by
  refine ⟨_, call_divmodW, fun H W vs xs Q Qd hw r q k => ?_⟩
  unfold rdDivmod at q
  split at q
  · obtain ⟨v, u, rfl, d, d2⟩ := dqall2 r
    exact ⟨_, _, by rw [d.int, d2.int], q.1, fun p hp => k.tup hw hp (.cons (.int _) (.cons (.int _) .nil)) q.2⟩
  · exact q.elim
def rdGcd : List PyData → (Rv → Prop) → Prop
  | [.int i, .int j], Q => Q (.d (.int ((Nat.gcd i.natAbs j.natAbs : Nat) : Int)))
  | _, _ => False
theorem bd_gcd : BD X (.builtin "math.gcd") rdGcd := by
  refine ⟨_, cr_gcd, fun H W vs xs Q Qd hw r q k => ?_⟩
  unfold rdGcd at q
  split at q
  · obtain ⟨v, u, rfl, d, d2⟩ := dqall2 r
    exact ⟨_, _, by rw [d.int, d2.int], k.int q⟩
  · exact q.elim
/-- f(e, ..), f the module's name of a built-in function -/
theorem pd_callF {x : Str} {p pos : Pos} {e : Expr} {es : List Expr} {t : TDA} {id : String} {r : List PyData → (Rv → Prop) → Prop} (hb : BD X (.builtin id) r) (hg : Gl X x) (hm : X.mg x = some (.builtin id)) (ha : PDA X (e :: es) t) (hdb : (x == ("__debug__" : Str)) = false := by decide)
    (he : starEach (e :: es) X.env = (false, eval e X.env) :: starEach es X.env := by rfl) (hpl : (backTo pos (starEach es X.env)).any (·.1) = false := by rfl) : PD X (.Call (.Name x p) (e :: es) [] pos) (tdB r t) := by
  obtain ⟨rV, h1, h2⟩ := hb
  obtain ⟨t1, p1, q1⟩ := ha
  exact pd_bd h2 q1 (pe_callBfun h1 hg hm p1 hdb he hpl)
/-- range(i, j, c) -/
def rngC (i c : Int) (n : Nat) : List PyData := (List.range n).map fun k => .int (i + (k : Nat) * c)
def tdRng3 (t : TDA) : TDI := fun env Q => t env fun rvs env1 => match resR env1 rvs with
  | some [.int i, .int j, .int c] => ∃ n, RgC i j c n ∧ Q (rngC i c n) env1
  | _ => False
theorem pdi_rng3 {tg a b c : Expr} {ta : TDA} {p pos : Pos} (hg : Gl X "range") (hm : X.mg "range" = none) (ha : PDA X [a, b, c] ta)
    (hs : starEach [a, b, c] X.env = (false, eval a X.env) :: starEach [b, c] X.env := by rfl) (hpl : (backTo pos (starEach [b, c] X.env)).any (·.1) = false := by rfl) : PDI X tg (.Call (.Name "range" p) [a, b, c] [] pos) (tdRng3 ta) := by
  obtain ⟨t1, p1, q1⟩ := ha
  refine ⟨_, pi_range3 hg hm p1 hs hpl, fun σ H W A env R Qd E ht k => ?_⟩
  refine q1 σ H W A env _ _ E ht fun vs H1 W1 env1 rvs E1 S1 R1 h1 => ?_
  split at h1
  · rename_i i j c ej
    cases R1.read E1 ej with
    | cons d1 r =>
      cases r with
      | cons d2 r =>
        cases r with
        | cons d3 r =>
          cases r
          obtain ⟨n, hn, h1⟩ := h1
          refine ⟨i, j, c, n, by rw [d1.int, d2.int, d3.int], hn, k _ H1 W1 env1 _ E1 S1 ?_ h1⟩
          intro H W e hw i'
          unfold rngC
          refine ⟨fun x hx => ?_, fun hl => by
            rw [List.length_map, List.length_range] at hl
            exact hl⟩
          rw [List.getElem?_map] at hx
          obtain ⟨j', hj, rfl⟩ := Option.map_eq_some_iff.mp hx
          obtain ⟨h1, h2⟩ := List.getElem?_eq_some_iff.mp hj
          rw [List.getElem_range] at h2
          subst h2
          rw [List.length_range] at h1
          refine ⟨h1, fun u H' y => ?_⟩
          obtain ⟨rfl, rfl⟩ := y
          exact ⟨.refl, .int _⟩
  · exact h1.elim
end
end DL
namespace DL
open PySem PySem.Spec L2
theorem bt_divmod : bootBuiltins "divmod" = some (.builtin "divmod") := by decide +kernel
end DL

set_option Elab.async false
set_option linter.all false
set_option maxRecDepth 100000
set_option maxHeartbeats 4000000
set_option autoImplicit false
namespace DL
open PySem PySem.Spec L2
/-- a value as a test, by what it is -/
def tdTru (t : TD) : TDT := fun env Q => t env fun rv env1 => match res env1 rv with
  | some .none => Q false env1
  | some (.bool b) => Q b env1
  | some (.int i) => Q (i != 0) env1
  | some (.str z) => z.length ≤ sizeLine ∧ Q ((z.length : Int) != 0) env1
  | some (.list xs) => Q (!xs.isEmpty) env1
  | some (.tuple xs) => Q (!xs.isEmpty) env1
  | _ => False
theorem emp_of {K : PySem.W.Frag} {H : Hp} {vs : List V} {xs : List PyData} (d : DpAll K H vs xs) : (!xs.isEmpty) = !vs.isEmpty := by
  cases d <;> rfl
/-- a op b op' c -/
def tdChain (r r' : PyData → PyData → (Rv → Prop) → Prop) (ta tb tc : TD) : TD := fun env Q => ta env fun x env1 => tb env1 fun y env2 => match res env2 x, res env2 y with
  | some a, some b => r a b fun z => match z with
    | .d (.bool k) => if k = true then tc env2 fun w env3 => match res env3 y, res env3 w with
      | some b', some c => r' b' c fun z => Q z env3
      | _, _ => False
      else Q (.d (.bool false)) env2
    | _ => False
  | _, _ => False
section
variable {X : Cx} {e a b c : Expr} {ta tb tc : TD} {pos : Pos}
theorem pdt_tru (h : PD X e ta) (he : ∀ whole, isTrue e X.env whole = (do let v ← whole; standAt e.pos; holding [v] (truthy v)) := by intro _; rfl) : PDT X e (tdTru ta) := by
  obtain ⟨t1, p1, q1⟩ := h
  refine ⟨_, pt_truth p1 he, fun σ H W A env Q Qd E ht k => ?_⟩
  refine q1 σ H W A env _ _ E ht fun x H1 W1 env1 rv E1 S1 R1 h1 => ?_
  split at h1
  · rename_i ex
    have := (Dq.of_rv E1 R1 ex).non
    subst this
    exact ⟨false, rfl, k _ H1 W1 env1 E1 S1 h1⟩
  · rename_i i ex
    have := (Dq.of_rv E1 R1 ex).bl
    subst this
    exact ⟨i, rfl, k _ H1 W1 env1 E1 S1 h1⟩
  · rename_i i ex
    have := (Dq.of_rv E1 R1 ex).int
    subst this
    exact ⟨_, rfl, k _ H1 W1 env1 E1 S1 h1⟩
  · rename_i z ex
    have := (Dq.of_rv E1 R1 ex).str
    subst this
    exact ⟨_, ⟨h1.1, rfl⟩, k _ H1 W1 env1 E1 S1 h1.2⟩
  · rename_i xs ex
    obtain ⟨p, ws, rfl, s, d⟩ := Dq.of_rv E1 R1 ex
    exact ⟨_, .inl ⟨ws, s, emp_of d⟩, k _ H1 W1 env1 E1 S1 h1⟩
  · rename_i xs ex
    have d := Dq.of_rv E1 R1 ex
    cases (show Dp X.K (HW H1 W1) x (.tuple xs) from d) with
    | tup s d => exact ⟨_, .inr (.inl ⟨_, same_t hw_same s, emp_of d⟩), k _ H1 W1 env1 E1 S1 h1⟩
  · exact h1.elim
end
end DL

set_option Elab.async false
set_option linter.all false
set_option maxRecDepth 100000
set_option maxHeartbeats 4000000
set_option autoImplicit false
namespace DL
open PySem PySem.Spec L2
/-! ### for the laws' own proofs (k18 has its own copies) -/
abbrev KD (Q : Sl → (Nat → Option Sl) → Prop) : DE := { nx := fun env => Q (.d .none) (osOf env), rt := fun r env => Q r (osOf env) }
theorem for_i {ti : TDI} {g : TDG} {tb : TDS} {D : DE} {env : En} (h : ∀ Kx : List PyData → En → Prop, (∀ xs env1, (∃ Pv : Nat → En → Prop, Pv 0 env1 ∧
  (∀ i x env, xs[i]? = some x → Pv i env → g x env fun env2 => tb { D with nx := Pv (i + 1), ct := Pv (i + 1), bk := D.nx } env2) ∧ ∀ env, Pv xs.length env → D.nx env) → Kx xs env1) → ti env Kx) : tdFor ti g tb D env := h _ fun _ _ h => h
theorem draw_i {tp : List PyData} {many : Int} {R : Sl → (Nat → Option Sl) → Prop} (h1 : many < 2 ^ 62) (h2 : TapeOk tp) (h3 : 1 ≤ many) (h : ∀ (r : Int) (tp' : List PyData) (os : Nat → Option Sl), TapeOk tp' → 0 ≤ r → r < many → R (.d (.int r)) (ios (.l tp') os)) : spDraw [.l tp, .d (.int many)] R := by
  rw [draw_if]
  exact ⟨h1, h2, fun r tp' os a b c _ => h r tp' os a b (c h3)⟩
theorem pick_i {tp : List PyData} {menu : PyData} {R : Sl → (Nat → Option Sl) → Prop} (xs : List PyData) (h1 : itemsOf menu = some xs) (h2 : 1 ≤ xs.length) (h3 : xs.length ≤ sizeLine) (h4 : TapeOk tp) (h : ∀ (x : PyData) (tp' : List PyData) (os : Nat → Option Sl), TapeOk tp' → x ∈ xs → R (.d x) (ios (.l tp') os)) : spPick [.l tp, .d menu] R := by
  rw [pick_if]
  exact ⟨xs, h1, h2, h3, h4, h⟩
theorem small_of {n : Nat} (h : n ≤ 1000) : n ≤ sizeLine := Nat.le_trans h (by decide)
theorem cut_lo {α : Type} (f : α → PyData) (ws : List α) (j : Nat) : cutL (ws.map f) none (some (j : Int)) = (ws.take j).map f := by
  rw [cutL_map, sIx_k, HT.sIx_none, List.drop_zero, Nat.sub_zero]
  by_cases h : j ≤ ws.length
  · rw [Nat.min_eq_left h]
  · rw [Nat.min_eq_right (by omega), List.take_length, List.take_of_length_le (by omega)]
theorem cut_hi {α : Type} (f : α → PyData) (ws : List α) (j : Nat) : cutL (ws.map f) (some (j : Int)) none = (ws.drop j).map f := by
  rw [cutL_map, sIx_k, HT.sIx_none]
  by_cases h : j ≤ ws.length
  · rw [Nat.min_eq_left h, List.take_of_length_le (by rw [List.length_drop]; omega)]
  · rw [Nat.min_eq_right (by omega), List.drop_length, List.take_nil, List.drop_eq_nil_of_le (by omega)]
theorem fold_at {α β : Type} (f : β → α → β) (b : β) (l : List α) (i : Nat) (x : α) (h : l[i]? = some x) : (l.take (i + 1)).foldl f b = f ((l.take i).foldl f b) x := by
  rw [List.take_add_one, h, List.foldl_append]; rfl
theorem rng_at {n : Int} {i : Nat} {x : PyData} (h : (rngL 0 n)[i]? = some x) : x = .int i ∧ (i : Int) < n := by
  unfold rngL at h
  rw [List.getElem?_map] at h
  obtain ⟨a, ha, rfl⟩ := Option.map_eq_some_iff.mp h
  obtain ⟨h1, h2⟩ := List.getElem?_eq_some_iff.mp ha
  rw [List.getElem_range] at h2
  subst h2
  rw [List.length_range] at h1
  exact ⟨by rw [show (0 : Int) + (i : Nat) = (i : Nat) by omega], by omega⟩
theorem rng_len (n : Int) : (rngL 0 n).length = n.toNat := by
  unfold rngL
  rw [List.length_map, List.length_range]
  omega
theorem at_map {α : Type} (f : α → PyData) (l : List α) (j : Nat) (h : j < l.length) : atI (l.map f) (j : Int) = some (f l[j]) := atI_nat (by rw [List.getElem?_map, List.getElem?_eq_getElem h]; rfl)
/-- a comprehension with a test, whose turns change no name -/
theorem lc_if {α : Type} {ti : TDI} {g : TDC} {tt : TDT} {te : TD} {vs : List Nat} {env : En} {Q : Rv → En → Prop} (l : List α) (g0 f : α → PyData) (p : α → Bool) (hti : ∀ R : List PyData → En → Prop, R (l.map g0) env → ti env R) (hlen : l.length ≤ sizeLine) (hno : noOwn env vs)
    (hs : ∀ x ∈ l, ∀ (A B : Prop) (C : PyData → Prop), A → (p x = false → B) → (p x = true → C (f x)) → g (g0 x) (wipeE env vs) fun env2 => tt env2 fun b env3 => if b = true then te env3 fun rv env4 => (match rvD rv with
      | some y => A ∧ (mergeE env env4 vs = env ∧ C y)
      | none => False) else (mergeE env env3 vs = env ∧ B)) (hQ : Q (.n (.l ((l.filter p).map f))) env) : tdLc ti g tt te vs env Q := by
  refine hti _ ⟨fun i acc env' => env' = env ∧ acc = ((l.take i).filter p).map f, ⟨rfl, rfl⟩, fun i x acc env' hx hP => ?_, fun acc env' hP => ?_⟩
  · obtain ⟨rfl, rfl⟩ := hP
    rw [List.getElem?_map] at hx
    obtain ⟨y, hy, rfl⟩ := Option.map_eq_some_iff.mp hx
    have hi := (List.getElem?_eq_some_iff.mp hy).1
    refine ⟨hno, hs y (List.mem_of_getElem? hy) _ (((l.take i).filter p).map f = ((l.take (i + 1)).filter p).map f) (fun z => ((l.take i).filter p).map f ++ [z] = ((l.take (i + 1)).filter p).map f) ?_ (fun h => ?_) fun h => ?_⟩
    · rw [List.length_map]
      have := List.length_filter_le p (l.take i)
      rw [List.length_take] at this
      omega
    · rw [List.take_add_one, hy, List.filter_append]
      simp [h]
    · rw [List.take_add_one, hy, List.filter_append, List.map_append]
      simp [h]
  · obtain ⟨rfl, rfl⟩ := hP
    rw [List.length_map, List.take_length]
    exact hQ
theorem log_lt {j : Int} (h : 0 < j) (h2 : j < 2 ^ 62) : j.natAbs.log2 < 62 := (Nat.log2_lt (by omega)).mpr (by omega)
theorem divW {i j : Int} (h : 0 < j) (h2 : j < 2 ^ 62) : CDivW i j := ⟨h, Nat.lt_trans (log_lt h h2) (by decide)⟩
theorem divP {i j : Int} (h : 0 < j) (h2 : j < 2 ^ 62) : CDivP i j := by
  refine ⟨h, ?_⟩
  have l := log_lt h h2
  unfold Builtin.divisionGoesByPylong
  have e : (j == 0) = false := by simp; omega
  simp only [e, Bool.and_eq_false_iff, decide_eq_false_iff_not, Bool.false_eq_true, if_false]
  left
  omega
end DL

set_option Elab.async false
set_option linter.all false
set_option maxRecDepth 100000
set_option maxHeartbeats 4000000
set_option autoImplicit false
namespace DL
open PySem PySem.Spec L2
/-- ahead of a statement: what a name holds alone, if it does, is let go as data -/
def frE (i : Nat) (env : En) : En := match env[i]? with
  | some (some (.l xs)) => env.set i (some (.d (.list xs)))
  | _ => env
def tdFr (i : Nat) (t : TDS) : TDS := fun D env => t D (frE i env)
section
variable {X : Cx} {N : List Nat × List Nat} {st : Stmt} {t : TDS}
theorem psd_fr {i : Nat} (h : PSD X N st t) (hM : i ∉ N.1 := by decide) (hM2 : i ∉ N.2 := by decide) : PSD X N st (tdFr i t) := by
  obtain ⟨t1, p1, q1⟩ := h
  refine ⟨_, p1, fun B D Dd σ H W A env hB R h O => ?_⟩
  unfold tdFr frE at h
  split at h
  · rename_i xs hx
    obtain ⟨W', A', R'⟩ := R.frz hB hM hM2 hx
    exact q1 B D Dd σ H W' A' _ hB R' h O
  · exact q1 B D Dd σ H W A _ hB R h O
end
theorem sz0 : (0 ≤ sizeLine) = True := by simp only [eq_iff_iff, iff_true]; decide
theorem sz1 : (1 ≤ sizeLine) = True := by simp only [eq_iff_iff, iff_true]; decide
theorem sz2 : (2 ≤ sizeLine) = True := by simp only [eq_iff_iff, iff_true]; decide
theorem sz3 : (3 ≤ sizeLine) = True := by simp only [eq_iff_iff, iff_true]; decide
theorem sz4 : (4 ≤ sizeLine) = True := by simp only [eq_iff_iff, iff_true]; decide
theorem sz5 : (5 ≤ sizeLine) = True := by simp only [eq_iff_iff, iff_true]; decide
theorem sz6 : (6 ≤ sizeLine) = True := by simp only [eq_iff_iff, iff_true]; decide
theorem sz7 : (7 ≤ sizeLine) = True := by simp only [eq_iff_iff, iff_true]; decide
theorem sz8 : (8 ≤ sizeLine) = True := by simp only [eq_iff_iff, iff_true]; decide
theorem sz9 : (9 ≤ sizeLine) = True := by simp only [eq_iff_iff, iff_true]; decide
theorem sz10 : (10 ≤ sizeLine) = True := by simp only [eq_iff_iff, iff_true]; decide
theorem sz11 : (11 ≤ sizeLine) = True := by simp only [eq_iff_iff, iff_true]; decide
theorem sz12 : (12 ≤ sizeLine) = True := by simp only [eq_iff_iff, iff_true]; decide
theorem sz13 : (13 ≤ sizeLine) = True := by simp only [eq_iff_iff, iff_true]; decide
theorem sz14 : (14 ≤ sizeLine) = True := by simp only [eq_iff_iff, iff_true]; decide
theorem sz15 : (15 ≤ sizeLine) = True := by simp only [eq_iff_iff, iff_true]; decide
theorem sz16 : (16 ≤ sizeLine) = True := by simp only [eq_iff_iff, iff_true]; decide
end DL

set_option Elab.async false
set_option linter.all false
set_option maxRecDepth 100000
set_option maxHeartbeats 4000000
set_option autoImplicit false
namespace DL
open PySem PySem.Spec L2
theorem pick_ints {tp : List PyData} {menu : PyData} {R : Sl → (Nat → Option Sl) → Prop} (ns : List Int) (P : Int → Prop) (h1 : itemsOf menu = some (ns.map .int)) (h2 : 1 ≤ ns.length ∧ ns.length ≤ 1000) (h4 : TapeOk tp) (hP : ∀ n ∈ ns, P n) (h : ∀ (n : Int) (tp' : List PyData) (os : Nat → Option Sl), TapeOk tp' → P n → R (.d (.int n)) (ios (.l tp') os)) : spPick [.l tp, .d menu] R := by
  refine pick_i _ h1 (by rw [List.length_map]; exact h2.1) (by rw [List.length_map]; exact small_of h2.2) h4 fun x tp' os ht hx => ?_
  obtain ⟨n, hn, rfl⟩ := List.mem_map.mp hx
  exact h n tp' os ht (hP n hn)
theorem rng_map (n : Nat) : rngL 0 (n : Int) = (List.range n).map fun i => PyData.int (i : Nat) := by
  unfold rngL
  rw [show ((n : Int) - 0).toNat = n by omega]
  exact List.map_congr_left fun i _ => by rw [Int.zero_add]
/-- a drawn order of all -/
def spShuf : FD := fun args Q => ∃ (tp : List PyData) (menu : PyData) (xs : List PyData), args = [.l tp, .d menu] ∧ (menu = .list xs ∨ menu = .tuple xs) ∧ xs.length ≤ 1000 ∧ TapeOk tp ∧ ∀ (ys : List PyData) tp' os, ys.Perm xs → TapeOk tp' → os 0 = some (.l tp') → Q (.l ys) os
def rShuf : TDS := (tdSeq (tdSet 2 (tdB rdList (tdCons (tdV 1) tdNil)))
  (tdSeq (tdSet 3 (tdLst tdNil))
  (tdSeq (tdFor (tdRng1 (tdCons (tdB rdLen (tdCons (tdV 1) tdNil)) tdNil)) (gdName 4) (tdDrop (tdM 3 rdAppend (tdCons (tdM 2 rdPopAt (tdCons (tdCall ([0], []) 2 spDraw (tdCons (tdV 0) (tdCons (tdB rdLen (tdCons (tdV 2) tdNil)) tdNil))) tdNil)) tdNil))))
  (tdRet ([0], []) (tdV 3)))))
theorem erase_perm {α : Type} : ∀ {l : List α} {j : Nat} {y : α}, l[j]? = some y → (y :: l.eraseIdx j).Perm l
  | [], _, _, h => by simp at h
  | a :: l, 0, y, h => by simp at h; subst h; exact .refl _
  | a :: l, j + 1, y, h => by
    have := erase_perm (l := l) (j := j) (y := y) (by simpa using h)
    exact (List.Perm.swap a y _).trans (this.cons a)
theorem hShuf (args : List Sl) (Q : Sl → (Nat → Option Sl) → Prop) (hl : args.length = 2) (h : spShuf args Q) : rShuf { nx := fun env => Q (.d .none) (osOf env), rt := fun r env => Q r (osOf env) } (startE 5 args) := by
  obtain ⟨tp, menu, xs, rfl, hm, hx, ht, k⟩ := h
  have go : ∀ (Kc : En → Prop), (∀ tp hs ts x, TapeOk tp → (ts ++ hs).Perm xs → hs = [] → Kc [some (.l tp), some (.d menu), some (.l hs), some (.l ts), x]) →
      ∀ i0, (∃ Pv : Nat → En → Prop, Pv 0 [some (.l tp), some (.d menu), some (.l xs), some (.l []), i0] ∧ (∀ i x env, (rngL 0 xs.length)[i]? = some x → Pv i env → gdName 4 x env fun env2 => tdDrop (tdM 3 rdAppend (tdCons (tdM 2 rdPopAt (tdCons (tdCall ([0], []) 2 spDraw (tdCons (tdV 0) (tdCons (tdB rdLen (tdCons (tdV 2) tdNil)) tdNil))) tdNil)) tdNil)) { nx := Pv (i + 1), ct := Pv (i + 1), bk := Kc, rt := fun r env => Q r (osOf env) } env2) ∧ ∀ env, Pv (rngL 0 xs.length).length env → Kc env) := fun Kc hKc i0 => by
    refine ⟨fun i env => ∃ tp hs ts x, env = [some (.l tp), some (.d menu), some (.l hs), some (.l ts), x] ∧ TapeOk tp ∧ (ts ++ hs).Perm xs ∧ hs.length + i = xs.length, ⟨tp, xs, [], i0, rfl, ht, .refl _, rfl⟩, fun i x env hx2 hP => ?_, fun env hP => ?_⟩
    · obtain ⟨tp, hs, ts, x0, rfl, ht, hp, hlen⟩ := hP
      obtain ⟨rfl, hi⟩ := rng_at hx2
      simp only [outE_i, outE_n, sz0, sz1, sz2, sz3, sz4, sz5, sz6, sz7, sz8, sz9, sz10, sz11, sz12, sz13, sz14, sz15, sz16, ↓tdFr, ↓frE, ↓rdDivmod, ↓rdNotIn, ↓tdTru, ↓startE, ↓tdSeq, ↓tdSet, ↓tdSetD, ↓tdDrop, ↓tdRet, ↓tdIfS, ↓tdNext, ↓tdAsg, ↓tdV, ↓tdC, ↓tdBin, ↓tdB, ↓tdCons, ↓tdNil, ↓tdTup, ↓tdLst, ↓tdTest, ↓tdAnd, ↓tdOr, ↓tdNot, ↓tdIf, ↓tdAndV, ↓tdOrV, ↓tdNotV, ↓tdNeg, ↓tdIsN, ↓tdNotN, ↓tdSl, ↓tdPart, ↓tdNoPart, ↓tdM, ↓tdSetIx, ↓tdAug, ↓tdPut, ↓tdGet2, ↓tdIsi, ↓tdListRg, ↓gdName, ↓gdNil, ↓gdCons, ↓gdTup, ↓tdIt, ↓tdRng1, ↓tdRng2, ↓tdCall, ↓tdNew, ↓tdJoin, ↓gcName, ↓gcNil, ↓gcCons, ↓gcTup, ↓tdYes, ↓res, ↓resR, ↓resAll, ↓rvD, ↓rdLen, ↓rdInt, ↓rdAbs, ↓rdMax2, ↓rdMin2, ↓rdOrd, ↓rdTuple, ↓rdList, ↓rdIx, ↓rdAdd, ↓rdSub, ↓rdMul, ↓rdMod, ↓rdDiv, ↓rdPow, ↓rdCmp, ↓rdEq, ↓rdNe, ↓rdIadd, ↓rdIn, ↓rdSorted, ↓rdSl, ↓isT, ↓rdAppend, ↓itemsOf, ↓rvOf, ↓argsOf, ↓argOf, Nat.reduceAdd, Nat.reduceLT, Nat.reduceSub, Int.reduceLT, Int.reduceLE, Int.reduceAdd, Int.reduceEq, Int.reduceNeg, Nat.reduceLeDiff, Nat.zero_add, Nat.reduceEqDiff, Nat.reduceBEq, ix41, ix42, ix43, ix40, List.length_cons, List.length_nil, List.map_cons, List.map_nil, List.replicate, List.cons_append, List.nil_append, List.getElem?_cons_zero, List.getElem?_cons_succ, List.set_cons_zero, List.set_cons_succ, Option.map_some, at0, at1, at2, at3, ix0, ix1, ix2, ix3, sh_int, sh_bl, sh_non, eqv_int, eqv_bl, eqv_str, decide_eq_true_eq, Bool.not_eq_true, Bool.not_true, Bool.not_false, Bool.false_eq_true, true_and, and_true, if_true, if_false, ite_true, ite_false, List.length_map, List.length_set, Sl.isD, List.mem_singleton, List.mem_cons, List.not_mem_nil, not_true_eq_false, not_false_eq_true, or_false]
      refine draw_i (by omega) ht (by omega) fun r tp' os t1 a b => ?_
      simp only [outE_i, outE_n, sz0, sz1, sz2, sz3, sz4, sz5, sz6, sz7, sz8, sz9, sz10, sz11, sz12, sz13, sz14, sz15, sz16, ↓tdFr, ↓frE, ↓rdDivmod, ↓rdNotIn, ↓tdTru, ↓startE, ↓tdSeq, ↓tdSet, ↓tdSetD, ↓tdDrop, ↓tdRet, ↓tdIfS, ↓tdNext, ↓tdAsg, ↓tdV, ↓tdC, ↓tdBin, ↓tdB, ↓tdCons, ↓tdNil, ↓tdTup, ↓tdLst, ↓tdTest, ↓tdAnd, ↓tdOr, ↓tdNot, ↓tdIf, ↓tdAndV, ↓tdOrV, ↓tdNotV, ↓tdNeg, ↓tdIsN, ↓tdNotN, ↓tdSl, ↓tdPart, ↓tdNoPart, ↓tdM, ↓tdSetIx, ↓tdAug, ↓tdPut, ↓tdGet2, ↓tdIsi, ↓tdListRg, ↓gdName, ↓gdNil, ↓gdCons, ↓gdTup, ↓tdIt, ↓tdRng1, ↓tdRng2, ↓tdCall, ↓tdNew, ↓tdJoin, ↓gcName, ↓gcNil, ↓gcCons, ↓gcTup, ↓tdYes, ↓res, ↓resR, ↓resAll, ↓rvD, ↓rdLen, ↓rdInt, ↓rdAbs, ↓rdMax2, ↓rdMin2, ↓rdOrd, ↓rdTuple, ↓rdList, ↓rdIx, ↓rdAdd, ↓rdSub, ↓rdMul, ↓rdMod, ↓rdDiv, ↓rdPow, ↓rdCmp, ↓rdEq, ↓rdNe, ↓rdIadd, ↓rdIn, ↓rdSorted, ↓rdSl, ↓isT, ↓rdAppend, ↓itemsOf, ↓rvOf, ↓argsOf, ↓argOf, Nat.reduceAdd, Nat.reduceLT, Nat.reduceSub, Int.reduceLT, Int.reduceLE, Int.reduceAdd, Int.reduceEq, Int.reduceNeg, Nat.reduceLeDiff, Nat.zero_add, Nat.reduceEqDiff, Nat.reduceBEq, ix41, ix42, ix43, ix40, List.length_cons, List.length_nil, List.map_cons, List.map_nil, List.replicate, List.cons_append, List.nil_append, List.getElem?_cons_zero, List.getElem?_cons_succ, List.set_cons_zero, List.set_cons_succ, Option.map_some, at0, at1, at2, at3, ix0, ix1, ix2, ix3, sh_int, sh_bl, sh_non, eqv_int, eqv_bl, eqv_str, decide_eq_true_eq, Bool.not_eq_true, Bool.not_true, Bool.not_false, Bool.false_eq_true, true_and, and_true, if_true, if_false, ite_true, ite_false, List.length_map, List.length_set, Sl.isD, List.mem_singleton, List.mem_cons, List.not_mem_nil, not_true_eq_false, not_false_eq_true, or_false]
      refine popAt a b (small_of (by omega)) fun j y ej hj => ?_
      have hl2 := hp.length_eq
      rw [List.length_append] at hl2
      refine ⟨Nat.lt_of_lt_of_le (show ts.length < 1001 by omega) (by decide), tp', hs.eraseIdx j, ts ++ [y], _, rfl, t1, ?_, ?_⟩
      · rw [List.append_assoc]
        exact ((erase_perm hj).append_left ts).trans hp
      · have := (List.getElem?_eq_some_iff.mp hj).1
        rw [List.length_eraseIdx, if_pos this]; omega
    · obtain ⟨tp, hs, ts, x0, rfl, ht, hp, hlen⟩ := hP
      rw [rng_len, Int.toNat_natCast] at hlen
      exact hKc tp hs ts x0 ht hp (List.length_eq_zero_iff.mp (by omega))
  unfold rShuf
  have hs := small_of hx
  rcases hm with rfl | rfl
  · refine seq_i fun Kc hK => ?_
    simp only [outE_i, outE_n, sz0, sz1, sz2, sz3, sz4, sz5, sz6, sz7, sz8, sz9, sz10, sz11, sz12, sz13, sz14, sz15, sz16, ↓tdFr, ↓frE, ↓rdDivmod, ↓rdNotIn, ↓tdTru, ↓startE, ↓tdSeq, ↓tdSet, ↓tdSetD, ↓tdDrop, ↓tdRet, ↓tdIfS, ↓tdNext, ↓tdAsg, ↓tdV, ↓tdC, ↓tdBin, ↓tdB, ↓tdCons, ↓tdNil, ↓tdTup, ↓tdLst, ↓tdTest, ↓tdAnd, ↓tdOr, ↓tdNot, ↓tdIf, ↓tdAndV, ↓tdOrV, ↓tdNotV, ↓tdNeg, ↓tdIsN, ↓tdNotN, ↓tdSl, ↓tdPart, ↓tdNoPart, ↓tdM, ↓tdSetIx, ↓tdAug, ↓tdPut, ↓tdGet2, ↓tdIsi, ↓tdListRg, ↓gdName, ↓gdNil, ↓gdCons, ↓gdTup, ↓tdIt, ↓tdRng1, ↓tdRng2, ↓tdCall, ↓tdNew, ↓tdJoin, ↓gcName, ↓gcNil, ↓gcCons, ↓gcTup, ↓tdYes, ↓res, ↓resR, ↓resAll, ↓rvD, ↓rdLen, ↓rdInt, ↓rdAbs, ↓rdMax2, ↓rdMin2, ↓rdOrd, ↓rdTuple, ↓rdList, ↓rdIx, ↓rdAdd, ↓rdSub, ↓rdMul, ↓rdMod, ↓rdDiv, ↓rdPow, ↓rdCmp, ↓rdEq, ↓rdNe, ↓rdIadd, ↓rdIn, ↓rdSorted, ↓rdSl, ↓isT, ↓rdAppend, ↓itemsOf, ↓rvOf, ↓argsOf, ↓argOf, Nat.reduceAdd, Nat.reduceLT, Nat.reduceSub, Int.reduceLT, Int.reduceLE, Int.reduceAdd, Int.reduceEq, Int.reduceNeg, Nat.reduceLeDiff, Nat.zero_add, Nat.reduceEqDiff, Nat.reduceBEq, ix41, ix42, ix43, ix40, List.length_cons, List.length_nil, List.map_cons, List.map_nil, List.replicate, List.cons_append, List.nil_append, List.getElem?_cons_zero, List.getElem?_cons_succ, List.set_cons_zero, List.set_cons_succ, Option.map_some, at0, at1, at2, at3, ix0, ix1, ix2, ix3, sh_int, sh_bl, sh_non, eqv_int, eqv_bl, eqv_str, decide_eq_true_eq, Bool.not_eq_true, Bool.not_true, Bool.not_false, Bool.false_eq_true, true_and, and_true, if_true, if_false, ite_true, ite_false, List.length_map, List.length_set, Sl.isD, List.mem_singleton, List.mem_cons, List.not_mem_nil, not_true_eq_false, not_false_eq_true, or_false]
    subst hK
    refine seq_i fun Kc hK => ?_
    simp only [outE_i, outE_n, sz0, sz1, sz2, sz3, sz4, sz5, sz6, sz7, sz8, sz9, sz10, sz11, sz12, sz13, sz14, sz15, sz16, ↓tdFr, ↓frE, ↓rdDivmod, ↓rdNotIn, ↓tdTru, ↓startE, ↓tdSeq, ↓tdSet, ↓tdSetD, ↓tdDrop, ↓tdRet, ↓tdIfS, ↓tdNext, ↓tdAsg, ↓tdV, ↓tdC, ↓tdBin, ↓tdB, ↓tdCons, ↓tdNil, ↓tdTup, ↓tdLst, ↓tdTest, ↓tdAnd, ↓tdOr, ↓tdNot, ↓tdIf, ↓tdAndV, ↓tdOrV, ↓tdNotV, ↓tdNeg, ↓tdIsN, ↓tdNotN, ↓tdSl, ↓tdPart, ↓tdNoPart, ↓tdM, ↓tdSetIx, ↓tdAug, ↓tdPut, ↓tdGet2, ↓tdIsi, ↓tdListRg, ↓gdName, ↓gdNil, ↓gdCons, ↓gdTup, ↓tdIt, ↓tdRng1, ↓tdRng2, ↓tdCall, ↓tdNew, ↓tdJoin, ↓gcName, ↓gcNil, ↓gcCons, ↓gcTup, ↓tdYes, ↓res, ↓resR, ↓resAll, ↓rvD, ↓rdLen, ↓rdInt, ↓rdAbs, ↓rdMax2, ↓rdMin2, ↓rdOrd, ↓rdTuple, ↓rdList, ↓rdIx, ↓rdAdd, ↓rdSub, ↓rdMul, ↓rdMod, ↓rdDiv, ↓rdPow, ↓rdCmp, ↓rdEq, ↓rdNe, ↓rdIadd, ↓rdIn, ↓rdSorted, ↓rdSl, ↓isT, ↓rdAppend, ↓itemsOf, ↓rvOf, ↓argsOf, ↓argOf, Nat.reduceAdd, Nat.reduceLT, Nat.reduceSub, Int.reduceLT, Int.reduceLE, Int.reduceAdd, Int.reduceEq, Int.reduceNeg, Nat.reduceLeDiff, Nat.zero_add, Nat.reduceEqDiff, Nat.reduceBEq, ix41, ix42, ix43, ix40, List.length_cons, List.length_nil, List.map_cons, List.map_nil, List.replicate, List.cons_append, List.nil_append, List.getElem?_cons_zero, List.getElem?_cons_succ, List.set_cons_zero, List.set_cons_succ, Option.map_some, at0, at1, at2, at3, ix0, ix1, ix2, ix3, sh_int, sh_bl, sh_non, eqv_int, eqv_bl, eqv_str, decide_eq_true_eq, Bool.not_eq_true, Bool.not_true, Bool.not_false, Bool.false_eq_true, true_and, and_true, if_true, if_false, ite_true, ite_false, List.length_map, List.length_set, Sl.isD, List.mem_singleton, List.mem_cons, List.not_mem_nil, not_true_eq_false, not_false_eq_true, or_false]
    subst hK
    refine seq_i fun Kc hK => ?_
    unfold tdFor
    simp only [outE_i, outE_n, sz0, sz1, sz2, sz3, sz4, sz5, sz6, sz7, sz8, sz9, sz10, sz11, sz12, sz13, sz14, sz15, sz16, ↓tdFr, ↓frE, ↓rdDivmod, ↓rdNotIn, ↓tdTru, ↓startE, ↓tdSeq, ↓tdSet, ↓tdSetD, ↓tdDrop, ↓tdRet, ↓tdIfS, ↓tdNext, ↓tdAsg, ↓tdV, ↓tdC, ↓tdBin, ↓tdB, ↓tdCons, ↓tdNil, ↓tdTup, ↓tdLst, ↓tdTest, ↓tdAnd, ↓tdOr, ↓tdNot, ↓tdIf, ↓tdAndV, ↓tdOrV, ↓tdNotV, ↓tdNeg, ↓tdIsN, ↓tdNotN, ↓tdSl, ↓tdPart, ↓tdNoPart, ↓tdM, ↓tdSetIx, ↓tdAug, ↓tdPut, ↓tdGet2, ↓tdIsi, ↓tdListRg, ↓gdName, ↓gdNil, ↓gdCons, ↓gdTup, ↓tdIt, ↓tdRng1, ↓tdRng2, ↓tdCall, ↓tdNew, ↓tdJoin, ↓gcName, ↓gcNil, ↓gcCons, ↓gcTup, ↓tdYes, ↓res, ↓resR, ↓resAll, ↓rvD, ↓rdLen, ↓rdInt, ↓rdAbs, ↓rdMax2, ↓rdMin2, ↓rdOrd, ↓rdTuple, ↓rdList, ↓rdIx, ↓rdAdd, ↓rdSub, ↓rdMul, ↓rdMod, ↓rdDiv, ↓rdPow, ↓rdCmp, ↓rdEq, ↓rdNe, ↓rdIadd, ↓rdIn, ↓rdSorted, ↓rdSl, ↓isT, ↓rdAppend, ↓itemsOf, ↓rvOf, ↓argsOf, ↓argOf, Nat.reduceAdd, Nat.reduceLT, Nat.reduceSub, Int.reduceLT, Int.reduceLE, Int.reduceAdd, Int.reduceEq, Int.reduceNeg, Nat.reduceLeDiff, Nat.zero_add, Nat.reduceEqDiff, Nat.reduceBEq, ix41, ix42, ix43, ix40, List.length_cons, List.length_nil, List.map_cons, List.map_nil, List.replicate, List.cons_append, List.nil_append, List.getElem?_cons_zero, List.getElem?_cons_succ, List.set_cons_zero, List.set_cons_succ, Option.map_some, at0, at1, at2, at3, ix0, ix1, ix2, ix3, sh_int, sh_bl, sh_non, eqv_int, eqv_bl, eqv_str, decide_eq_true_eq, Bool.not_eq_true, Bool.not_true, Bool.not_false, Bool.false_eq_true, true_and, and_true, if_true, if_false, ite_true, ite_false, List.length_map, List.length_set, Sl.isD, List.mem_singleton, List.mem_cons, List.not_mem_nil, not_true_eq_false, not_false_eq_true, or_false]
    refine ⟨⟨by omega, by omega⟩, go _ (fun tp hs ts x ht hp h0 => ?_) _⟩
    subst hK
    rw [h0, List.append_nil] at hp
    simp only [outE_i, outE_n, sz0, sz1, sz2, sz3, sz4, sz5, sz6, sz7, sz8, sz9, sz10, sz11, sz12, sz13, sz14, sz15, sz16, ↓tdFr, ↓frE, ↓rdDivmod, ↓rdNotIn, ↓tdTru, ↓startE, ↓tdSeq, ↓tdSet, ↓tdSetD, ↓tdDrop, ↓tdRet, ↓tdIfS, ↓tdNext, ↓tdAsg, ↓tdV, ↓tdC, ↓tdBin, ↓tdB, ↓tdCons, ↓tdNil, ↓tdTup, ↓tdLst, ↓tdTest, ↓tdAnd, ↓tdOr, ↓tdNot, ↓tdIf, ↓tdAndV, ↓tdOrV, ↓tdNotV, ↓tdNeg, ↓tdIsN, ↓tdNotN, ↓tdSl, ↓tdPart, ↓tdNoPart, ↓tdM, ↓tdSetIx, ↓tdAug, ↓tdPut, ↓tdGet2, ↓tdIsi, ↓tdListRg, ↓gdName, ↓gdNil, ↓gdCons, ↓gdTup, ↓tdIt, ↓tdRng1, ↓tdRng2, ↓tdCall, ↓tdNew, ↓tdJoin, ↓gcName, ↓gcNil, ↓gcCons, ↓gcTup, ↓tdYes, ↓res, ↓resR, ↓resAll, ↓rvD, ↓rdLen, ↓rdInt, ↓rdAbs, ↓rdMax2, ↓rdMin2, ↓rdOrd, ↓rdTuple, ↓rdList, ↓rdIx, ↓rdAdd, ↓rdSub, ↓rdMul, ↓rdMod, ↓rdDiv, ↓rdPow, ↓rdCmp, ↓rdEq, ↓rdNe, ↓rdIadd, ↓rdIn, ↓rdSorted, ↓rdSl, ↓isT, ↓rdAppend, ↓itemsOf, ↓rvOf, ↓argsOf, ↓argOf, Nat.reduceAdd, Nat.reduceLT, Nat.reduceSub, Int.reduceLT, Int.reduceLE, Int.reduceAdd, Int.reduceEq, Int.reduceNeg, Nat.reduceLeDiff, Nat.zero_add, Nat.reduceEqDiff, Nat.reduceBEq, ix41, ix42, ix43, ix40, List.length_cons, List.length_nil, List.map_cons, List.map_nil, List.replicate, List.cons_append, List.nil_append, List.getElem?_cons_zero, List.getElem?_cons_succ, List.set_cons_zero, List.set_cons_succ, Option.map_some, at0, at1, at2, at3, ix0, ix1, ix2, ix3, sh_int, sh_bl, sh_non, eqv_int, eqv_bl, eqv_str, decide_eq_true_eq, Bool.not_eq_true, Bool.not_true, Bool.not_false, Bool.false_eq_true, true_and, and_true, if_true, if_false, ite_true, ite_false, List.length_map, List.length_set, Sl.isD, List.mem_singleton, List.mem_cons, List.not_mem_nil, not_true_eq_false, not_false_eq_true, or_false]
    exact k _ _ _ hp ht rfl
  · refine seq_i fun Kc hK => ?_
    simp only [outE_i, outE_n, sz0, sz1, sz2, sz3, sz4, sz5, sz6, sz7, sz8, sz9, sz10, sz11, sz12, sz13, sz14, sz15, sz16, ↓tdFr, ↓frE, ↓rdDivmod, ↓rdNotIn, ↓tdTru, ↓startE, ↓tdSeq, ↓tdSet, ↓tdSetD, ↓tdDrop, ↓tdRet, ↓tdIfS, ↓tdNext, ↓tdAsg, ↓tdV, ↓tdC, ↓tdBin, ↓tdB, ↓tdCons, ↓tdNil, ↓tdTup, ↓tdLst, ↓tdTest, ↓tdAnd, ↓tdOr, ↓tdNot, ↓tdIf, ↓tdAndV, ↓tdOrV, ↓tdNotV, ↓tdNeg, ↓tdIsN, ↓tdNotN, ↓tdSl, ↓tdPart, ↓tdNoPart, ↓tdM, ↓tdSetIx, ↓tdAug, ↓tdPut, ↓tdGet2, ↓tdIsi, ↓tdListRg, ↓gdName, ↓gdNil, ↓gdCons, ↓gdTup, ↓tdIt, ↓tdRng1, ↓tdRng2, ↓tdCall, ↓tdNew, ↓tdJoin, ↓gcName, ↓gcNil, ↓gcCons, ↓gcTup, ↓tdYes, ↓res, ↓resR, ↓resAll, ↓rvD, ↓rdLen, ↓rdInt, ↓rdAbs, ↓rdMax2, ↓rdMin2, ↓rdOrd, ↓rdTuple, ↓rdList, ↓rdIx, ↓rdAdd, ↓rdSub, ↓rdMul, ↓rdMod, ↓rdDiv, ↓rdPow, ↓rdCmp, ↓rdEq, ↓rdNe, ↓rdIadd, ↓rdIn, ↓rdSorted, ↓rdSl, ↓isT, ↓rdAppend, ↓itemsOf, ↓rvOf, ↓argsOf, ↓argOf, Nat.reduceAdd, Nat.reduceLT, Nat.reduceSub, Int.reduceLT, Int.reduceLE, Int.reduceAdd, Int.reduceEq, Int.reduceNeg, Nat.reduceLeDiff, Nat.zero_add, Nat.reduceEqDiff, Nat.reduceBEq, ix41, ix42, ix43, ix40, List.length_cons, List.length_nil, List.map_cons, List.map_nil, List.replicate, List.cons_append, List.nil_append, List.getElem?_cons_zero, List.getElem?_cons_succ, List.set_cons_zero, List.set_cons_succ, Option.map_some, at0, at1, at2, at3, ix0, ix1, ix2, ix3, sh_int, sh_bl, sh_non, eqv_int, eqv_bl, eqv_str, decide_eq_true_eq, Bool.not_eq_true, Bool.not_true, Bool.not_false, Bool.false_eq_true, true_and, and_true, if_true, if_false, ite_true, ite_false, List.length_map, List.length_set, Sl.isD, List.mem_singleton, List.mem_cons, List.not_mem_nil, not_true_eq_false, not_false_eq_true, or_false]
    subst hK
    refine seq_i fun Kc hK => ?_
    simp only [outE_i, outE_n, sz0, sz1, sz2, sz3, sz4, sz5, sz6, sz7, sz8, sz9, sz10, sz11, sz12, sz13, sz14, sz15, sz16, ↓tdFr, ↓frE, ↓rdDivmod, ↓rdNotIn, ↓tdTru, ↓startE, ↓tdSeq, ↓tdSet, ↓tdSetD, ↓tdDrop, ↓tdRet, ↓tdIfS, ↓tdNext, ↓tdAsg, ↓tdV, ↓tdC, ↓tdBin, ↓tdB, ↓tdCons, ↓tdNil, ↓tdTup, ↓tdLst, ↓tdTest, ↓tdAnd, ↓tdOr, ↓tdNot, ↓tdIf, ↓tdAndV, ↓tdOrV, ↓tdNotV, ↓tdNeg, ↓tdIsN, ↓tdNotN, ↓tdSl, ↓tdPart, ↓tdNoPart, ↓tdM, ↓tdSetIx, ↓tdAug, ↓tdPut, ↓tdGet2, ↓tdIsi, ↓tdListRg, ↓gdName, ↓gdNil, ↓gdCons, ↓gdTup, ↓tdIt, ↓tdRng1, ↓tdRng2, ↓tdCall, ↓tdNew, ↓tdJoin, ↓gcName, ↓gcNil, ↓gcCons, ↓gcTup, ↓tdYes, ↓res, ↓resR, ↓resAll, ↓rvD, ↓rdLen, ↓rdInt, ↓rdAbs, ↓rdMax2, ↓rdMin2, ↓rdOrd, ↓rdTuple, ↓rdList, ↓rdIx, ↓rdAdd, ↓rdSub, ↓rdMul, ↓rdMod, ↓rdDiv, ↓rdPow, ↓rdCmp, ↓rdEq, ↓rdNe, ↓rdIadd, ↓rdIn, ↓rdSorted, ↓rdSl, ↓isT, ↓rdAppend, ↓itemsOf, ↓rvOf, ↓argsOf, ↓argOf, Nat.reduceAdd, Nat.reduceLT, Nat.reduceSub, Int.reduceLT, Int.reduceLE, Int.reduceAdd, Int.reduceEq, Int.reduceNeg, Nat.reduceLeDiff, Nat.zero_add, Nat.reduceEqDiff, Nat.reduceBEq, ix41, ix42, ix43, ix40, List.length_cons, List.length_nil, List.map_cons, List.map_nil, List.replicate, List.cons_append, List.nil_append, List.getElem?_cons_zero, List.getElem?_cons_succ, List.set_cons_zero, List.set_cons_succ, Option.map_some, at0, at1, at2, at3, ix0, ix1, ix2, ix3, sh_int, sh_bl, sh_non, eqv_int, eqv_bl, eqv_str, decide_eq_true_eq, Bool.not_eq_true, Bool.not_true, Bool.not_false, Bool.false_eq_true, true_and, and_true, if_true, if_false, ite_true, ite_false, List.length_map, List.length_set, Sl.isD, List.mem_singleton, List.mem_cons, List.not_mem_nil, not_true_eq_false, not_false_eq_true, or_false]
    subst hK
    refine seq_i fun Kc hK => ?_
    unfold tdFor
    simp only [outE_i, outE_n, sz0, sz1, sz2, sz3, sz4, sz5, sz6, sz7, sz8, sz9, sz10, sz11, sz12, sz13, sz14, sz15, sz16, ↓tdFr, ↓frE, ↓rdDivmod, ↓rdNotIn, ↓tdTru, ↓startE, ↓tdSeq, ↓tdSet, ↓tdSetD, ↓tdDrop, ↓tdRet, ↓tdIfS, ↓tdNext, ↓tdAsg, ↓tdV, ↓tdC, ↓tdBin, ↓tdB, ↓tdCons, ↓tdNil, ↓tdTup, ↓tdLst, ↓tdTest, ↓tdAnd, ↓tdOr, ↓tdNot, ↓tdIf, ↓tdAndV, ↓tdOrV, ↓tdNotV, ↓tdNeg, ↓tdIsN, ↓tdNotN, ↓tdSl, ↓tdPart, ↓tdNoPart, ↓tdM, ↓tdSetIx, ↓tdAug, ↓tdPut, ↓tdGet2, ↓tdIsi, ↓tdListRg, ↓gdName, ↓gdNil, ↓gdCons, ↓gdTup, ↓tdIt, ↓tdRng1, ↓tdRng2, ↓tdCall, ↓tdNew, ↓tdJoin, ↓gcName, ↓gcNil, ↓gcCons, ↓gcTup, ↓tdYes, ↓res, ↓resR, ↓resAll, ↓rvD, ↓rdLen, ↓rdInt, ↓rdAbs, ↓rdMax2, ↓rdMin2, ↓rdOrd, ↓rdTuple, ↓rdList, ↓rdIx, ↓rdAdd, ↓rdSub, ↓rdMul, ↓rdMod, ↓rdDiv, ↓rdPow, ↓rdCmp, ↓rdEq, ↓rdNe, ↓rdIadd, ↓rdIn, ↓rdSorted, ↓rdSl, ↓isT, ↓rdAppend, ↓itemsOf, ↓rvOf, ↓argsOf, ↓argOf, Nat.reduceAdd, Nat.reduceLT, Nat.reduceSub, Int.reduceLT, Int.reduceLE, Int.reduceAdd, Int.reduceEq, Int.reduceNeg, Nat.reduceLeDiff, Nat.zero_add, Nat.reduceEqDiff, Nat.reduceBEq, ix41, ix42, ix43, ix40, List.length_cons, List.length_nil, List.map_cons, List.map_nil, List.replicate, List.cons_append, List.nil_append, List.getElem?_cons_zero, List.getElem?_cons_succ, List.set_cons_zero, List.set_cons_succ, Option.map_some, at0, at1, at2, at3, ix0, ix1, ix2, ix3, sh_int, sh_bl, sh_non, eqv_int, eqv_bl, eqv_str, decide_eq_true_eq, Bool.not_eq_true, Bool.not_true, Bool.not_false, Bool.false_eq_true, true_and, and_true, if_true, if_false, ite_true, ite_false, List.length_map, List.length_set, Sl.isD, List.mem_singleton, List.mem_cons, List.not_mem_nil, not_true_eq_false, not_false_eq_true, or_false]
    refine ⟨⟨by omega, by omega⟩, go _ (fun tp hs ts x ht hp h0 => ?_) _⟩
    subst hK
    rw [h0, List.append_nil] at hp
    simp only [outE_i, outE_n, sz0, sz1, sz2, sz3, sz4, sz5, sz6, sz7, sz8, sz9, sz10, sz11, sz12, sz13, sz14, sz15, sz16, ↓tdFr, ↓frE, ↓rdDivmod, ↓rdNotIn, ↓tdTru, ↓startE, ↓tdSeq, ↓tdSet, ↓tdSetD, ↓tdDrop, ↓tdRet, ↓tdIfS, ↓tdNext, ↓tdAsg, ↓tdV, ↓tdC, ↓tdBin, ↓tdB, ↓tdCons, ↓tdNil, ↓tdTup, ↓tdLst, ↓tdTest, ↓tdAnd, ↓tdOr, ↓tdNot, ↓tdIf, ↓tdAndV, ↓tdOrV, ↓tdNotV, ↓tdNeg, ↓tdIsN, ↓tdNotN, ↓tdSl, ↓tdPart, ↓tdNoPart, ↓tdM, ↓tdSetIx, ↓tdAug, ↓tdPut, ↓tdGet2, ↓tdIsi, ↓tdListRg, ↓gdName, ↓gdNil, ↓gdCons, ↓gdTup, ↓tdIt, ↓tdRng1, ↓tdRng2, ↓tdCall, ↓tdNew, ↓tdJoin, ↓gcName, ↓gcNil, ↓gcCons, ↓gcTup, ↓tdYes, ↓res, ↓resR, ↓resAll, ↓rvD, ↓rdLen, ↓rdInt, ↓rdAbs, ↓rdMax2, ↓rdMin2, ↓rdOrd, ↓rdTuple, ↓rdList, ↓rdIx, ↓rdAdd, ↓rdSub, ↓rdMul, ↓rdMod, ↓rdDiv, ↓rdPow, ↓rdCmp, ↓rdEq, ↓rdNe, ↓rdIadd, ↓rdIn, ↓rdSorted, ↓rdSl, ↓isT, ↓rdAppend, ↓itemsOf, ↓rvOf, ↓argsOf, ↓argOf, Nat.reduceAdd, Nat.reduceLT, Nat.reduceSub, Int.reduceLT, Int.reduceLE, Int.reduceAdd, Int.reduceEq, Int.reduceNeg, Nat.reduceLeDiff, Nat.zero_add, Nat.reduceEqDiff, Nat.reduceBEq, ix41, ix42, ix43, ix40, List.length_cons, List.length_nil, List.map_cons, List.map_nil, List.replicate, List.cons_append, List.nil_append, List.getElem?_cons_zero, List.getElem?_cons_succ, List.set_cons_zero, List.set_cons_succ, Option.map_some, at0, at1, at2, at3, ix0, ix1, ix2, ix3, sh_int, sh_bl, sh_non, eqv_int, eqv_bl, eqv_str, decide_eq_true_eq, Bool.not_eq_true, Bool.not_true, Bool.not_false, Bool.false_eq_true, true_and, and_true, if_true, if_false, ite_true, ite_false, List.length_map, List.length_set, Sl.isD, List.mem_singleton, List.mem_cons, List.not_mem_nil, not_true_eq_false, not_false_eq_true, or_false]
    exact k _ _ _ hp ht rfl
end DL

set_option Elab.async false
set_option linter.all false
set_option maxRecDepth 100000
set_option maxHeartbeats 4000000
set_option autoImplicit false
namespace DL
open PySem PySem.Spec PyProof.Rows L2
/-! ### promises of defs that are run where no guard stands (so repr may be asked) -/
structure FnG (P : Program) (w : World) (K : PySem.W.Frag) (mg : Str → Option Value) (base : Heap) (k : Nat) (f : Addr) (fd : FuncData) (ps : List Str) (sp : Sp) : Prop where
  len : ∀ vs H Q E, sp vs H Q E → vs.length = ps.length
  run : ∀ (B : Around) (out : List Env) (s : Shared) (H : Hp) (ar : Args) (us : List Value) (vs : List V) (Q : VK) (E : XK), Room k B → B.guards = some [] → Env0 P w K mg base B out s H →
    BindsTo s fd ar (ps.zip us) → Vals vs us → sp vs H Q E → codeAny (model P w) B (.call (.ref f) ar) (CR CX0 out P w H s Q E) s
section
variable {P : Program} {w : World} {K : PySem.W.Frag} {mg : Str → Option Value} {base : Heap}
theorem FnG.mono {j k : Nat} {f : Addr} {fd : FuncData} {ps : List Str} {sp : Sp} (F : FnG P w K mg base j f fd ps sp) (h : j ≤ k) : FnG P w K mg base k f fd ps sp :=
  ⟨F.len, fun B out s H ar us vs Q E hr => F.run B out s H ar us vs Q E (hr.mono h)⟩
/-- a def's promise by its body -/
theorem fng_of {k : Nat} {f : Addr} {name qual : Str} {pa : Arguments} {body : List Stmt} {sc : Scope} {dV kV doc pm cd ct oc : Value} {an od : Option Addr} {osl : Array (Option Value)} {N ps : List Str} {sp : Sp}
    (at_ : K.lookup f = some ⟨oc, od, .func (PySem.W.fnOf name qual pa body sc dV kV doc pm an cd ct), osl⟩) (hcd : PySem.W.codeIn K cd qual = true) (S : FnScope N ps sc)
    (len : ∀ vs H Q E, sp vs H Q E → vs.length = ps.length)
    (run : ∀ (B : Around) (out : List Env) (s : Shared) (H : Hp) (vs : List V) (Q : VK) (E : XK), Room k (B.deeper (envOfC qual sc s.heap.objs.size f cd)) → B.guards = some [] → sp vs H Q E →
      ∃ t, PSs (cxOf CX0 P w K mg base N qual sc f cd B out s H E) body t ∧ t { nx := fun _ H1 => Q .non H1, rt := Q } (L2.start N vs) H) :
    FnG P w K mg base (k + 1) f (PySem.W.fnOf name qual pa body sc dV kV doc pm an cd ct) ps sp := by
  constructor
  · exact len
  intro B out s H ar us vs Q E room gd env bind vals prom
  have ln := len _ _ _ _ prom
  have inK : K.In s.heap := env.mod.kin.keeps fun b o z => (env.bs b o z).1
  have nl : s.heap.NoLimit := env.mod.nolimit.keeps fun b o z => (env.bs b o z).1
  refine codeAny_call_function room.depth (inK _ _ at_) rfl S.co S.gen rfl (PySem.W.codeRec_of inK hcd) (bind _ _ _ _ ?_)
  refine wpAny_newFunctionEnv_cells S.kind (fun y hy => ?_) (fun en heq t x => ?_)
  · obtain ⟨n, v⟩ := y
    cases S.par n (List.of_mem_zip hy).1 with
    | inl q => exact Or.inl q
    | inr q => exact Or.inr ⟨q, PySem.W.cellsFrom_some _ _ _ (Or.inl q)⟩
  · subst heq
    constructor
    · exact nl.keeps x.toInCall.keep
    refine codeAny_func ?_
    obtain ⟨rd, pf, go⟩ := run B out s H vs Q E (room.deeper _) gd prom
    have I := inv_start (E := E) (CX := CX0) S room.hd env ln vals x
    refine wpAny_mono (pf.run [] t (L2.start N vs) H _ I go) (fun fl u hu => ?_) (fun _ _ hu => hu)
    have close : ∀ {σ : L2.St} {H1 : Hp} {v : V} {z : Value}, Inv (cxOf CX0 P w K mg base N qual sc f cd B out s H E) [] σ H1 u → RelV v z → Q v H1 → CE out P w H s Q z u :=
      fun {σ H1 v z} J r q => ⟨v, H1, J.os, J.bare, J.base, J.hok, r, q⟩
    match fl, hu with
    | .ret z, ⟨v, σ, H1, J, r, q⟩ => exact close J r q
    | .next, ⟨σ, H1, J, q⟩ => exact close (v := V.non) (z := Value.none) J rfl q
    | .brk, ⟨_, _, _, q⟩ => exact q.elim
    | .cont, ⟨_, _, _, q⟩ => exact q.elim
theorem fndG {x qual : Str} {st : Stmt} {f : Addr} {fd : FuncData} {Ns ps : List Str} {k : Nat} {N : List Nat × List Nat} {n : Nat} {sp : FD}
    (F : Fun K x qual st f fd) (S : FnScope Ns ps (defScope st)) (hn : ps.length = n)
    (hb : ∀ (cdv : Value) (A : Around) (outer : List Env) (s : Shared) (H : Hp) (E : XK), Room k (A.deeper (PyProof.Rows.envOfC qual (defScope st) s.heap.objs.size f cdv)) → A.guards = some [] →
      ∃ t, PSDs (cxOf CX0 P w K mg base Ns qual (defScope st) f cdv A outer s H E).nox N (defBody st) t ∧ ∀ (args : List Sl) (Q : Sl → (Nat → Option Sl) → Prop), args.length = n → sp args Q → t { nx := fun env => Q (.d .none) (osOf env), rt := fun r env => Q r (osOf env) } (startE Ns.length args)) :
    FnG P w K mg base (k + 1) f fd ps (spD K N n sp) := by
  obtain ⟨oc, od, kV, doc, pm, an, cdv, ct, osl, rfl, lk, hcd⟩ := F.ex
  refine fng_of lk hcd S (fun vs H Q E h => by rw [hn]; exact spD_len h) fun A outer s H vs Q E hr hg h => ?_
  obtain ⟨t, hp, ht⟩ := hb cdv A outer s H E hr hg
  obtain ⟨ts, p1, q1⟩ := body_go (X := (cxOf CX0 P w K mg base Ns qual (defScope st) f cdv A outer s H E).nox) hp ht h
  exact ⟨ts, p1.nox, q1⟩
end
section
variable {X : Cx} {k n : Nat} {f : Addr} {fd : FuncData} {ps : List Str} {N : List Nat × List Nat} {g : FD} {x : Str} {p pos : Pos} {e : Expr} {es : List Expr} {ta : TDA}
theorem pd_callG (F : FnG X.prog X.w X.K X.mg X.base k f fd ps (spD X.K N n g)) (hr : Room k X.A ∧ X.A.guards = some []) (hg : Gl X x) (hm : X.mg x = some (.ref f)) (hk : PySem.W.keepIn X.K (.ref f) = true) (hb : Binds X.K fd ps [])
    (ha : PDA X (e :: es) ta) (hN : N.1.length ≤ 1 := by decide) (hdb : (x == ("__debug__" : Str)) = false := by decide) (he : starEach (e :: es) X.env = (false, eval e X.env) :: starEach es X.env := by rfl) (hpl : (backTo pos (starEach es X.env)).any (·.1) = false := by rfl) :
    PD X (.Call (.Name x p) (e :: es) [] pos) (tdCall N n g ta) := by
  refine pd_callP (E0 := fun _ _ _ => False) (fun t pt => ⟨fun pins s σ H Q I h => ?_⟩) ha hN
  refine wpAny_Call_Name_kw (ld_glob I hg hm ?_ hdb)
  refine PySem.W.callWith_K (h₀ := X.base) I.ok.mod.kin hk (thn (pt.run pos pins s σ H _ I h) ?_) he hpl
  intro us s1 ⟨vs, H1, I1, r, q⟩
  refine ⟨I1.kIn, ?_⟩
  have r2 : Vals (vs ++ []) (us ++ []) := r.append .nil
  have hl : (us ++ []).length = ps.length := by rw [← r2.length]; exact F.len _ _ _ _ q
  refine wpAny_call (codeAny_mono (F.run X.A X.stack s1 H1 ⟨us, []⟩ (us ++ []) (vs ++ []) Q _ hr.1 hr.2 I1.env0 (hb s1 us I1.kIn hl) r2 q) fun z s2 hz => ?_)
  match z, hz with
  | .error er, hz => exact hz.elim
  | .ok (.ret u), hz => exact I1.after hz
  | .ok .next, hz => exact hz.elim
  | .ok .brk, hz => exact hz.elim
  | .ok .cont, hz => exact hz.elim
/-- repr of data -/
def rdRepr : List PyData → (Rv → Prop) → Prop
  | [d], Q => (d.showable = true ∧ d.hasDict = false ∧ d.depth ≤ 64 ∧ d.shown.length ≤ sizeLine) ∧ Q (.d (.str d.shown))
  | _, _ => False
theorem bd_repr (hu : X.A.units + 66 < cLine) (hg : X.A.guards = some []) : BD X (.builtin "repr") rdRepr := by
  refine ⟨fun vs H Q => ∃ v d, vs = [v] ∧ Dp X.K H v d ∧ (d.showable = true ∧ d.hasDict = false ∧ d.depth ≤ 64 ∧ d.shown.length ≤ sizeLine) ∧ Q (.str d.shown) H, fun pins s σ H xs us Q I r h => ?_, fun H W vs xs Q Qd hw r q kk => ?_⟩
  · obtain ⟨v, d, rfl, hd, ⟨h1, h2, h3, h4⟩, q⟩ := h
    obtain ⟨u, rfl, ru⟩ := vals1 r
    have fin : ∀ h' tk tk', (∀ b o, s.heap.get? b = some o → h'.get? b = some o) → EP X pins σ Q (.str d.shown tk) { s with heap := h', toks := tk' } := fun h' tk tk' ke => ⟨.str _, H, I.kept ke, ⟨_, rfl⟩, q⟩
    have keep0 : ∀ b o, s.heap.get? b = some o → s.heap.get? b = some o := fun _ _ e => e
    have big : ∀ a as, u = .ref a → Reads s.heap u d as → wpAny (model X.prog X.w) X.A (call (.builtin "repr") [u]) (EP X pins σ Q) X.xe s := fun a as e rd => by
      subst e
      exact repr_of_reads' rd h1 (PyData.noDict_hsm h2) hg (by omega) keep0 (fun h' tk tk' ke => fin h' tk tk' ke) h4
    obtain ⟨as, rd⟩ := Dp.reads I d v u hd ru
    cases d with
    | none =>
      cases hd; cases ru
      exact PySem.P.repr_of_none (by simpa [PyData.shown] using fin s.heap s.toks (s.toks + 1) keep0)
    | bool b =>
      cases hd; cases ru
      exact PySem.P.repr_of_bool (by simpa [PyData.shown] using fin s.heap s.toks (s.toks + 1) keep0)
    | int i =>
      cases hd
      obtain ⟨t, rfl⟩ := ru
      exact PySem.P.repr_of_int (by simpa [PyData.showable] using h1) (by simpa [PyData.shown] using fin s.heap s.toks (s.toks + 1) keep0)
    | str z =>
      cases hd
      obtain ⟨t, rfl⟩ := ru
      have h4' : (reprText z).length ≤ sizeLine := by simpa [PyData.shown] using h4
      exact PySem.P.repr_of_str (by simpa [PyData.shown] using fin s.heap s.toks (s.toks + 1) keep0) h4'
    | list xs =>
      cases hd with
      | lst a b => exact big _ _ ru rd
    | tuple xs =>
      cases hd with
      | tup a b => exact big _ _ ru rd
    | dict kv => cases hd
  · unfold rdRepr at q
    split at q
    · obtain ⟨v, rfl, d⟩ := dqall1 r
      exact ⟨v, _, rfl, d.dp, q.1, kk.str q.2⟩
    · exact q.elim
theorem bt_repr : bootBuiltins "repr" = some (.builtin "repr") := by decide +kernel
end
/-! ### the law's call, from where no guard stands -/
theorem walk_ofG {l : PySem.W.OpenLaw} {n k : Nat} {q : Program} {loose : List Str} {XP : (Str → Option Value) → Heap → Prop} {YP : World → Heap → Prop} {d : DefRec} {K : Params → PySem.W.Frag} {sp : World → Sp} {x : Str}
    (hn : l.most = some n) (hn2 : n ≤ sizeLine) (hdf : d.params.defaults = []) (hr : Room k callerA) (hY : ∀ (w : World) (h : Heap), YP w h → (K w.params).In h)
    (F : ∀ (w : World) (mg : Str → Option Value) (fa : Addr) (h : Heap), (K w.params).In h → h.Ns mainGlobals mg → mg d.name = some (.ref fa) →
      ∃ fd : FuncData, (∀ (s : Shared) (u : Value), BindsTo s fd ⟨[u], []⟩ [(x, u)]) ∧
        ∀ base : Heap, (K w.params).In base → base.Ns mainGlobals mg → FnG l.prog w (K w.params) mg base k fa fd [x] (sp w))
    (hsp : ∀ (w : World) (H : Hp) (a : Addr) (ns : List Int), ns.length ≤ n → Only H → SqL (K w.params) H a (ns.map V.int) → sp w [.ref a] H (fun v _ => v = .bl true) fun _ _ _ => False) :
    PySem.W.WalkO q loose XP YP l.row.toRowW d [] (fun f vs => PySem.call f vs) := by
  refine Att.attach_call hn hdf ?_
  intro w s₀ s mg mb fa o pm cd doc a vs ns G Y ho hd hcd hmg sat isI hlen gens
  have inK := hY w _ Y
  obtain ⟨fd, bind, prom⟩ := F w mg fa _ inK G.T.g hmg
  -- what is tracked: the script, unless the module holds it
  obtain ⟨H, only, seq, hok, just, free⟩ : ∃ H : Hp, Only H ∧ SqL (K w.params) H a (ns.map V.int) ∧ HOk l.prog w H s.heap ∧ (∀ b, H b ≠ none → b = a) ∧ (H a ≠ none → (K w.params).lookup a = none) := by
    cases lk : (K w.params).lookup a with
    | some u =>
      have same : s.heap.get? a = some u := inK a u lk
      rw [sat] at same
      cases same
      refine ⟨fun _ => none, fun _ => Or.inl rfl, Or.inr ⟨_, vs.toArray, 0, lk, rfl, rfl, rfl, ?_, ?_⟩, (fun b u (z : (none : Option HO) = some u) => (by cases z)), fun b z => absurd rfl z, fun z => absurd rfl z⟩
      · rw [List.size_toArray, isI.length]
        exact Nat.le_trans hlen hn2
      · have := vals_ints isI
        simpa using this
    | none =>
      let sc : HO := .frz { cls := .type "list", data := .seq vs.toArray } (.lst (ns.map V.int))
      refine ⟨fun b => if b = a then some sc else none, fun b => ?_, Or.inl (Or.inr ⟨{ cls := .type "list", data := .seq vs.toArray }, if_pos rfl⟩), fun b u z => ?_, fun b z => ?_, fun _ => rfl⟩
      · by_cases c : b = a
        · exact Or.inr ⟨_, _, if_pos c⟩
        · exact Or.inl (if_neg c)
      · by_cases c : b = a
        · have z2 := (if_pos c).symm.trans z
          cases z2
          subst c
          exact ⟨sat, by rw [List.length_map]; exact Nat.le_trans hlen hn2, vs, 0, vals_ints isI, sat⟩
        · have z2 := (if_neg c).symm.trans z
          cases z2
      · exact Classical.byContradiction fun c => z (if_neg c)
  have lst : ∀ {b : Addr} {o : Obj}, s.heap.get? b = some o → H b ≠ none → o = { cls := .type "list", data := .seq vs.toArray } := fun e z => by
    rw [just _ z, sat] at e
    exact (Option.some.inj e).symm
  have ns_ : ∀ {b : Addr} {m : Str → Option Value}, s.heap.Ns b m → (hidT s.heap H).Ns b m := fun {b m} ⟨o, es, ep, e, d, r⟩ => by
    refine ⟨o, es, ep, hidT_get e (Classical.byContradiction fun z => ?_), d, r⟩
    rw [lst e z] at d
    exact (nomatch (show Data.seq vs.toArray 0 = Data.dict es ep from d))
  have kin : (K w.params).In (hidT s.heap H) := fun b o e => hidT_get (inK b o e) (Classical.byContradiction fun z => by
    have c := just b z
    subst c
    rw [free z] at e
    cases e)
  obtain ⟨mc, lim1, lim2⟩ := G.T.nolimit
  have md : Mod (K w.params) mg (hidT s.heap H) := ⟨kin, ns_ G.T.g, ⟨mb, ns_ G.T.b, G.T.builtins⟩, ⟨mc, ns_ lim1, lim2⟩⟩
  have e0 : Env0 l.prog w (K w.params) mg (hidT s.heap H) callerA [] s H :=
    { frames := rfl, mod := md, bs := fun b o e => of_hidT e, bsz := Nat.le_of_eq (hidT_size _ _), funs := trivial, frf := fun b hb => absurd hb List.not_mem_nil, hok := hok, bare := .of_eq gens }
  refine codeAny_mono ((prom _ kin (ns_ G.T.g)).run callerA [] s H ⟨[.ref a], []⟩ [.ref a] [.ref a] _ _ hr rfl e0 (bind s (.ref a)) (.cons rfl .nil) (hsp w H a ns hlen only seq)) ?_
  intro r s' h
  match r, h with
  | .error e, h => exact h.elim
  | .ok .next, h => exact h.elim
  | .ok .brk, h => exact h.elim
  | .ok .cont, h => exact h.elim
  | .ok (.ret u), ⟨v, H', os, bare, un, hok', rv, qv⟩ =>
    have e1 : v = .bl true := qv
    subst e1
    have e2 : u = Value.bool true := rv
    subst e2
    refine ⟨rfl, OldK.of_keep (fun b o e => ?_), os, bare⟩
    cases z : H b with
    | none => exact un.keep b o e z (fun m => absurd m List.not_mem_nil) List.not_mem_nil
    | some u =>
      rcases only b with y | ⟨ob, xs, y⟩
      · rw [y] at z; cases z
      · have f1 := (hok b _ y).1
        have f2 := (hok' b _ (un.frzs b ob _ y)).1
        rw [e] at f1
        cases f1
        exact f2
end DL

set_option Elab.async false
set_option linter.all false
set_option maxRecDepth 100000
set_option maxHeartbeats 4000000
set_option autoImplicit false
namespace DL
open PySem PySem.Spec L2
theorem u66 {k : Nat} {A : Around} (r : Room k A) : A.units + 66 < cLine := by have := r.un; omega
/-- (a, b, ..) = a list of that length -/
def gdLst (n : Nat) (t : TDGs) : TDG := fun x env Q => match x with
  | .list xs => xs.length = n ∧ t xs env Q
  | _ => False
section
variable {X : Cx} {N : List Nat × List Nat} {es : List Expr} {u : TDGs} {pos : Pos}
theorem pdg_lst {k n : Nat} (hc : X.calm = true) (h : PDGs X N es u) (hn : (assignEach es X.env).length = n := by rfl) (hst : (assignEach es X.env).findIdx? (·.1) = none := by rfl) : PDG X N (.Tuple es k pos) (gdLst n u) := by
  obtain ⟨g, p, q⟩ := h
  refine ⟨_, pg_unl hc p hn hst, fun B v x σ H W A env Q Qd hB R d h k => ?_⟩
  cases x with
  | list xs =>
    cases d with
    | lst s r => exact ⟨_, _, rfl, hw_same.seq s, r.len.trans h.1, q B _ _ σ H W A env Q Qd hB R r h.2 k⟩
  | _ => exact h.elim
end
section
variable {X : Cx}
def rdMax3 : List PyData → (Rv → Prop) → Prop
  | [.int i, .int j, .int k], Q => Q (.d (.int (if k > (if j > i then j else i) then k else (if j > i then j else i))))
  | _, _ => False
def rdMin3 : List PyData → (Rv → Prop) → Prop
  | [.int i, .int j, .int k], Q => Q (.d (.int (if k < (if j < i then j else i) then k else (if j < i then j else i))))
  | _, _ => False
theorem dqall3 {K : PySem.W.Frag} {H : Hp} {W : List Addr} {vs : List V} {x y z : PyData} (h : DqAll K H W vs [x, y, z]) : ∃ v u w, vs = [v, u, w] ∧ Dq K H W v x ∧ Dq K H W u y ∧ Dq K H W w z := by
  cases h with
  | cons a b => cases b with
    | cons b c => cases c with
      | cons c d => cases d; exact ⟨_, _, _, rfl, a, b, c⟩
theorem nu_max2 (i j : Int) : nuMax2 (.int i) (.int j) = some (.int (if j > i then j else i)) := by
  show (some (decide (i < j))).map (fun c => if c = true then V.int j else V.int i) = _
  by_cases h : j > i
  · rw [if_pos h, decide_eq_true (show i < j from h)]; rfl
  · rw [if_neg h, decide_eq_false (show ¬ i < j from h)]; rfl
theorem nu_max3 (i j k : Int) : nuMax3 (.int i) (.int j) (.int k) = some (.int (if k > (if j > i then j else i) then k else (if j > i then j else i))) := by
  unfold nuMax3
  rw [nu_max2, Option.bind_some, nu_max2]
theorem bd_max3 (hc : X.calm = true) : BD X (.builtin "max") rdMax3 := by
  refine ⟨_, call_max3Nu hc, fun H W vs xs Q Qd hw r q k => ?_⟩
  unfold rdMax3 at q
  split at q
  · obtain ⟨v, u, w, rfl, d, d2, d3⟩ := dqall3 r
    rw [d.int, d2.int, d3.int]
    exact ⟨_, _, _, _, rfl, nu_max3 _ _ _, k.int q⟩
  · exact q.elim
/-- max, min of one list of ints -/
def rdMaxL : List PyData → (Rv → Prop) → Prop
  | [.list xs], Q => ∃ ns : List Int, xs = ns.map .int ∧ 0 < ns.length ∧ ∀ m, m ∈ ns → (∀ y, y ∈ ns → y ≤ m) → Q (.d (.int m))
  | _, _ => False
def rdMinL : List PyData → (Rv → Prop) → Prop
  | [.list xs], Q => ∃ ns : List Int, xs = ns.map .int ∧ 0 < ns.length ∧ ∀ m, m ∈ ns → (∀ y, y ∈ ns → m ≤ y) → Q (.d (.int m))
  | _, _ => False
theorem bd_maxL (hc : X.calm = true) : BD X (.builtin "max") rdMaxL := by
  refine ⟨_, cr_max hc, fun H W vs xs Q Qd hw r q k => ?_⟩
  unfold rdMaxL at q
  split at q
  · obtain ⟨v, rfl, d⟩ := dqall1 r
    obtain ⟨ns, rfl, h0, q⟩ := q
    obtain ⟨a, us, rfl, s, da⟩ := d
    rw [da.ints] at s
    exact ⟨a, ns, rfl, s, h0, fun m h1 h2 => k.int (q m h1 h2)⟩
  · exact q.elim
theorem bd_minL (hc : X.calm = true) : BD X (.builtin "min") rdMinL := by
  refine ⟨_, cr_min hc, fun H W vs xs Q Qd hw r q k => ?_⟩
  unfold rdMinL at q
  split at q
  · obtain ⟨v, rfl, d⟩ := dqall1 r
    obtain ⟨ns, rfl, h0, q⟩ := q
    obtain ⟨a, us, rfl, s, da⟩ := d
    rw [da.ints] at s
    exact ⟨a, ns, rfl, s, h0, fun m h1 h2 => k.int (q m h1 h2)⟩
  · exact q.elim
end
/-- == where two texts need no look -/
def rdEqS : PyData → PyData → (Rv → Prop) → Prop
  | .str x, .str y, Q => Q (.d (.bool (decide (x = y))))
  | a, b, Q => rdEq a b Q
theorem od_eqS {X : Cx} (hu : X.A.units + 64 < cLine) : OpD X (compareOp .Eq) rdEqS := by
  refine ⟨_, orR op_eq (op_eqD hu), fun H W x y a b Q Qd hw ra rb q k => ?_⟩
  unfold rdEqS at q
  split at q
  · rename_i a b
    refine .inl ?_
    rw [ra.str, rb.str]
    refine ⟨rfl, ?_⟩
    have e : decide (V.str a = V.str b) = decide (a = b) := by
      by_cases c : a = b
      · subst c; simp
      · rw [decide_eq_false c, decide_eq_false fun z => c (by injection z)]
    rw [e]
    exact k.bl q
  · obtain ⟨h1, h2, q⟩ := q
    exact .inr ⟨_, _, ra.dp, rb.dp, h1, h2, k.bl q⟩
end DL

set_option Elab.async false
set_option linter.all false
set_option maxRecDepth 100000
set_option maxHeartbeats 4000000
set_option autoImplicit false
namespace DL
open PySem PySem.Spec L2
/-! ### texts and data that may be compared, shown -/
def Sg (z : Str) : Prop := z.cps.all (· < 0x110000) = true
theorem sg_app {a b : Str} (h : Sg a) (h2 : Sg b) : Sg (a ++ b) := by
  unfold Sg at *
  show (a.cps ++ b.cps).all _ = true
  rw [Array.all_append, h, h2]; rfl
theorem sg_one {z : Str} (h : Sg z) {c : Nat} (hc : c ∈ z.cps.toList) : Sg ⟨#[c]⟩ := by
  unfold Sg at *
  have := Array.all_eq_true_iff_forall_mem.mp h c (by simpa using hc)
  simpa using this
theorem len_app (a b : Str) : (a ++ b).length = a.length + b.length := by
  show (a.cps ++ b.cps).size = _
  rw [Array.size_append]; rfl
theorem sh_str {z : Str} (h : Sg z) : SeqAt.shaped (.str z) = true := by
  simp only [SeqAt.shaped, PyData.canLay0, PyData.depth, Bool.and_eq_true]
  exact ⟨h, decide_eq_true (Nat.zero_le _)⟩
theorem lay_map {α : Type} (f : α → PyData) : ∀ l : List α, (∀ x ∈ l, (f x).canLay0 = true ∧ (f x).depth = 0) → PyData.canLayAll0 (l.map f) = true ∧ PyData.depthAll (l.map f) = 0
  | [], _ => by simp [PyData.canLayAll0, PyData.depthAll]
  | a :: r, h => by
    obtain ⟨h1, h2⟩ := lay_map f r fun x hx => h x (List.mem_cons_of_mem _ hx)
    obtain ⟨h3, h4⟩ := h a List.mem_cons_self
    simp [PyData.canLayAll0, PyData.depthAll, h1, h2, h3, h4]
theorem sh_map {α : Type} (f : α → PyData) (l : List α) (h : ∀ x ∈ l, (f x).canLay0 = true ∧ (f x).depth = 0) : SeqAt.shaped (.list (l.map f)) = true ∧ SeqAt.shaped (.tuple (l.map f)) = true := by
  obtain ⟨h1, h2⟩ := lay_map f l h
  simp [SeqAt.shaped, PyData.canLay0, PyData.depth, h1, h2]
theorem lay_str {z : Str} (h : Sg z) : (PyData.str z).canLay0 = true ∧ (PyData.str z).depth = 0 := by
  simp only [PyData.canLay0, PyData.depth, and_true]
  exact h
theorem lay_bool (b : Bool) : (PyData.bool b).canLay0 = true ∧ (PyData.bool b).depth = 0 := by simp [PyData.canLay0, PyData.depth]
theorem lay_int (b : Int) : (PyData.int b).canLay0 = true ∧ (PyData.int b).depth = 0 := by simp [PyData.canLay0, PyData.depth]
theorem eqv_map {α : Type} [DecidableEq α] (f : α → PyData) (hf : ∀ a b, PyData.eqv (f a) (f b) = decide (a = b)) : ∀ a b : List α, PyData.eqvAll (a.map f) (b.map f) = decide (a = b)
  | [], [] => by simp [PyData.eqvAll]
  | [], _ :: _ => by simp [PyData.eqvAll]
  | _ :: _, [] => by simp [PyData.eqvAll]
  | x :: a, y :: b => by
    rw [List.map_cons, List.map_cons, PyData.eqvAll, hf, eqv_map f hf a b]
    by_cases h : x = y
    · subst h; simp
    · simp [h]
theorem eqv_strs (a b : List Str) : PyData.eqv (.list (a.map .str)) (.list (b.map .str)) = decide (a = b) ∧ PyData.eqv (.tuple (a.map .str)) (.tuple (b.map .str)) = decide (a = b) := by
  have := eqv_map PyData.str (fun a b => eqv_str) a b
  exact ⟨by rw [PyData.eqv]; exact this, by rw [PyData.eqv]; exact this⟩
theorem any_bools {α : Type} (p : α → Bool) (l : List α) : ((l.map fun x => PyData.bool (p x)).any fun z => PyData.eqv z (.bool true)) = l.any p := by
  induction l with
  | nil => rfl
  | cons a r ih =>
    rw [List.map_cons, List.any_cons, List.any_cons, ih, eqv_bl]
    cases p a <;> rfl
/-! ### what repr may be asked of -/
def RepOk (x : PyData) : Prop := SeqAt.shaped x = true ∧ (x.showable = true ∧ x.hasDict = false ∧ x.depth ≤ 64 ∧ x.shown.length ≤ sizeLine)
structure RepN (dp n : Nat) (x : PyData) : Prop where
  lay : x.canLay0 = true
  dep : x.depth ≤ dp
  wei : x.weight ≤ n
  sho : x.intsShort 13 = true
  log : x.showable = true
structure RepL (dp n : Nat) (xs : List PyData) : Prop where
  lay : PyData.canLayAll0 xs = true
  dep : PyData.depthAll xs ≤ dp
  wei : PyData.weightAll xs ≤ n
  sho : PyData.intsShortAll 13 xs = true
  log : PyData.showableAll xs = true
theorem rep_int {i : Int} (h : -1000000000000 < i ∧ i < 1000000000000) : RepN 0 64 (.int i) := by
  have h1 : i.natAbs < 10 ^ 12 := by omega
  have h2 : i.natAbs.log2 < 40 := by
    by_cases h0 : i.natAbs = 0
    · rw [h0]; decide
    · exact (Nat.log2_lt h0).mpr (Nat.lt_trans h1 (by decide))
  refine ⟨by simp [PyData.canLay0], by simp [PyData.depth], ?_, ?_, ?_⟩
  · rw [PyData.weight]
    split <;> omega
  · rw [PyData.intsShort]
    exact decide_eq_true (PyData.shown_int_le h1)
  · rw [PyData.showable]
    exact decide_eq_true (by omega)
theorem rep_bool {b : Bool} : RepN 0 0 (.bool b) := ⟨by simp [PyData.canLay0], by simp [PyData.depth], by simp [PyData.weight], by simp [PyData.intsShort], by simp [PyData.showable]⟩
theorem rep_none : RepN 0 0 .none := ⟨by simp [PyData.canLay0], by simp [PyData.depth], by simp [PyData.weight], by simp [PyData.intsShort], by simp [PyData.showable]⟩
theorem rep_str {z : Str} {n : Nat} (h : Sg z) (h2 : z.length ≤ n) : RepN 0 n (.str z) := ⟨by rw [PyData.canLay0]; exact h, by simp [PyData.depth], by rw [PyData.weight]; exact h2, by simp [PyData.intsShort], by simp [PyData.showable]⟩
theorem rep_nil {dp : Nat} : RepL dp 0 [] := ⟨by simp [PyData.canLayAll0], by simp [PyData.depthAll], by simp [PyData.weightAll], by simp [PyData.intsShortAll], by simp [PyData.showableAll]⟩
theorem rep_cons {dp m n : Nat} {x : PyData} {xs : List PyData} (h : RepN dp m x) (t : RepL dp n xs) : RepL dp (m + 1 + n) (x :: xs) := by
  refine ⟨by simp [PyData.canLayAll0, h.lay, t.lay], ?_, ?_, by simp [PyData.intsShortAll, h.sho, t.sho], by simp [PyData.showableAll, h.log, t.log]⟩
  · rw [PyData.depthAll]; have := h.dep; have := t.dep; omega
  · rw [PyData.weightAll]; have := h.wei; have := t.wei; omega
theorem rep_tup {dp n : Nat} {xs : List PyData} (t : RepL dp n xs) : RepN (dp + 1) n (.tuple xs) :=
  ⟨by rw [PyData.canLay0]; exact t.lay, by rw [PyData.depth]; have := t.dep; omega, by rw [PyData.weight]; exact t.wei, by rw [PyData.intsShort]; exact t.sho, by rw [PyData.showable]; exact t.log⟩
theorem rep_lst {dp n : Nat} {xs : List PyData} (t : RepL dp n xs) : RepN (dp + 1) n (.list xs) :=
  ⟨by rw [PyData.canLay0]; exact t.lay, by rw [PyData.depth]; have := t.dep; omega, by rw [PyData.weight]; exact t.wei, by rw [PyData.intsShort]; exact t.sho, by rw [PyData.showable]; exact t.log⟩
theorem RepN.mono {dp dp' n n' : Nat} {x : PyData} (h : RepN dp n x) (h1 : dp ≤ dp') (h2 : n ≤ n') : RepN dp' n' x := ⟨h.lay, Nat.le_trans h.dep h1, Nat.le_trans h.wei h2, h.sho, h.log⟩
theorem RepL.mono {dp dp' n n' : Nat} {x : List PyData} (h : RepL dp n x) (h1 : dp ≤ dp') (h2 : n ≤ n') : RepL dp' n' x := ⟨h.lay, Nat.le_trans h.dep h1, Nat.le_trans h.wei h2, h.sho, h.log⟩
theorem rep_map {α : Type} {dp n : Nat} (f : α → PyData) : ∀ l : List α, (∀ x ∈ l, RepN dp n (f x)) → RepL dp (l.length * (n + 1)) (l.map f)
  | [], _ => rep_nil.mono (Nat.le_refl _) (Nat.zero_le _)
  | a :: r, h => (rep_cons (h a List.mem_cons_self) (rep_map f r fun x hx => h x (List.mem_cons_of_mem _ hx))).mono (Nat.le_refl _) (by rw [List.length_cons, Nat.add_mul]; omega)
theorem rep_ok {dp n : Nat} {x : PyData} (h : RepN dp n x) (h1 : dp ≤ 64) (h2 : n ≤ 1048576) : RepOk x := by
  have hd := Nat.le_trans h.dep h1
  have hl : PyData.layable0 x = true := by
    unfold PyData.layable0
    rw [h.lay, decide_eq_true hd, decide_eq_true (show x.weight ≤ 2 ^ 20 from Nat.le_trans h.wei h2)]; rfl
  refine ⟨?_, h.log, PyData.hasDict_of_layable hl, hd, PyData.shown_fits_of_layable0 (B := 13) (by decide) (by decide) hl h.sho⟩
  unfold SeqAt.shaped
  rw [h.lay, decide_eq_true hd]; rfl
/-! ### dicts by their keys -/
theorem valD_cons (a : Key) (b : PyData) (r : List (Key × PyData)) (k : Key) : valD ((a, b) :: r) k = if a = k then some b else valD r k := by
  unfold valD
  rw [List.find?_cons]
  by_cases c : a = k
  · rw [if_pos c, decide_eq_true c]; rfl
  · rw [if_neg c, decide_eq_false c]
theorem valD_repl (k : Key) (x : PyData) (k' : Key) : ∀ kvs : List (Key × PyData), valD (kvs.map fun kv => if kv.1 = k then (kv.1, x) else kv) k' = if k' = k then (if (kvs.any fun kv => decide (kv.1 = k)) = true then some x else none) else valD kvs k'
  | [] => by simp [valD]
  | (a, b) :: r => by
    have ih := valD_repl k x k' r
    rw [List.map_cons, List.any_cons]
    by_cases c : a = k
    · subst c
      rw [if_pos rfl, valD_cons, ih, decide_eq_true rfl, Bool.true_or, if_pos rfl, valD_cons]
      by_cases d : k' = a
      · subst d; rw [if_pos rfl, if_pos rfl]
      · rw [if_neg d, if_neg fun e => d e.symm, if_neg d, if_neg fun e => d e.symm]
    · rw [if_neg c, valD_cons, ih, decide_eq_false c, Bool.false_or, valD_cons]
      by_cases d : k' = k
      · subst d; rw [if_neg c, if_pos rfl, if_pos rfl]
      · rw [if_neg d, if_neg d]
theorem valD_none {kvs : List (Key × PyData)} {k : Key} (h : (kvs.any fun kv => decide (kv.1 = k)) ≠ true) : valD kvs k = none := by
  induction kvs with
  | nil => rfl
  | cons a r ih =>
    obtain ⟨a, b⟩ := a
    rw [List.any_cons] at h
    have h1 : ¬ a = k := fun e => h (by rw [decide_eq_true (show (a, b).fst = k from e)]; rfl)
    rw [valD_cons, if_neg h1, ih fun e => h (by rw [e, Bool.or_true])]
theorem valD_snoc (kvs : List (Key × PyData)) (k : Key) (x : PyData) (k' : Key) : valD (kvs ++ [(k, x)]) k' = match valD kvs k' with
  | some y => some y
  | none => if k = k' then some x else none := by
  induction kvs with
  | nil => rw [List.nil_append, valD_cons]; rfl
  | cons a r ih =>
    obtain ⟨a, b⟩ := a
    rw [List.cons_append, valD_cons, valD_cons, ih]
    by_cases c : a = k'
    · rw [if_pos c, if_pos c]
    · rw [if_neg c, if_neg c]
theorem valD_put (kvs : List (Key × PyData)) (k : Key) (x : PyData) (k' : Key) : valD (putD kvs k x) k' = if k' = k then some x else valD kvs k' := by
  unfold putD
  by_cases c : (kvs.any fun kv => decide (kv.1 = k)) = true
  · rw [if_pos c, valD_repl, if_pos c]
  · rw [if_neg c, valD_snoc]
    by_cases d : k' = k
    · subst d
      simp [valD_none c]
    · rw [if_neg d, if_neg fun e => d e.symm]
      cases valD kvs k' <;> rfl
theorem put_len (kvs : List (Key × PyData)) (k : Key) (x : PyData) : (putD kvs k x).length ≤ kvs.length + 1 := by
  unfold putD
  split
  · rw [List.length_map]; omega
  · rw [List.length_append]; exact Nat.le_refl _
theorem valD_nil (k : Key) : valD [] k = none := rfl
theorem pick_map {α : Type} {tp : List PyData} {menu : PyData} {R : Sl → (Nat → Option Sl) → Prop} (g0 : α → PyData) (ns : List α) (P : α → Prop) (h1 : itemsOf menu = some (ns.map g0)) (h2 : 1 ≤ ns.length ∧ ns.length ≤ 1000) (h4 : TapeOk tp) (hP : ∀ n ∈ ns, P n) (h : ∀ (n : α) (tp' : List PyData) (os : Nat → Option Sl), TapeOk tp' → P n → R (.d (g0 n)) (ios (.l tp') os)) : spPick [.l tp, .d menu] R := by
  refine pick_i _ h1 (by rw [List.length_map]; exact h2.1) (by rw [List.length_map]; exact small_of h2.2) h4 fun x tp' os ht hx => ?_
  obtain ⟨n, hn, rfl⟩ := List.mem_map.mp hx
  exact h n tp' os ht (hP n hn)
theorem strs_of {p : Str → Prop} : ∀ {acc : List PyData}, (∀ y ∈ acc, ∃ z : Str, y = .str z ∧ p z) → ∃ zs : List Str, acc = zs.map .str ∧ ∀ z ∈ zs, p z
  | [], _ => ⟨[], rfl, fun z hz => by cases hz⟩
  | a :: r, h => by
    obtain ⟨n, rfl, hn⟩ := h a List.mem_cons_self
    obtain ⟨ps, rfl, hp⟩ := strs_of (acc := r) fun y hy => h y (List.mem_cons_of_mem _ hy)
    exact ⟨n :: ps, rfl, fun z hz => (List.mem_cons.mp hz).elim (fun e => e ▸ hn) (hp z)⟩
theorem map_of {α : Type} (f : α → PyData) {p : α → Prop} : ∀ {acc : List PyData}, (∀ y ∈ acc, ∃ z : α, y = f z ∧ p z) → ∃ zs : List α, acc = zs.map f ∧ ∀ z ∈ zs, p z
  | [], _ => ⟨[], rfl, fun z hz => by cases hz⟩
  | a :: r, h => by
    obtain ⟨n, rfl, hn⟩ := h a List.mem_cons_self
    obtain ⟨ps, rfl, hp⟩ := map_of f (acc := r) fun y hy => h y (List.mem_cons_of_mem _ hy)
    exact ⟨n :: ps, rfl, fun z hz => (List.mem_cons.mp hz).elim (fun e => e ▸ hn) (hp z)⟩
theorem sg_cut {z : Str} (h : Sg z) (lo hi : Option Int) : Sg (cutS z lo hi) := by
  unfold Sg at *
  unfold cutS
  rw [Array.all_eq_true_iff_forall_mem] at *
  intro c hc
  refine h c ?_
  have := List.mem_of_mem_drop (List.mem_of_mem_take (by simpa using hc))
  simpa using this
theorem rng_mem {n : Int} {x : PyData} (h : x ∈ rngL 0 n) : ∃ k : Nat, x = .int k ∧ (k : Int) < n := by
  obtain ⟨i, hi⟩ := List.mem_iff_getElem?.mp h
  exact ⟨i, rng_at hi⟩
theorem at_neg1 {α : Type} (f : α → PyData) (l : List α) (h : 1 ≤ l.length) : atI (l.map f) (-1) = some (f (l[l.length - 1]'(by omega))) := by
  unfold atI ixN
  rw [List.length_map, if_neg (by omega), if_pos (by omega)]
  show (l.map f)[((l.length : Int) + -1).toNat]? = _
  rw [show ((l.length : Int) + -1).toNat = l.length - 1 by omega, List.getElem?_map, List.getElem?_eq_getElem]
  rfl
/-- a character of a text, by its place -/
theorem at_sig {z : Str} (h : Sg z) {i : Int} (h0 : 0 ≤ i) (h1 : i < z.length) : ∃ c, atI z.cps.toList i = some c ∧ Sg ⟨#[c]⟩ := by
  obtain ⟨j, rfl⟩ : ∃ j : Nat, i = j := ⟨i.toNat, by omega⟩
  have hj : j < z.cps.toList.length := by rw [Array.length_toList]; show j < z.length; omega
  exact ⟨_, atI_nat (List.getElem?_eq_getElem hj), sg_one h (List.getElem_mem hj)⟩
end DL

set_option Elab.async false
set_option linter.all false
set_option maxRecDepth 100000
set_option maxHeartbeats 4000000
set_option autoImplicit false
/-! a range that a name holds, tuples of the module, enumerate over a tuple -/
namespace DL
open PySem PySem.Spec L2 PyProof.Rows
theorem bt_range : bootBuiltins "range" = some (.type "range") := by decide +kernel
/-- range(n), as a value -/
def rdRgV : List PyData → (Rv → Prop) → Prop
  | [.int j], Q => Q (.n (.g 0 j))
  | _, _ => False
section
variable {X : Cx} {e tg : Expr} {te : TD} {pos : Pos}
theorem cr_range1 : CallR X (.type "range") (fun vs H Q => ∃ j, vs = [V.int j] ∧ ∀ p, H p = none → Q (.ref p) (upd H p (.rng 0 j))) := by
  intro pins s σ H vs us Q I r h
  obtain ⟨j, rfl, q⟩ := h
  obtain ⟨u1, rfl, ri⟩ := vals1 r
  obtain ⟨t, rfl⟩ := ri
  refine call_range_1 ⟨.ref s.heap.objs.size, upd H s.heap.objs.size (.rng 0 j), I.laid (t' := s.toks + 1 + 1) (fun b o e => Heap.get?_push_of_some _ e) (Nat.le_refl _) ?_, rfl, q _ (I.hok.fresh (Nat.le_refl _))⟩
  exact ⟨s.toks, t, s.toks + 1, Heap.get?_push_size _ rfl⟩
theorem bd_rgV : BD X (.type "range") rdRgV := by
  refine ⟨_, cr_range1, fun H W vs xs Q Qd hw r q k => ?_⟩
  unfold rdRgV at q
  split at q
  · obtain ⟨v, rfl, d⟩ := dqall1 r
    refine ⟨_, by rw [d.int], fun p hp => ?_⟩
    exact k _ _ (p :: W) (.n (.g 0 _)) (grow_own hp) ⟨p, rfl, hp, List.mem_cons_self, fun z => hw p z hp, upd_same⟩ q
  · exact q.elim
/-- what a range that a name holds yields -/
def tdRgI (i : Nat) : TDI := fun env Q => match env[i]? with
  | some (some (.g lo hi)) => (-(2 ^ 62) ≤ lo ∧ lo < 2 ^ 62 ∧ -(2 ^ 62) ≤ hi ∧ hi < 2 ^ 62) ∧ Q (rngL lo hi) env
  | _ => False
def iRgO (tl : TE) : TI := fun σ H R => tl σ H fun x H1 => ∃ (a : Addr) (lo hi : Int), x = .ref a ∧ H1 a = some (.rng lo hi) ∧ (-(2 ^ 62) ≤ lo ∧ lo < 2 ^ 62 ∧ -(2 ^ 62) ≤ hi ∧ hi < 2 ^ 62) ∧ R (Itr lo (hi - lo).toNat) H1
theorem pi_rgO {tl : TE} (hl : PE X e tl) : PI X tg e (iRgO tl) := by
  refine ⟨fun pins s σ H R I h => ?_⟩
  refine thn (hl.run pins s σ H _ I h) fun v s1 ⟨x, H1, I1, r1, q1⟩ => ?_
  obtain ⟨a, lo, hi, rfl, ha, ⟨h1, h2, h3, h4⟩, q⟩ := q1
  cases r1
  obtain ⟨t, u, v, ho⟩ := I1.hok a _ ha
  refine wpAny_pyIter_range ho (small_one h1 h2 h3 h4) (pi_one (tk := s1.toks) I1 _ (turn_range _ lo (hi - lo).toNat) ?_ q)
  have e1 : lo + ((0 : Nat) : Int) * 1 = lo := by simp
  have e2 : (((hi - lo).toNat : Nat) : Int) - ((0 : Nat) : Int) = Builtin.Range.rangeSize lo hi 1 := by rw [rangeSize_one]; split <;> omega
  show IsRangeIter _ _ (lo + ((0 : Nat) : Int) * 1) ((((hi - lo).toNat : Nat) : Int) - ((0 : Nat) : Int)) 1
  rw [e1, e2]
  exact Heap.get?_push_size _ rfl
theorem pdi_rgI {i : Nat} (he : PE X e (tVar i)) : PDI X tg e (tdRgI i) := by
  refine ⟨_, pi_rgO he, fun σ H W A env R Qd E ht k => ?_⟩
  unfold tdRgI at ht
  split at ht
  · rename_i lo hi hs
    obtain ⟨a, ha, hv, ow⟩ := E.own i _ hs rfl
    exact ⟨_, hv, a, lo, hi, rfl, ow, ht.1, k _ H W env _ E .refl walk_rng ht.2⟩
  · exact ht.elim
/-- a tuple of the module -/
theorem dp_ktup {K : PySem.W.Frag} {H : Hp} {a : Addr} {o : Obj} {its : Array Value} {n : Nat} {vs : List V} {xs : List PyData} (hk : K.lookup a = some o) (hc : o.cls = .type "tuple") (hd : o.data = .seq its n) (hs : its.size ≤ sizeLine) (hv : Vals vs its.toList) (dx : DpAll K H vs xs) : Dp K H (.ref a) (.tuple xs) := .tup (.inr ⟨o, its, n, hk, hc, hd, hs, hv⟩) dx
theorem dp_kpair {K : PySem.W.Frag} {a : Addr} {od : Option Addr} {i j : Int} {t u : Tok} {n : Nat} {sl : Array (Option Value)} (hk : K.lookup a = some ⟨.type "tuple", od, .seq #[.int i t, .int j u] n, sl⟩) (H : Hp) : Dp K H (.ref a) (.tuple [.int i, .int j]) :=
  dp_ktup (vs := [.int i, .int j]) hk rfl rfl (by show 2 ≤ sizeLine; decide) (.cons ⟨t, rfl⟩ (.cons ⟨u, rfl⟩ .nil)) (.cons (.int _) (.cons (.int _) .nil))
theorem pd_gdat {x : Str} {a : Addr} {y : PyData} (hg : Gl X x) (hm : X.mg x = some (.ref a)) (hy : ∀ H, Dp X.K H (.ref a) y) (hd : (x == ("__debug__" : Str)) = false := by decide) : PD X (.Name x pos) (tdC y) :=
  ⟨_, pe_glob (v := .ref a) hg hm rfl hd, fun σ H W A env Q Qd E ht k => k _ H W env (.d y) E .refl (hy _) ht⟩
end
end DL

set_option Elab.async false
set_option linter.all false
set_option maxRecDepth 100000
set_option maxHeartbeats 4000000
set_option autoImplicit false
/-! enumerate over a tuple -/
namespace DL
open PySem PySem.Spec L2 PyProof.Rows
open Sem (wp)
open AutoSeq1 (wpAny_loadPart')
section
variable {prog : Program} {w : World} {A : Around} {E : Value → Shared → Prop} {s : Shared}
theorem nextOf_tuple_item {it l : Addr} {i : Nat} {items : Array Value} {x : Value} {Q : Value → Shared → Prop} (hit : s.heap.IsTupleIter it l i)
    (hl : s.heap.IsTuple l items) (hx : items[i]? = some x)
    (hQ : ∀ h', h'.IsTupleIter it l (i + 1) → Heap.SameBut it s.heap h' → Q x { s with heap := h' }) :
    wpAny (model prog w) A (Builtin.SmallTypes.nextOf (.ref it)) Q E s := by
  obtain ⟨o, ho, hc, hd⟩ := id hit
  obtain ⟨ol, hol, _, nl, hdl⟩ := hl
  unfold Builtin.SmallTypes.nextOf
  refine wpAny_bind (wpAny_callSpecial?_slot (name := Str.ofString "__next__") hit.typeIs F.slot_tuple_iterator_next
    (wpAny_call_entry F.slot_tuple_iterator_next hit.typeIs F.entry_tuple_iterator_next ?_ (F.args_tuple_iterator_next_1 _)))
  show wpAny _ _ (field (.ref it) 0 >>= _) _ _ s
  refine wpAny_bind (wpAny_field ho hd (x := .ref l) rfl ?_)
  show wpAny _ _ (if (Value.ref l == Value.none) = true then _ else _) _ _ s
  rw [if_neg (show ¬ ((Value.ref l == Value.none) = true) from Bool.false_ne_true)]
  show wpAny _ _ (field (.ref it) 1 >>= _) _ _ s
  refine wpAny_bind (wpAny_field ho hd (x := .int i 0) rfl ?_)
  show wpAny _ _ (seqItems? (.ref l) >>= _) _ _ s
  refine wpAny_bind (wpAny_seqItems hol hdl ?_)
  simp only [Int.toNat_natCast, hx]
  refine wpAny_bind (wpAny_setField ho hd (by simp) (wpAny_pure ⟨x, rfl, wpAny_pure (hQ _ ?_ (Heap.SameBut.update ..))⟩))
  exact ⟨_, Heap.get?_update_self _ ho (Obj.isFreed_of_fields (Obj.data_mapFields hd _)), (Obj.cls_mapFields ..).trans hc, by
    rw [Obj.data_mapFields hd]; simp [rawInt]⟩
theorem nextOf_tuple_end {it l : Addr} {i : Nat} {items : Array Value} {Q : Value → Shared → Prop} (hh : A.handled = none)
    (hit : s.heap.IsTupleIter it l i) (hl : s.heap.IsTuple l items) (hx : items[i]? = none)
    (hE : ∀ h' e, Heap.ExtBut it s.heap h' → (∃ o, h'.get? e = some o ∧ o.cls = .type "StopIteration") → E (.ref e) { s with heap := h' }) :
    wpAny (model prog w) A (Builtin.SmallTypes.nextOf (.ref it)) Q E s := by
  obtain ⟨o, ho, hc, hd⟩ := id hit
  obtain ⟨ol, hol, _, nl, hdl⟩ := hl
  unfold Builtin.SmallTypes.nextOf
  refine wpAny_bind (wpAny_callSpecial?_slot (name := Str.ofString "__next__") hit.typeIs F.slot_tuple_iterator_next
    (wpAny_call_entry F.slot_tuple_iterator_next hit.typeIs F.entry_tuple_iterator_next ?_ (F.args_tuple_iterator_next_1 _)))
  show wpAny _ _ (field (.ref it) 0 >>= _) _ _ s
  refine wpAny_bind (wpAny_field ho hd (x := .ref l) rfl ?_)
  show wpAny _ _ (if (Value.ref l == Value.none) = true then _ else _) _ _ s
  rw [if_neg (show ¬ ((Value.ref l == Value.none) = true) from Bool.false_ne_true)]
  show wpAny _ _ (field (.ref it) 1 >>= _) _ _ s
  refine wpAny_bind (wpAny_field ho hd (x := .int i 0) rfl ?_)
  show wpAny _ _ (seqItems? (.ref l) >>= _) _ _ s
  refine wpAny_bind (wpAny_seqItems hol hdl ?_)
  simp only [Int.toNat_natCast, hx]
  refine wpAny_bind (wpAny_rule (wpAny_bind (wpAny_setField ho hd (by simp) ?_)))
  show wpAny _ _ (newExc (.type "StopIteration") [] >>= _) _ _ _
  refine wpAny_bind ?_
  simp only [newExc, newTuple]
  refine wpAny_bind (wpAny_newObj_type ?_ (by size_fits))
  refine wpAny_bind (m := firstArgMember _ _) (wpAny_of_eq (a := Value.none) (by first | rfl | (simp only [firstArgMember]; rfl)) ?_)
  refine wpAny_newObj_type ?_ (by size_fits)
  simp only [raiseNew]
  refine wpAny_bind (wpAny_handled ?_)
  first | rw [show A.in1.handled = none from hh] | rw [hh]
  refine wpAny_bind (wpAny_pure (wpAny_throw ?_))
  exact hE _ _ (((Heap.SameBut.update ..).extBut.push _).push _) ⟨_, Heap.get?_push_size _ rfl, rfl⟩
theorem IsTuple_extBut {h h' : Heap} {a b : Addr} {items : Array Value} (x : h.IsTuple a items) (hs : Heap.ExtBut b h h') (hab : a ≠ b) : h'.IsTuple a items :=
  let ⟨o, ho, r⟩ := x; ⟨o, hs a o hab ho, r⟩
end
theorem draws_tuple {prog : Program} {w : World} {A : Around} (hh : A.handled = none) (it l : Addr) (hne : l ≠ it) (items : Array Value) :
    Draws prog w A it [it, l] items.size (fun i v => items[i]? = some v) (fun i h => h.IsTupleIter it l i ∧ h.IsTuple l items) where
  live := fun _ _ st => let ⟨o, ho, _⟩ := st.1; ⟨o, ho⟩
  frame := fun _ _ _ st hk => ⟨let ⟨o, ho, r⟩ := st.1; ⟨o, hk it (by simp) o ho, r⟩, let ⟨o, ho, r⟩ := st.2; ⟨o, hk l (by simp) o ho, r⟩⟩
  item := fun i s Q E hi st hQ => by
    refine nextOf_tuple_item st.1 st.2 (x := items[i]) (by simp [hi]) fun h' hit' hs' => ?_
    exact hQ _ h' s.toks (by simp [hi]) ⟨hit', IsTuple_extBut st.2 hs'.extBut hne⟩ hs'
  done := fun s Q E st hE => nextOf_tuple_end hh st.1 st.2 (by simp) hE
theorem meets_enumerate_newT (l : Addr) (items : Array Value) (n : Nat) (dct : Option Addr) (sl : Array (Option Value)) :
    Meets (Builtin.«enumerate.__new__» ⟨[.type "enumerate", .ref l], []⟩) (fun _ R s => s.heap.get? l = some { cls := .type "tuple", dict := dct, data := .seq items n, slots := sl } ∧
      R (.ok (.ret (.ref (s.heap.push { cls := .type "tuple_iterator", data := .fields #[.ref l, .int 0 0] }).objs.size)))
        { s with heap := (s.heap.push { cls := .type "tuple_iterator", data := .fields #[.ref l, .int 0 0] }).push { cls := .type "enumerate", data := .fields #[.none, .bool false, .ref s.heap.objs.size, rawInt 0, .none, .none] } }) :=
  .of_wp fun prog w A R s h => by
    obtain ⟨hp, g, d, tk, os⟩ := s; obtain ⟨hl, h⟩ := h
    have hsub := sub_enumerate
    have hL : Heap.IsTuple (Shared.heap ⟨hp, g, d, tk, os⟩) l items := ⟨_, hl, rfl, n, rfl⟩
    wp_walk using wpAny_loadPart' hl
    refine wpAny_stack_any fun st => wpAny_pure ?_
    split
    · rename_i c _ _ _ _ _
      cases (c == Value.type "enumerate")
      · wp_walk using wpAny_loadPart' hl, wpAny_pyIter_tuple hL
        exact ⟨_, rfl, h⟩
      · wp_walk using wpAny_loadPart' hl, wpAny_pyIter_tuple hL
        exact ⟨_, rfl, h⟩
    · wp_walk using wpAny_loadPart' hl, wpAny_pyIter_tuple hL
      exact ⟨_, rfl, h⟩
theorem call_enumerate_tuple {prog : Program} {w : World} {A : Around} {E : Value → Shared → Prop} {s : Shared} {l : Addr} {items : Array Value} {Q : Value → Shared → Prop} (hL : s.heap.IsTuple l items)
    (h : ∀ h', IsEnum h' (s.heap.objs.size + 1) s.heap.objs.size 0 .none → h'.IsTupleIter s.heap.objs.size l 0 → h'.objs.size = s.heap.objs.size + 2 →
      (∀ b o, s.heap.get? b = some o → h'.get? b = some o) → Q (.ref (s.heap.objs.size + 1)) { s with heap := h' }) :
    wpAny (model prog w) A (call (.type "enumerate") [.ref l]) Q E s := by
  obtain ⟨⟨c, dct, dt, sl⟩, hl, hc, n, hd⟩ := hL
  replace hc : c = .type "tuple" := hc
  replace hd : dt = .seq items n := hd
  subst hc hd
  refine callType_new F.called_enumerate (by decide) (F.typeCall_enumerate_1 _) (F.newCall_enumerate_1 _) (fun obj => F.args_object_init_2 obj _) F.entry_enumerate_new
    (meets_enumerate_newT l items n dct sl) ⟨hl, ?_⟩
  have hz : (s.heap.push { cls := .type "tuple_iterator", data := .fields #[.ref l, .int 0 0] }).objs.size = s.heap.objs.size + 1 := Heap.size_push ..
  show _ ∧ _
  rw [hz]
  have he : IsEnum ((s.heap.push { cls := .type "tuple_iterator", data := .fields #[.ref l, .int 0 0] }).push
      { cls := .type "enumerate", data := .fields #[.none, .bool false, .ref s.heap.objs.size, rawInt 0, .none, .none] }) (s.heap.objs.size + 1) s.heap.objs.size 0 .none := by
    have := Heap.get?_push_size (s.heap.push { cls := .type "tuple_iterator", data := .fields #[.ref l, .int 0 0] })
      (o := { cls := .type "enumerate", data := .fields #[.none, .bool false, .ref s.heap.objs.size, rawInt 0, .none, .none] }) rfl
    rw [hz] at this; exact this
  refine ⟨⟨_, he, rfl⟩, h _ he ⟨_, Heap.get?_push_of_some _ (Heap.get?_push_size _ rfl), rfl, rfl⟩ (by rw [Heap.size_push, hz]) fun b o x => Heap.get?_push_of_some _ (Heap.get?_push_of_some _ x)⟩
/-- the tuple at a, each item in a new pair -/
def IteT (K : PySem.W.Frag) (a : Addr) : It :=
  ⟨fun i H => ∃ (xs : List V) (x : V), SqT K H a xs ∧ xs[i]? = some x, fun i H v H' => ∃ T x, v = .ref T ∧ H T = none ∧ H' = upd H T (.tup [.int (i : Nat), x]) ∧ ∀ xs, SqT K H a xs → xs[i]? = some x, fun i H => ∃ xs : List V, SqT K H a xs ∧ xs.length ≤ i⟩
theorem turn_enumT {P : Program} {w : World} {K : PySem.W.Frag} {elts : List Expr} {kk : Nat} {tpos : Pos} (a e it : Addr) (hai : a ≠ it) (hae : a ≠ e) :
    Turn P w K (.Tuple elts kk tpos) (IteT K a) [e, it] e (fun i h => (∃ old, IsEnum h e it ((i : Nat) : Int) old) ∧ h.IsTupleIter it a i ∧ e ≠ it) where
  mem := by simp
  obj := fun i h st b hb => by
    obtain ⟨⟨old, he⟩, ⟨o, ho, hc, hd⟩, _⟩ := st
    have e' : b = e ∨ b = it := by simpa using hb
    rcases e' with z | z
    · rw [z]; exact ⟨_, he, fun v q => nomatch q⟩
    · rw [z]; exact ⟨o, ho, fun v q => by rw [hd] at q; cases q⟩
  keep := fun i h h' st k => let ⟨⟨old, he⟩, ⟨o, ho, r⟩, hne⟩ := st; ⟨⟨old, k e (by simp) _ he⟩, ⟨o, k it (by simp) o ho, r⟩, hne⟩
  item := by
    intro X hP hw hK hc i pins s σ H E I hf st hg
    subst hP hw hK
    obtain ⟨⟨old, he⟩, hit, hne⟩ := st
    obtain ⟨xs, x, hq, hx⟩ := hg
    obtain ⟨its, rv, p, hz⟩ := I.tuple hq
    obtain ⟨u, hu, ru⟩ := rv.get hx
    have hel : e < s.heap.objs.size := Heap.lt_size he
    have hil : it < s.heap.objs.size := by obtain ⟨_, q, _⟩ := hit; exact Heap.lt_size q
    have hlt : i < its.toArray.size := by
      have := (List.getElem?_eq_some_iff.mp hu).1
      simpa using this
    refine wpAny_pyNext_enum_itemD (draws_tuple (A := X.A.in1) (show X.A.in1.handled = none from I.ok.hd hc) it a hai its.toArray) he ⟨hit, show s.heap.IsTuple a its.toArray from p⟩ hlt hne (by simp [hne, Ne.symm hae]) fun u' h' tk hP ho hit' hT hsz hk => ?_
    have hu' : u' = u := by
      have h1 : its[i]? = some u' := by simpa using hP
      rw [hu] at h1; exact (Option.some.inj h1).symm
    subst hu'
    refine ⟨_, rfl, wpAny_letOwnedTupleGo_enum (s := { s with heap := h', toks := tk + 1 }) ho fun h'' he' sb => ?_⟩
    have hT2 : h''.get? s.heap.objs.size = some { cls := .type "tuple", data := .seq #[.int i tk, u'] } := (sb.2 _ (Nat.ne_of_gt hel)).trans hT
    have new : ObjOk X.prog X.w (upd H s.heap.objs.size (.tup [.int (i : Nat), x])) h'' s.heap.objs.size (.tup [.int (i : Nat), x]) :=
      ⟨by show 2 ≤ sizeLine; decide, [.int i tk, u'], .cons ⟨_, rfl⟩ (.cons ru .nil), ⟨_, hT2, rfl, _, rfl⟩⟩
    have I1 : Inv X pins σ (upd H s.heap.objs.size (.tup [.int (i : Nat), x])) { s with heap := h'', toks := tk + 1 } :=
      I.turnedNew (ch := [e, it]) (fun b ob hb q => (sb.2 b (fun z => hb (by simp [z]))).trans (hk b ob (fun z => hb (by simp [z])) (fun z => hb (by simp [z])) q)) hf (Nat.le_refl _) new
    refine ⟨.ref s.heap.objs.size, _, I1, rfl, ⟨_, x, rfl, I.hok.fresh (Nat.le_refl _), rfl, fun ys hy => by rw [I.tuple_inj hy hq]; exact hx⟩, ⟨⟨u', ?_⟩, ?_, hne⟩, fun b hb => ?_⟩
    · have e1 : ((i + 1 : Nat) : Int) = (i : Int) + 1 := by omega
      rw [e1]; exact he'
    · obtain ⟨o, ho2, r⟩ := hit'.1
      exact ⟨o, (sb.2 it (Ne.symm hne)).trans ho2, r⟩
    · have hb' : b < s.heap.objs.size := by
        have e' : b = e ∨ b = it := by simpa using hb
        rcases e' with z | z
        · rw [z]; exact hel
        · rw [z]; exact hil
      rw [upd_ne (Nat.ne_of_lt hb')]
      exact (hf b hb).1
  done := by
    intro X hP hw hK hc i pins s σ H E I hf st hg
    subst hP hw hK
    obtain ⟨⟨old, he⟩, hit, hne⟩ := st
    obtain ⟨xs, hq, hx⟩ := hg
    obtain ⟨its, rv, p, hz⟩ := I.tuple hq
    obtain ⟨f0, f1, f2, f3, f4, f5⟩ := hf it (by simp)
    have hl := rv.length
    have hT : s.TypeIs (.ref e) "enumerate" := ⟨_, he, rfl⟩
    unfold pyNext
    refine wpAny_bind (wpAny_attempt (wpAny_callSpecial?_slot (name := Str.ofString "__next__") hT F.slot_enumerate_next
      (wpAny_call_entry F.slot_enumerate_next hT F.entry_enumerate_next ?_ (F.args_enumerate_next_1 _))))
    show wpAny _ _ (field (.ref e) 2 >>= _) _ _ _
    refine wpAny_bind (wpAny_field he rfl (x := .ref it) rfl ?_)
    refine wpAny_bind (nextOf_tuple_end (show X.A.in1.handled = none from I.ok.hd hc) hit (show s.heap.IsTuple a its.toArray from p) (by simp; omega) fun h' x he' hx' => ?_)
    obtain ⟨o, ho, hc⟩ := hx'
    refine wpAny_bind (wpAny_isInstance (T := "StopIteration") (b := true) ⟨o, ho, hc⟩ isSubtype_stop ?_)
    exact wpAny_pure ⟨rfl, I.turned (t' := s.toks) (fun b o hb q => he' b o hb q) f0 f1 f3 f4 f5⟩
  self := fun A i s Q E st h => let ⟨⟨_, he⟩, _⟩ := st; wpAny_pyIter_enum he h
def iEnumT (K : PySem.W.Frag) (ta : TA) : TI := fun σ H R => ta σ H fun vs H1 => ∃ a xs, vs = [.ref a] ∧ SqT K H1 a xs ∧ R (IteT K a) H1
theorem pi_enumT {X : Cx} {e : Expr} {ta : TA} {p pos tpos : Pos} {elts : List Expr} {kk : Nat} (hg : Gl X "enumerate") (hm : X.mg "enumerate" = none) (ha : PA X [e] ta) (hs : starEach [e] X.env = [(false, eval e X.env)] := by rfl) :
    PI X (.Tuple elts kk tpos) (.Call (.Name "enumerate" p) [e] [] pos) (iEnumT X.K ta) := by
  refine ⟨fun pins s σ H R I h => ?_⟩
  refine Call_ (ld_blt I hg hm boot_enumerate (PyProof.Rows.callWith_type1 (thn (ha.run pos pins s σ H _ I h) fun us s1 ⟨vs, H1, I1, r1, q1⟩ => ?_) hs rfl))
  obtain ⟨a, xs, ex, hq, q⟩ := q1
  subst ex
  cases r1 with
  | cons r rr =>
    cases rr
    cases r
    obtain ⟨its, rv, p', hz⟩ := I1.tuple hq
    have hal : a < s1.heap.objs.size := by obtain ⟨_, z, _⟩ := p'; exact Heap.lt_size z
    refine call_enumerate_tuple (show s1.heap.IsTuple a its.toArray from p') fun h' he hit hsz hk => wpAny_pyIter_enum he ?_
    have I2 : Inv X pins σ H1 { s1 with heap := h' } := I1.kept (t' := s1.toks) hk
    refine ⟨s1.heap.objs.size + 1, [s1.heap.objs.size + 1, s1.heap.objs.size], _, _, H1, rfl, I2, turn_enumT a (s1.heap.objs.size + 1) s1.heap.objs.size (Nat.ne_of_lt hal) (Nat.ne_of_lt (Nat.lt_succ_of_lt hal)), ⟨⟨.none, he⟩, hit, Nat.succ_ne_self _⟩, fun b hb => ?_, q⟩
    have e' : b = s1.heap.objs.size + 1 ∨ b = s1.heap.objs.size := by simpa using hb
    have hle : s1.heap.objs.size ≤ b := by
      rcases e' with z | z
      · rw [z]; exact Nat.le_add_right _ _
      · rw [z]; exact Nat.le_refl _
    exact I1.fpOk hle (I1.hok.fresh hle)
/-- enumerate over a list or a tuple -/
def iEnumA (K : PySem.W.Frag) (ta : TA) : TI := fun σ H R => ta σ H fun vs H1 => ∃ a, vs = [.ref a] ∧ ((∃ xs, SqL K H1 a xs ∧ R (Ite K a) H1) ∨ ∃ xs, SqT K H1 a xs ∧ R (IteT K a) H1)
theorem pi_enumA {X : Cx} {e : Expr} {ta : TA} {p pos tpos : Pos} {elts : List Expr} {kk : Nat} (hg : Gl X "enumerate") (hm : X.mg "enumerate" = none) (ha : PA X [e] ta) (hs : starEach [e] X.env = [(false, eval e X.env)] := by rfl) :
    PI X (.Tuple elts kk tpos) (.Call (.Name "enumerate" p) [e] [] pos) (iEnumA X.K ta) := by
  refine ⟨fun pins s σ H R I h => ?_⟩
  refine Call_ (ld_blt I hg hm boot_enumerate (PyProof.Rows.callWith_type1 (thn (ha.run pos pins s σ H _ I h) fun us s1 ⟨vs, H1, I1, r1, q1⟩ => ?_) hs rfl))
  obtain ⟨a, ex, q⟩ := q1
  subst ex
  cases r1 with
  | cons r rr =>
    cases rr
    cases r
    have fp : ∀ b ∈ [s1.heap.objs.size + 1, s1.heap.objs.size], FpOk X pins H1 b := fun b hb => by
      have e' : b = s1.heap.objs.size + 1 ∨ b = s1.heap.objs.size := by simpa using hb
      have hle : s1.heap.objs.size ≤ b := by
        rcases e' with z | z
        · rw [z]; exact Nat.le_add_right _ _
        · rw [z]; exact Nat.le_refl _
      exact I1.fpOk hle (I1.hok.fresh hle)
    rcases q with ⟨xs, hq, q⟩ | ⟨xs, hq, q⟩
    · obtain ⟨its, rv, p', hz⟩ := I1.list hq
      refine call_enumerate_list p'.isList fun h' he hit hsz hk => wpAny_pyIter_enum he ?_
      have I2 : Inv X pins σ H1 { s1 with heap := h' } := I1.kept (t' := s1.toks) hk
      exact ⟨s1.heap.objs.size + 1, [s1.heap.objs.size + 1, s1.heap.objs.size], _, _, H1, rfl, I2, turn_enum a (s1.heap.objs.size + 1) s1.heap.objs.size, ⟨⟨.none, he⟩, hit, Nat.succ_ne_self _⟩, fp, q⟩
    · obtain ⟨its, rv, p', hz⟩ := I1.tuple hq
      have hal : a < s1.heap.objs.size := by obtain ⟨_, z, _⟩ := p'; exact Heap.lt_size z
      refine call_enumerate_tuple (show s1.heap.IsTuple a its.toArray from p') fun h' he hit hsz hk => wpAny_pyIter_enum he ?_
      have I2 : Inv X pins σ H1 { s1 with heap := h' } := I1.kept (t' := s1.toks) hk
      exact ⟨s1.heap.objs.size + 1, [s1.heap.objs.size + 1, s1.heap.objs.size], _, _, H1, rfl, I2, turn_enumT a (s1.heap.objs.size + 1) s1.heap.objs.size (Nat.ne_of_lt hal) (Nat.ne_of_lt (Nat.lt_succ_of_lt hal)), ⟨⟨.none, he⟩, hit, Nat.succ_ne_self _⟩, fp, q⟩
theorem walk_enumT {K : PySem.W.Frag} {G : Hp} {a : Addr} {vs : List V} {xs : List PyData} (s : SqT K G a vs) (d : DpAll K G vs xs) : Walk K (IteT K a) G (enumL xs) := by
  intro H W e hw i
  have s' : SqT K H a vs := same_t hw_same (same_t e s)
  have hl : (enumL xs).length = xs.length := by unfold enumL; rw [List.length_zipWith, List.length_range, Nat.min_self]
  refine ⟨fun x hx => ?_, fun hle => ⟨vs, s', by rw [d.len]; omega⟩⟩
  have hi : i < xs.length := by rw [← hl]; exact (List.getElem?_eq_some_iff.mp hx).1
  have hx2 : x = .tuple [.int (i : Nat), xs[i]] := by
    unfold enumL at hx
    rw [List.getElem?_zipWith, List.getElem?_eq_getElem hi, List.getElem?_range hi] at hx
    exact (Option.some.inj hx).symm
  obtain ⟨v, hv, dv⟩ := d.get (List.getElem?_eq_getElem hi)
  refine ⟨⟨vs, v, s', hv⟩, fun u H' y => ?_⟩
  obtain ⟨T, x1, rfl, hT, rfl, y⟩ := y
  have := y vs s'
  rw [hv] at this; cases this
  have g : Grow H W (upd H T (.tup [.int (i : Nat), v])) W := grow_new hT
  refine ⟨g, ?_⟩
  rw [hx2]
  refine .tup (.inl (.inl (hw_of (fun z => hw T z hT) upd_same))) ?_
  exact dpa_mono ((g.stp (A := [])).same fun _ z => absurd z (by simp)) _ (.cons (.int _) (.cons (dp_mono e _ dv) .nil))
def tdEnum2 (t : TDA) : TDI := fun env Q => t env fun rvs env1 => match resAll rvs with
  | some [.list xs] => Q (enumL xs) env1
  | some [.tuple xs] => Q (enumL xs) env1
  | _ => False
theorem pdi_enum2 {X : Cx} {e : Expr} {ta : TDA} {p pos tpos : Pos} {elts : List Expr} {kk : Nat} (hg : Gl X "enumerate") (hm : X.mg "enumerate" = none) (ha : PDA X [e] ta) (hs : starEach [e] X.env = [(false, eval e X.env)] := by rfl) : PDI X (.Tuple elts kk tpos) (.Call (.Name "enumerate" p) [e] [] pos) (tdEnum2 ta) := by
  obtain ⟨t1, p1, q1⟩ := ha
  refine ⟨_, pi_enumA hg hm p1 hs, fun σ H W A env R Qd E ht k => ?_⟩
  refine q1 σ H W A env _ _ E ht fun vs H1 W1 env1 rvs E1 S1 R1 h1 => ?_
  split at h1
  · rename_i xs ex
    obtain ⟨W', s1, s2, d⟩ := R1.keep ex
    have E' := E1.sub s1 fun a ha => s2 a (E1.ain a ha) (E.ain a ha)
    have S' := S1.sub s1 s2
    cases d with
    | cons d1 d2 =>
      cases d2
      cases d1 with
      | lst s r => exact ⟨_, rfl, .inl ⟨_, hw_same.seq s, k _ H1 W' env1 _ E' S' (walk_enum s r) h1⟩⟩
  · rename_i xs ex
    obtain ⟨W', s1, s2, d⟩ := R1.keep ex
    have E' := E1.sub s1 fun a ha => s2 a (E1.ain a ha) (E.ain a ha)
    have S' := S1.sub s1 s2
    cases d with
    | cons d1 d2 =>
      cases d2
      cases d1 with
      | tup s r => exact ⟨_, rfl, .inr ⟨_, same_t hw_same s, k _ H1 W' env1 _ E' S' (walk_enumT s r) h1⟩⟩
  · exact h1.elim
/-- a, b = x, y with plain names -/
def tdPar (i j : Nat) (t : TDA) : TDS := fun D env => t env fun rvs env1 => match resAll rvs with
  | some [x, y] => i < env1.length ∧ j < env1.length ∧ D.nx ((env1.set i (some (.d x))).set j (some (.d y)))
  | _ => False
theorem psd_par {X : Cx} {N : List Nat × List Nat} {i j : Nat} {x y : Str} {a b : Expr} {ta : TDA} {px py pt pos : Pos} {kt k2 : Nat} {pt2 : Pos} (hc : X.calm = true) (hN : X.N.Nodup) (hi : X.N[i]? = some x) (hj : X.N[j]? = some y)
    (hx : X.env.scope.names.lookup x = some .local) (hy : X.env.scope.names.lookup y = some .local) (ha : PDA X [a, b] ta) (hij : i ≠ j := by decide) (hM : i ∉ N.1 := by decide) (hM2 : j ∉ N.1 := by decide)
    (hw : swappedStores [.Tuple [.Name x px, .Name y py] kt pt] (.Tuple [a, b] k2 pt2) X.env = pure (some [x, y]) := by rfl)
    (hs : swapsWithSole [.Tuple [.Name x px, .Name y py] kt pt] (.Tuple [a, b] k2 pt2) pos.line X.env = pure false := by rfl) :
    PSD X N (.Assign [.Tuple [.Name x px, .Name y py] kt pt] (.Tuple [a, b] k2 pt2) pos) (tdPar i j ta) := by
  obtain ⟨t1, p1, q1⟩ := ha
  refine ⟨_, ps_par hc hN hi hj hij hx hy p1 hw hs, fun B D Dd σ H W A env hB R h O => ?_⟩
  refine q1 σ H W A env _ _ R.en h fun vs H1 W1 env1 rvs E1 S1 R1 h1 => ?_
  have R' := R.step S1 E1
  split at h1
  · rename_i z z2 ex
    obtain ⟨W', s1, s2, d⟩ := R1.keep ex
    have R2 := R'.sub s1 (fun a ha => s2 a (E1.ain a ha) (R.en.ain a ha)) (fun q hq => s2 q (R'.up q hq) (R.up q hq)) fun q hq => s2 q.1 (R'.fz q hq).2.2 (R.fz q hq).2.2
    cases d with
    | cons d1 d2 =>
      cases d2 with
      | cons d2 d3 =>
        cases d3
        exact ⟨_, _, rfl, O.nx _ H1 W' _ _ ((R2.setD hB hM h1.1 d1).setD hB hM2 (by rw [List.length_set]; exact h1.2.1) d2) h1.2.2⟩
  · exact h1.elim
end DL

set_option Elab.async false
set_option linter.all false
set_option maxRecDepth 100000
set_option maxHeartbeats 4000000
set_option autoImplicit false
/-! reversed, division of big numbers, the place of a thing in a list -/
namespace DL
open PySem PySem.Spec L2 PyProof.Rows RT
section
variable {X : Cx} {e a tg : Expr} {te : TD} {p pos : Pos}
/-- reversed(a list or a tuple) -/
def tdRevA (t : TD) : TDI := fun env Q => t env fun rv env1 => match rvD rv with
  | some (.list xs) => Q xs.reverse env1
  | some (.tuple xs) => Q xs.reverse env1
  | _ => False
theorem rev_get {α : Type} {xs : List α} {i : Nat} {x : α} (h : xs.reverse[i]? = some x) : i < xs.length ∧ xs[xs.length - 1 - i]? = some x := by
  have hi := (List.getElem?_eq_some_iff.mp h).1
  rw [List.length_reverse] at hi
  rw [List.getElem?_reverse hi] at h
  exact ⟨hi, h⟩
theorem walk_rev {K : PySem.W.Frag} {G : Hp} {a : Addr} {vs : List V} {xs : List PyData} (s : SqL K G a vs) (d : DpAll K G vs xs) : Walk K (Itv K a vs.length) G xs.reverse := by
  intro H W e hw i
  have s' : SqL K H a vs := hw_same.seq (e.seq s)
  have hl := d.len
  refine ⟨fun x hx => ?_, fun hle => ?_⟩
  · obtain ⟨hi, hx⟩ := rev_get hx
    obtain ⟨v, hv, dv⟩ := d.get hx
    rw [← hl] at hv
    refine ⟨⟨by omega, vs, v, s', hv⟩, fun u H' y => ?_⟩
    obtain ⟨rfl, y⟩ := y
    have := y vs s'
    rw [hv] at this; cases this
    exact ⟨.refl, dp_mono e _ dv⟩
  · rw [List.length_reverse] at hle
    show vs.length ≤ i
    omega
theorem walk_revT {K : PySem.W.Frag} {G : Hp} {a : Addr} {vs : List V} {xs : List PyData} (s : SqT K G a vs) (d : DpAll K G vs xs) : Walk K (ItvT K a vs.length) G xs.reverse := by
  intro H W e hw i
  have s' : SqT K H a vs := same_t hw_same (same_t e s)
  have hl := d.len
  refine ⟨fun x hx => ?_, fun hle => ?_⟩
  · obtain ⟨hi, hx⟩ := rev_get hx
    obtain ⟨v, hv, dv⟩ := d.get hx
    rw [← hl] at hv
    refine ⟨⟨by omega, vs, v, s', hv⟩, fun u H' y => ?_⟩
    obtain ⟨rfl, y⟩ := y
    have := y vs s'
    rw [hv] at this; cases this
    exact ⟨.refl, dp_mono e _ dv⟩
  · rw [List.length_reverse] at hle
    show vs.length ≤ i
    omega
theorem pdi_revA (hg : Gl X "reversed") (hm : X.mg "reversed" = none) (he : PD X e te) (hs : starEach [e] X.env = (false, eval e X.env) :: starEach [] X.env := by rfl) : PDI X tg (.Call (.Name "reversed" p) [e] [] pos) (tdRevA te) := by
  obtain ⟨t1, p1, q1⟩ := he
  refine ⟨_, pi_revA hg hm p1 hs, fun σ H W A env R Qd E ht k => ?_⟩
  refine q1 σ H W A env _ _ E ht fun v H1 W1 env1 rv E1 S1 R1 h1 => ?_
  split at h1
  · rename_i xs ex
    obtain ⟨W', s1, s2, d⟩ := R1.keepD S1 ex
    have E' := E1.sub s1 fun a ha => s2 a (E1.ain a ha) (E.ain a ha)
    have S' := S1.sub s1 s2
    cases d with
    | lst s r => exact ⟨_, _, rfl, .inl ⟨hw_same.seq s, k _ H1 W' env1 _ E' S' (walk_rev s r) h1⟩⟩
  · rename_i xs ex
    obtain ⟨W', s1, s2, d⟩ := R1.keepD S1 ex
    have E' := E1.sub s1 fun a ha => s2 a (E1.ain a ha) (E.ain a ha)
    have S' := S1.sub s1 s2
    cases d with
    | tup s r => exact ⟨_, _, rfl, .inr ⟨same_t hw_same s, k _ H1 W' env1 _ E' S' (walk_revT s r) h1⟩⟩
  · exact h1.elim
/-- reversed(range(n)) -/
def tdRevR (t : TD) : TDI := fun env Q => t env fun rv env1 => match res env1 rv with
  | some (.int n) => (-(2 ^ 62) ≤ n ∧ n < 2 ^ 62) ∧ Q (rngC (n - 1) (-1) n.toNat) env1
  | _ => False
theorem pdi_revR {p2 pos2 : Pos} (hg : Gl X "reversed") (hm : X.mg "reversed" = none) (hg2 : Gl X "range") (hm2 : X.mg "range" = none) (he : PD X a te) (na : starEach [a] X.env = (false, eval a X.env) :: starEach [] X.env := by rfl)
    (hs : starEach [.Call (.Name "range" p2) [a] [] pos2] X.env = (false, eval (.Call (.Name "range" p2) [a] [] pos2) X.env) :: starEach [] X.env := by rfl) :
    PDI X tg (.Call (.Name "reversed" p) [.Call (.Name "range" p2) [a] [] pos2] [] pos) (tdRevR te) := by
  obtain ⟨t1, p1, q1⟩ := he
  refine ⟨_, pi_revR hg hm (prg_1 hg2 hm2 p1 na) hs, fun σ H W A env R Qd E ht k => ?_⟩
  refine q1 σ H W A env _ _ E ht fun v H1 W1 env1 rv E1 S1 R1 h1 => ?_
  split at h1
  · rename_i n en
    refine ⟨n, (Dq.of_rv E1 R1 en).int, by decide, by decide, h1.1.1, h1.1.2, ?_⟩
    have e0 : (0 : Int) + (((n - 0).toNat : Nat) : Int) - 1 = (((n.toNat : Nat) : Int)) - 1 := by
      rw [Int.sub_zero]; omega
    rw [e0, show n - 0 = n by omega]
    refine k _ H1 W1 env1 _ E1 S1 ?_ h1.2
    intro H W e hw i
    refine ⟨fun x hx => ?_, fun hl => ?_⟩
    · unfold rngC at hx
      rw [List.getElem?_map] at hx
      obtain ⟨j, hj, rfl⟩ := Option.map_eq_some_iff.mp hx
      obtain ⟨g1, g2⟩ := List.getElem?_eq_some_iff.mp hj
      rw [List.getElem_range] at g2
      subst g2
      rw [List.length_range] at g1
      refine ⟨g1, fun u H' y => ?_⟩
      obtain ⟨rfl, rfl⟩ := y
      have e1 : (((n.toNat : Nat) : Int)) = n := by omega
      rw [e1]
      exact ⟨.refl, .int _⟩
    · unfold rngC at hl
      rw [List.length_map, List.length_range] at hl
      exact hl
  · exact h1.elim
/-- // of numbers of any size that are no more than 4000 bits apart, or by one below 9000 bits -/
theorem op_divP : OpR X (binaryOp .FloorDiv) (rI CDivP fun i j => .int (i / j)) := opI fun i j _ _ _ _ _ hc q => by
  have h1 : (0 : Int) < j := hc.1
  exact floordiv_int (by omega) (by rw [Int.fdiv_eq_ediv_of_nonneg i (by omega)]; exact q) (.inl hc.2)
def rdDivP : PyData → PyData → (Rv → Prop) → Prop
  | .int i, .int j, Q => CDivP i j ∧ Q (.d (.int (i / j)))
  | _, _, _ => False
theorem od_divP : OpD X (binaryOp .FloorDiv) rdDivP := od_ints op_divP fun a b Q q => by
  unfold rdDivP at q
  split at q
  · exact ⟨_, _, rfl, rfl, q⟩
  · exact q.elim
/-- l.index(x) -/
def rdIndex : List PyData → List PyData → (PyData → List PyData → Prop) → Prop
  | xs, [y], Q => SeqAt.shaped (.list xs) = true ∧ SeqAt.shaped y = true ∧ ∃ (j : Nat) (z : PyData), xs[j]? = some z ∧ PyData.eqv z y = true ∧ (∀ (m : Nat) (z' : PyData), m < j → xs[m]? = some z' → PyData.eqv z' y = false) ∧ Q (.int (j : Nat)) xs
  | _, _, _ => False
theorem md_index (hu : X.A.units + 65 < cLine) : MD X "list.index" rdIndex := by
  refine ⟨_, mt_indexD hu, fun H W a vs ws xs ys Q Qd h d dw q k => ?_⟩
  unfold rdIndex at q
  split at q
  · cases dw with
    | cons d1 d2 =>
      cases d2
      obtain ⟨h1, h2, j, z, h3, h4, h5, q⟩ := q
      refine ⟨a, _, _, _, j, z, rfl, rfl, .lst (.inl (.inl h)) (dpa_mono hw_same _ d), dp_mono hw_same _ d1, h1, h2, h3, h4, h5, ?_⟩
      have := k (.int (j : Nat)) (.int (j : Nat)) vs xs (.int _) d q
      have e : upd H a (.lst vs) = H := by
        funext b
        by_cases c : b = a
        · rw [c, upd_same, h]
        · rw [upd_ne c]
      rwa [e] at this
  · exact q.elim
end
/-- the list that a name holds alone, walked by a comprehension that leaves it as it is -/
def tdLcO (i0 : Nat) (g : TDC) (tt : TDT) (te : TD) (vs : List Nat) : TD := fun env Q => match env[i0]? with
  | some (some (.l xs)) => ∃ Pv : Nat → List PyData → En → Prop, Pv 0 [] env ∧
    (∀ i acc env, Pv i acc env → env[i0]? = some (some (.l xs))) ∧
    (∀ i x acc env, xs[i]? = some x → Pv i acc env → noOwn env vs ∧ g x (wipeE env vs) fun env2 => tt env2 fun b env3 => if b = true then te env3 fun rv env4 => (match rvD rv with
      | some y => acc.length < sizeLine ∧ Pv (i + 1) (acc ++ [y]) (mergeE env env4 vs)
      | none => False) else Pv (i + 1) acc (mergeE env env3 vs)) ∧
    ∀ acc env, Pv xs.length acc env → Q (.n (.l acc)) env
  | _ => False
section
variable {X : Cx} {tg iter elt : Expr} {ifs : List Expr} {scope : Scope} {pos : Pos} {g : TDC} {tt : TDT} {te : TD} {vs : List Nat}
theorem lcO_go {i0 : Nat} {T : List Nat} {σ : L2.St} {H : Hp} {W : List Addr} {A : List (Option Addr)} {env : En} {Q : VK} {Qd : Rv → En → Prop} {vs : List Nat} (hT : ∀ i, i ∈ T → i ∈ vs)
    (E : EnR X.K H W A env σ) (ht : tdLcO i0 g tt te vs env Qd) (k : ∀ v H' W' env' rv, EnR X.K H' W' A env' σ → Stp A H W H' W' → RvR X.K H W H' W' A rv v → Qd rv env' → Q v H') :
    tLc (iList X.K (tVar i0)) (upG X.K T g) (upT X.K tt) (upE X.K te) vs σ H Q := by
  unfold tdLcO at ht
  split at ht
  · rename_i xs hx0
    obtain ⟨Pv, h0, hk, hs, hd⟩ := ht
    obtain ⟨a, vs0, ha, haW, hv, h1, h2⟩ := E.lst hx0
    refine ⟨_, hv, a, rfl, ⟨vs0, SqL.of h1⟩, ?_⟩
    obtain ⟨H1, hH1⟩ : ∃ H1, H1 = H := ⟨_, rfl⟩
    obtain ⟨W1, hW1⟩ : ∃ W1, W1 = W := ⟨_, rfl⟩
    obtain ⟨env1, henv1⟩ : ∃ env1, env1 = env := ⟨_, rfl⟩
    rw [← hH1, ← hW1, ← henv1] at E
    rw [← henv1] at h0
    have S1 : Stp A H W H1 W1 := by rw [hH1, hW1]; exact .refl
    rw [← hH1]
    have E1 := E
    have Wk : ∀ (i : Nat) (H2 : Hp) (W2 : List Addr) (env2 : En) (acc : List PyData), EnR X.K H2 W2 A env2 σ → Stp A H1 W1 H2 W2 → Pv i acc env2 →
        (∀ x, xs[i]? = some x → (Itl X.K a).go i H2 ∧ ∀ v H', (Itl X.K a).yld i H2 v H' → Grow H2 W2 H' W2 ∧ Dp X.K (HW H' W2) v x) ∧ (xs.length ≤ i → (Itl X.K a).stop i H2) := by
      intro i H2 W2 env2 acc E2 S2 hP
      obtain ⟨a', vs2, ha', _, _, g1, g2⟩ := E2.lst (hk i acc env2 hP)
      rw [ha] at ha'; cases ha'
      have sq : SqL X.K H2 a vs2 := SqL.of g1
      refine ⟨fun x hx => ?_, fun hl => ⟨vs2, sq, by rw [g2.len]; exact hl⟩⟩
      obtain ⟨v, hv, dv⟩ := g2.get hx
      refine ⟨⟨vs2, v, sq, hv⟩, fun u H' y => ?_⟩
      obtain ⟨rfl, y⟩ := y
      have := y vs2 sq
      rw [hv] at this; cases this
      exact ⟨.refl, dv⟩
    intro D hD
    have nDA : some D ∉ A := fun z => E1.trk D (E1.ain D z) hD
    have nDW : D ∉ W1 := fun z => E1.trk D z hD
    have g0 : Grow H1 W1 (upd H1 D (.lst [])) (D :: W1) := grow_own hD
    refine ⟨fun i m H2 => m = xs.length - i ∧ i ≤ xs.length ∧ ∃ W2 env2 acc accV, EnR X.K H2 W2 A env2 σ ∧ D ∈ W2 ∧ H2 D = some (.lst accV) ∧ DpAll X.K (HW H2 W2) accV acc ∧ Stp A H1 W1 H2 W2 ∧ Pv i acc env2,
      ⟨_, rfl, Nat.zero_le _, D :: W1, env1, [], [], g0.en E1, List.mem_cons_self, upd_same, .nil, g0.stp, h0⟩, ?_⟩
    rintro i m H2 ⟨rfl, hle, W2, env2, acc, accV, E2, hDW, hDl, dacc, S2, hP⟩
    obtain ⟨wg, ws⟩ := Wk i H2 W2 env2 acc E2 S2 hP
    by_cases hlt : i < xs.length
    · obtain ⟨go, yl⟩ := wg xs[i] (by simp [hlt])
      refine .inr ⟨go, fun H' => ∃ W2 env2 acc accV, EnR X.K H' W2 A env2 σ ∧ D ∈ W2 ∧ H' D = some (.lst accV) ∧ DpAll X.K (HW H' W2) accV acc ∧ Stp A H1 W1 H' W2 ∧ Pv (i + 1) acc env2, fun H' q => ⟨xs.length - (i + 1), by omega, rfl, hlt, q⟩, fun v H3 y => ?_⟩
      obtain ⟨gr, dv⟩ := yl v H3 y
      obtain ⟨hno, hg⟩ := hs i xs[i] acc env2 (by simp [hlt]) hP
      have E3 := (gr.en E2)
      refine ⟨W2, A, wipeE env2 vs, xs[i], _, E3.wipe hno, dv, hg, fun σ4 env4 E4 w4 h4 => ?_⟩
      have hw4 : L2.wipe σ4 vs = L2.wipe σ vs := by
        rw [w4 vs hT]
        exact wipe_eq (fun j hj => by rw [wipe_get]; simp [hj]) (wipe_length _ _)
      refine ⟨hw4, W2, A, env4, _, E4, h4, fun b H5 W5 env5 E5 S5 h5 => ?_⟩
      have Sg : Stp A H2 W2 H5 W5 := gr.stp.trans S5
      have keepD : ∀ {H6 : Hp} {W6 : List Addr}, Stp A H2 W2 H6 W6 → H6 D = some (.lst accV) ∧ D ∈ W6 ∧ DpAll X.K (HW H6 W6) accV acc := fun {H6 W6} S => ⟨S.ext D _ hDl nDA, S.up D hDW, S.dpa E2.ain dacc⟩
      cases b with
      | false =>
        obtain ⟨k1, k2, k3⟩ := keepD Sg
        exact ⟨W5, _, acc, accV, E2.merge E5 Sg hw4 hno, k2, k1, k3, S2.trans Sg, h5⟩
      | true =>
        refine ⟨W5, A, env5, _, E5, h5, fun u H6 W6 env6 rv E6 S6 R6 h6 => ?_⟩
        split at h6
        · rename_i y ey
          have S26 := Sg.trans S6
          obtain ⟨W7, s1, s2, d⟩ := R6.keepD S6 ey
          obtain ⟨k1, k2, k3⟩ := keepD S26
          have hD7 : D ∈ W7 := s2 D k2 (Sg.up D hDW)
          have S7 : Stp A H2 W2 H6 W7 := S26.sub s1 fun q hq hq0 => s2 q hq (Sg.up q hq0)
          have E7 := E6.sub s1 fun a ha => s2 a (E6.ain a ha) (E5.ain a ha)
          have E8 := E2.merge E7 S7 hw4 hno
          refine ⟨accV, k1, by rw [k3.len]; exact h6.1, W7, _, acc ++ [y], accV ++ [u], ?_, hD7, upd_same, ?_, ?_, h6.2⟩
          · exact E8.hid hD7 nDA
          · rw [hw_upd hD7]
            exact (dpa_mono (sub_same s1) _ k3).app (.cons d .nil)
          · have S8 := S2.trans S7
            refine ⟨fun b o h n => ?_, fun b h => ?_, S8.up, fun p hp => ?_⟩
            · have c : b ≠ D := fun z => by rw [z, hD] at h; cases h
              rw [upd_ne c]
              exact S8.ext b o h n
            · by_cases c : b = D
              · rw [c, upd_same]; simp
              · rw [upd_ne c]; exact S8.there b h
            · rcases S8.fr p hp with z | z
              · exact .inl z
              · refine .inr ⟨z.1, ?_⟩
                by_cases c : p = D
                · rw [c, upd_same]; simp
                · rw [upd_ne c]; exact z.2
        · exact h6.elim
    · have e : i = xs.length := by omega
      subst e
      refine .inl ⟨ws (Nat.le_refl _), ?_⟩
      refine k (.ref D) H2 W2 env2 (.n (.l acc)) E2 (S1.trans S2) ⟨D, rfl, S1.back hD, hDW, fun z => nDW (S1.up D z), accV, hDl, dacc⟩ (hd acc env2 hP)
  · exact ht.elim
theorem pd_lcO (own : List (Str × Nat)) (hvs : own.map (·.2) = vs) (i0 : Nat) (hc : X.calm = true) (hN : X.N.Nodup) (hv : PE X iter (tVar i0)) (ok : BlkOk X.N X.env.scope scope own)
    (hg : ∀ (s : Shared) (H : Hp) (C : Addr) (cl : List (Str × Addr)) (fp : List Addr), PDC (X.blk s H scope (compEnvC scope cl C X.env) fp) vs tg g) (ht : ∀ (s : Shared) (H : Hp) (C : Addr) (cl : List (Str × Addr)) (fp : List Addr), PDTs (X.blk s H scope (compEnvC scope cl C X.env) fp) ifs tt)
    (he : ∀ (s : Shared) (H : Hp) (C : Addr) (cl : List (Str × Addr)) (fp : List Addr), PD (X.blk s H scope (compEnvC scope cl C X.env) fp) elt te) (hs : ∀ x, foldedSetIterable iter X.env x = pure x := by intro _; rfl) :
    PD X (.ListComp elt [⟨tg, iter, ifs, 0⟩] scope pos) (tdLcO i0 g tt te vs) := by
  have h := pe_lc (pos := pos) (g := upG X.K vs g) (tt := upT X.K tt) (te := upE X.K te) hc hN (pi_list hv) ok hg ht (fun s H C cl fp => (he s H C cl fp).up) hs
  rw [hvs] at h
  exact ⟨_, h, fun σ H W A env Q Qd E h k => lcO_go (fun i h => h) E h k⟩
end
end DL

set_option Elab.async false
set_option linter.all false
set_option maxRecDepth 100000
set_option maxHeartbeats 4000000
set_option autoImplicit false
/-! enumerate over a list held alone -/
namespace DL
open PySem PySem.Spec L2 PyProof.Rows
/-- the same, counted (enumerate) -/
def tdLcOE (i0 : Nat) (g : TDC) (tt : TDT) (te : TD) (vs : List Nat) : TD := fun env Q => match env[i0]? with
  | some (some (.l xs)) => ∃ Pv : Nat → List PyData → En → Prop, Pv 0 [] env ∧
    (∀ i acc env, Pv i acc env → env[i0]? = some (some (.l xs))) ∧
    (∀ i x acc env, (enumL xs)[i]? = some x → Pv i acc env → noOwn env vs ∧ g x (wipeE env vs) fun env2 => tt env2 fun b env3 => if b = true then te env3 fun rv env4 => (match rvD rv with
      | some y => acc.length < sizeLine ∧ Pv (i + 1) (acc ++ [y]) (mergeE env env4 vs)
      | none => False) else Pv (i + 1) acc (mergeE env env3 vs)) ∧
    ∀ acc env, Pv (enumL xs).length acc env → Q (.n (.l acc)) env
  | _ => False
section
variable {X : Cx} {tg iter elt : Expr} {ifs : List Expr} {scope : Scope} {pos : Pos} {g : TDC} {tt : TDT} {te : TD} {vs : List Nat}
theorem lcOE_go {i0 : Nat} {T : List Nat} {σ : L2.St} {H : Hp} {W : List Addr} {A : List (Option Addr)} {env : En} {Q : VK} {Qd : Rv → En → Prop} {vs : List Nat} (hT : ∀ i, i ∈ T → i ∈ vs)
    (E : EnR X.K H W A env σ) (ht : tdLcOE i0 g tt te vs env Qd) (k : ∀ v H' W' env' rv, EnR X.K H' W' A env' σ → Stp A H W H' W' → RvR X.K H W H' W' A rv v → Qd rv env' → Q v H') :
    tLc (iEnum X.K (tCons (tVar i0) tNil)) (upG X.K T g) (upT X.K tt) (upE X.K te) vs σ H Q := by
  unfold tdLcOE at ht
  split at ht
  · rename_i xs hx0
    obtain ⟨Pv, h0, hk, hs, hd⟩ := ht
    obtain ⟨a, vs0, ha, haW, hv, h1, h2⟩ := E.lst hx0
    refine ⟨_, hv, a, vs0, rfl, SqL.of h1, ?_⟩
    generalize hxs : enumL xs = ys at hs hd
    obtain ⟨H1, hH1⟩ : ∃ H1, H1 = H := ⟨_, rfl⟩
    obtain ⟨W1, hW1⟩ : ∃ W1, W1 = W := ⟨_, rfl⟩
    obtain ⟨env1, henv1⟩ : ∃ env1, env1 = env := ⟨_, rfl⟩
    rw [← hH1, ← hW1, ← henv1] at E
    rw [← henv1] at h0
    have S1 : Stp A H W H1 W1 := by rw [hH1, hW1]; exact .refl
    rw [← hH1]
    have E1 := E
    have Wk : ∀ (i : Nat) (H2 : Hp) (W2 : List Addr) (env2 : En) (acc : List PyData), EnR X.K H2 W2 A env2 σ → Stp A H1 W1 H2 W2 → Pv i acc env2 →
        (∀ x, ys[i]? = some x → (Ite X.K a).go i H2 ∧ ∀ v H', (Ite X.K a).yld i H2 v H' → Grow H2 W2 H' W2 ∧ Dp X.K (HW H' W2) v x) ∧ (ys.length ≤ i → (Ite X.K a).stop i H2) := by
      intro i H2 W2 env2 acc E2 S2 hP
      obtain ⟨a', vs2, ha', _, _, g1, g2⟩ := E2.lst (hk i acc env2 hP)
      rw [ha] at ha'; cases ha'
      subst hxs
      have hl : (enumL xs).length = xs.length := by unfold enumL; rw [List.length_zipWith, List.length_range, Nat.min_self]
      have sq : SqL X.K H2 a vs2 := SqL.of g1
      refine ⟨fun x hx => ?_, fun hle => ⟨vs2, sq, by rw [g2.len]; omega⟩⟩
      have hi : i < xs.length := by rw [← hl]; exact (List.getElem?_eq_some_iff.mp hx).1
      have hx2 : x = .tuple [.int (i : Nat), xs[i]] := by
        unfold enumL at hx
        rw [List.getElem?_zipWith, List.getElem?_eq_getElem hi, List.getElem?_range hi] at hx
        exact (Option.some.inj hx).symm
      obtain ⟨v, hv, dv⟩ := g2.get (List.getElem?_eq_getElem hi)
      refine ⟨⟨vs2, v, sq, hv⟩, fun u H' y => ?_⟩
      obtain ⟨T', x1, rfl, hT', rfl, y⟩ := y
      have := y vs2 sq
      rw [hv] at this; cases this
      have gg : Grow H2 W2 (upd H2 T' (.tup [.int (i : Nat), v])) W2 := grow_new hT'
      refine ⟨gg, ?_⟩
      rw [hx2]
      refine .tup (.inl (.inl (hw_of (fun z => E2.trk T' z hT') upd_same))) ?_
      exact dpa_mono ((gg.stp (A := [])).same fun _ z => absurd z (by simp)) _ (.cons (.int _) (.cons dv .nil))
    intro D hD
    have nDA : some D ∉ A := fun z => E1.trk D (E1.ain D z) hD
    have nDW : D ∉ W1 := fun z => E1.trk D z hD
    have g0 : Grow H1 W1 (upd H1 D (.lst [])) (D :: W1) := grow_own hD
    refine ⟨fun i m H2 => m = ys.length - i ∧ i ≤ ys.length ∧ ∃ W2 env2 acc accV, EnR X.K H2 W2 A env2 σ ∧ D ∈ W2 ∧ H2 D = some (.lst accV) ∧ DpAll X.K (HW H2 W2) accV acc ∧ Stp A H1 W1 H2 W2 ∧ Pv i acc env2,
      ⟨_, rfl, Nat.zero_le _, D :: W1, env1, [], [], g0.en E1, List.mem_cons_self, upd_same, .nil, g0.stp, h0⟩, ?_⟩
    rintro i m H2 ⟨rfl, hle, W2, env2, acc, accV, E2, hDW, hDl, dacc, S2, hP⟩
    obtain ⟨wg, ws⟩ := Wk i H2 W2 env2 acc E2 S2 hP
    by_cases hlt : i < ys.length
    · obtain ⟨go, yl⟩ := wg ys[i] (by simp [hlt])
      refine .inr ⟨go, fun H' => ∃ W2 env2 acc accV, EnR X.K H' W2 A env2 σ ∧ D ∈ W2 ∧ H' D = some (.lst accV) ∧ DpAll X.K (HW H' W2) accV acc ∧ Stp A H1 W1 H' W2 ∧ Pv (i + 1) acc env2, fun H' q => ⟨ys.length - (i + 1), by omega, rfl, hlt, q⟩, fun v H3 y => ?_⟩
      obtain ⟨gr, dv⟩ := yl v H3 y
      obtain ⟨hno, hg⟩ := hs i ys[i] acc env2 (by simp [hlt]) hP
      have E3 := (gr.en E2)
      refine ⟨W2, A, wipeE env2 vs, ys[i], _, E3.wipe hno, dv, hg, fun σ4 env4 E4 w4 h4 => ?_⟩
      have hw4 : L2.wipe σ4 vs = L2.wipe σ vs := by
        rw [w4 vs hT]
        exact wipe_eq (fun j hj => by rw [wipe_get]; simp [hj]) (wipe_length _ _)
      refine ⟨hw4, W2, A, env4, _, E4, h4, fun b H5 W5 env5 E5 S5 h5 => ?_⟩
      have Sg : Stp A H2 W2 H5 W5 := gr.stp.trans S5
      have keepD : ∀ {H6 : Hp} {W6 : List Addr}, Stp A H2 W2 H6 W6 → H6 D = some (.lst accV) ∧ D ∈ W6 ∧ DpAll X.K (HW H6 W6) accV acc := fun {H6 W6} S => ⟨S.ext D _ hDl nDA, S.up D hDW, S.dpa E2.ain dacc⟩
      cases b with
      | false =>
        obtain ⟨k1, k2, k3⟩ := keepD Sg
        exact ⟨W5, _, acc, accV, E2.merge E5 Sg hw4 hno, k2, k1, k3, S2.trans Sg, h5⟩
      | true =>
        refine ⟨W5, A, env5, _, E5, h5, fun u H6 W6 env6 rv E6 S6 R6 h6 => ?_⟩
        split at h6
        · rename_i y ey
          have S26 := Sg.trans S6
          obtain ⟨W7, s1, s2, d⟩ := R6.keepD S6 ey
          obtain ⟨k1, k2, k3⟩ := keepD S26
          have hD7 : D ∈ W7 := s2 D k2 (Sg.up D hDW)
          have S7 : Stp A H2 W2 H6 W7 := S26.sub s1 fun q hq hq0 => s2 q hq (Sg.up q hq0)
          have E7 := E6.sub s1 fun a ha => s2 a (E6.ain a ha) (E5.ain a ha)
          have E8 := E2.merge E7 S7 hw4 hno
          refine ⟨accV, k1, by rw [k3.len]; exact h6.1, W7, _, acc ++ [y], accV ++ [u], ?_, hD7, upd_same, ?_, ?_, h6.2⟩
          · exact E8.hid hD7 nDA
          · rw [hw_upd hD7]
            exact (dpa_mono (sub_same s1) _ k3).app (.cons d .nil)
          · have S8 := S2.trans S7
            refine ⟨fun b o h n => ?_, fun b h => ?_, S8.up, fun p hp => ?_⟩
            · have c : b ≠ D := fun z => by rw [z, hD] at h; cases h
              rw [upd_ne c]
              exact S8.ext b o h n
            · by_cases c : b = D
              · rw [c, upd_same]; simp
              · rw [upd_ne c]; exact S8.there b h
            · rcases S8.fr p hp with z | z
              · exact .inl z
              · refine .inr ⟨z.1, ?_⟩
                by_cases c : p = D
                · rw [c, upd_same]; simp
                · rw [upd_ne c]; exact z.2
        · exact h6.elim
    · have e : i = ys.length := by omega
      subst e
      refine .inl ⟨ws (Nat.le_refl _), ?_⟩
      refine k (.ref D) H2 W2 env2 (.n (.l acc)) E2 (S1.trans S2) ⟨D, rfl, S1.back hD, hDW, fun z => nDW (S1.up D z), accV, hDl, dacc⟩ (hd acc env2 hP)
  · exact ht.elim
end
section
variable {X : Cx} {e0 elt : Expr} {elts : List Expr} {kk : Nat} {tpos p cpos : Pos} {ifs : List Expr} {scope : Scope} {pos spos : Pos} {g : TDC} {tt : TDT} {te : TD} {vs : List Nat}
theorem pd_lcOE (own : List (Str × Nat)) (hvs : own.map (·.2) = vs) (i0 : Nat) (hc : X.calm = true) (hN : X.N.Nodup) (hge : Gl X "enumerate") (hme : X.mg "enumerate" = none) (hv : PE X e0 (tVar i0)) (ok : BlkOk X.N X.env.scope scope own)
    (hg : ∀ (s : Shared) (H : Hp) (C : Addr) (cl : List (Str × Addr)) (fp : List Addr), PDC (X.blk s H scope (compEnvC scope cl C X.env) fp) vs (.Tuple elts kk tpos) g) (ht : ∀ (s : Shared) (H : Hp) (C : Addr) (cl : List (Str × Addr)) (fp : List Addr), PDTs (X.blk s H scope (compEnvC scope cl C X.env) fp) ifs tt)
    (he : ∀ (s : Shared) (H : Hp) (C : Addr) (cl : List (Str × Addr)) (fp : List Addr), PD (X.blk s H scope (compEnvC scope cl C X.env) fp) elt te) (hs : ∀ x, foldedSetIterable (.Call (.Name "enumerate" p) [e0] [] cpos) X.env x = pure x := by intro _; rfl) (hst : starEach [e0] X.env = [(false, eval e0 X.env)] := by rfl) :
    PD X (.ListComp elt [⟨.Tuple elts kk tpos, .Call (.Name "enumerate" p) [e0] [] cpos, ifs, 0⟩] scope pos) (tdLcOE i0 g tt te vs) := by
  have h := pe_lc (pos := pos) (g := upG X.K vs g) (tt := upT X.K tt) (te := upE X.K te) hc hN (pi_enum (elts := elts) (kk := kk) (tpos := tpos) (p := p) (pos := cpos) hge hme (pa_cons hv pa_nil hst) hst) ok hg ht (fun s H C cl fp => (he s H C cl fp).up) hs
  rw [hvs] at h
  exact ⟨_, h, fun σ H W A env Q Qd E h k => lcOE_go (fun i h => h) E h k⟩
theorem psd_setLcOE {N : List Nat × List Nat} {i : Nat} {y : Str} {py : Pos} (own : List (Str × Nat)) (hvs : own.map (·.2) = vs) (i0 : Nat) (hc : X.calm = true) (hN : X.N.Nodup) (hy : X.N[i]? = some y) (hyl : X.env.scope.names.lookup y = some .local)
    (hsw : swapsWith (.ListComp elt [⟨.Tuple elts kk tpos, .Call (.Name "enumerate" p) [e0] [] cpos, ifs, 0⟩] scope pos) (some (.Name y py)) spos.line X.env = pure true)
    (hge : Gl X "enumerate") (hme : X.mg "enumerate" = none) (hv : PE X e0 (tVar i0)) (ok : BlkOk X.N X.env.scope scope own)
    (hg : ∀ (s : Shared) (H : Hp) (C : Addr) (cl : List (Str × Addr)) (fp : List Addr), PDC (X.blk s H scope (compEnvC scope cl C X.env) fp) vs (.Tuple elts kk tpos) g) (ht : ∀ (s : Shared) (H : Hp) (C : Addr) (cl : List (Str × Addr)) (fp : List Addr), PDTs (X.blk s H scope (compEnvC scope cl C X.env) fp) ifs tt)
    (he : ∀ (s : Shared) (H : Hp) (C : Addr) (cl : List (Str × Addr)) (fp : List Addr), PD (X.blk s H scope (compEnvC scope cl C X.env) fp) elt te) (hM : i ∉ N.1 := by decide) (hs : ∀ x, foldedSetIterable (.Call (.Name "enumerate" p) [e0] [] cpos) X.env x = pure x := by intro _; rfl) (hst : starEach [e0] X.env = [(false, eval e0 X.env)] := by rfl) :
    PSD X N (.Assign [.Name y py] (.ListComp elt [⟨.Tuple elts kk tpos, .Call (.Name "enumerate" p) [e0] [] cpos, ifs, 0⟩] scope pos) spos) (tdSetD i (tdLcOE i0 g tt te vs)) := by
  have h := ps_setLc (g := upG X.K vs g) (tt := upT X.K tt) (te := upE X.K te) hc hN hy hyl hsw (pi_enum (elts := elts) (kk := kk) (tpos := tpos) (p := p) (pos := cpos) hge hme (pa_cons hv pa_nil hst) hst) ok hg ht (fun s H C cl fp => (he s H C cl fp).up) hs
  rw [hvs] at h
  refine ⟨_, h, fun B D Dd σ H W A env hB R h O => ?_⟩
  have q2 : ∀ (σ : L2.St) (H : Hp) (W : List Addr) (A : List (Option Addr)) (env : En) (Q : VK) (Qd : Rv → En → Prop), EnR X.K H W A env σ → tdLcOE i0 g tt te vs env Qd → (∀ v H' W' env' rv, EnR X.K H' W' A env' σ → Stp A H W H' W' → RvR X.K H W H' W' A rv v → Qd rv env' → Q v H') → tLc (iEnum X.K (tCons (tVar i0) tNil)) (upG X.K vs g) (upT X.K tt) (upE X.K te) vs σ H Q :=
    fun σ H W A env Q Qd E h k => lcOE_go (fun i h => h) E h k
  exact set_d q2 hM hB R h O
end
end DL

set_option Elab.async false
set_option linter.all false
set_option maxRecDepth 100000
set_option maxHeartbeats 4000000
set_option autoImplicit false
/-! tuple(range(n)) -/
namespace DL
open PySem PySem.Spec L2 PyProof.Rows
def tdTupRg (t : TD) : TD := fun env Q => t env fun rv env1 => match res env1 rv with
  | some (.int n) => RgOk 0 n ∧ Q (.d (.tuple (rngL 0 n))) env1
  | _ => False
section
variable {X : Cx} {a : Expr} {te : TD} {p q pos : Pos}
theorem pd_tupRg {pr : Pos} (hc : X.calm = true) (hg : Gl X "tuple") (hm : X.mg "tuple" = none) (hg2 : Gl X "range") (hm2 : X.mg "range" = none) (he : PD X a te) (na : starEach [a] X.env = (false, eval a X.env) :: starEach [] X.env := by rfl)
    (na2 : starEach [.Call (.Name "range" q) [a] [] pr] X.env = (false, eval (.Call (.Name "range" q) [a] [] pr) X.env) :: starEach [] X.env := by rfl) : PD X (.Call (.Name "tuple" p) [.Call (.Name "range" q) [a] [] pr] [] pos) (tdTupRg te) := by
  obtain ⟨t1, p1, q1⟩ := he
  refine ⟨_, pe_tupRg hc hg hm (prg_1 hg2 hm2 p1 na) na2, fun σ H W A env Q Qd E ht k => ?_⟩
  refine q1 σ H W A env _ _ E ht fun v H1 W1 env1 rv E1 S1 R1 h1 => ?_
  split at h1
  · rename_i n en
    refine ⟨n, (Dq.of_rv E1 R1 en).int, h1.1, fun l hl => ?_⟩
    refine (fin_up E1 S1 k).tup E1.trk hl ?_ h1.2
    unfold rgV rngL
    have : ∀ ns : List Nat, DpAll X.K (HW H1 W1) (ns.map fun i => V.int (0 + (i : Nat))) (ns.map fun i => PyData.int (0 + (i : Nat))) := fun ns => by
      induction ns with
      | nil => exact .nil
      | cons a r ih => exact .cons (.int _) ih
    exact this _
  · exact h1.elim
/-! ### sep.join(texts) -/
end
end DL

set_option Elab.async false
set_option linter.all false
set_option maxRecDepth 100000
set_option maxHeartbeats 4000000
set_option autoImplicit false
namespace DL
open PySem PySem.Spec PySem.W L2 PyProof.Rows PyProof.V
/-! ### sum of a list or of a tuple of ints -/
def rSumA (K : PySem.W.Frag) : List V → Hp → VK → Prop := fun vs H Q => ∃ (a : Addr) (ns : List Int), vs = [V.ref a] ∧ (SqL K H a (ns.map V.int) ∨ SqT K H a (ns.map V.int)) ∧ Q (.int ns.sum) H
theorem cr_sumA {X : Cx} (hc : X.calm = true) : CallR X (.builtin "sum") (rSumA X.K) := by
  intro pins s σ H vs us Q I r h
  obtain ⟨a, ns, rfl, hs, q⟩ := h
  rcases hs with hs | hs
  · exact cr_sum hc pins s σ H _ us Q I r ⟨a, ns, rfl, hs, q⟩
  · obtain ⟨its, rv, hl, _⟩ := I.tuple hs
    rw [Vals.ref1 r]
    have hi : IntsAre its ns := rv.ints
    obtain ⟨xs, hx⟩ := hi.allInts.items
    have hn : numsOf its.toArray.toList = ns := by rw [show its.toArray.toList = its from rfl, hi.numsOf]
    have hl2 : s.heap.IsTuple a its.toArray := hl
    rw [hx] at hl2 hn
    rw [nums_intItems] at hn
    refine ktm_sumG (I.ok.hd hc) hl2 fun h' tk t' hk => ⟨.int _, H, I.kept hk, ⟨_, rfl⟩, ?_⟩
    rw [preSum_eq, List.take_of_length_le (by simp), hn]
    exact q
def rdSumA : List PyData → (Rv → Prop) → Prop
  | [.list xs], Q => ∃ ns : List Int, xs = ns.map PyData.int ∧ Q (.d (.int ns.sum))
  | [.tuple xs], Q => ∃ ns : List Int, xs = ns.map PyData.int ∧ Q (.d (.int ns.sum))
  | _, _ => False
theorem bd_sumA {X : Cx} (hc : X.calm = true) : BD X (.builtin "sum") rdSumA := by
  refine ⟨_, cr_sumA hc, fun H W vs xs Q Qd hw r q k => ?_⟩
  unfold rdSumA at q
  split at q
  · obtain ⟨v, rfl, p, ws, rfl, s, d⟩ := dqall1 r
    obtain ⟨ns, rfl, q⟩ := q
    rw [d.ints] at s
    exact ⟨p, ns, rfl, .inl s, k.int q⟩
  · obtain ⟨v, rfl, d⟩ := dqall1 r
    obtain ⟨ns, rfl, q⟩ := q
    cases d with
    | tup s d =>
      rw [d.ints] at s
      exact ⟨_, ns, rfl, .inr (same_t hw_same s), k.int q⟩
  · exact q.elim
end DL

set_option Elab.async false
set_option linter.all false
set_option maxRecDepth 100000
set_option maxHeartbeats 4000000
set_option autoImplicit false
namespace DL
open PySem PySem.Spec PySem.W L2 PyProof.Rows PyProof.V
/-! ### lcm of two small ints -/
def rLcmS : List V → Hp → VK → Prop := fun vs H Q => ∃ a b : Int, vs = [.int a, .int b] ∧ a.natAbs < 2 ^ 30 ∧ b.natAbs < 2 ^ 30 ∧ Q (.int ((Nat.lcm a.natAbs b.natAbs : Nat) : Int)) H
theorem cr_lcmS {X : Cx} : CallR X (.builtin "math.lcm") rLcmS := by
  rintro pins s σ H vs us Q I rel ⟨a, b, rfl, ha, hb, q⟩
  obtain ⟨t, u, rfl⟩ := Vals.int2 rel
  have e1 : (Nat.lcm 1 a.natAbs).lcm b.natAbs = a.natAbs.lcm b.natAbs := by rw [Nat.lcm_one_left]
  have le : a.natAbs.lcm b.natAbs ≤ a.natAbs * b.natAbs := Nat.div_le_self _ _
  have lt : a.natAbs * b.natAbs < 2 ^ 60 := by
    have := Nat.mul_lt_mul'' ha hb
    rwa [← Nat.pow_add] at this
  have hz : (((a.natAbs.lcm b.natAbs : Nat) : Int)).natAbs.log2 < 100 := by
    rw [Int.natAbs_natCast]
    by_cases c : a.natAbs.lcm b.natAbs = 0
    · rw [c, show Nat.log2 0 = 0 by decide]; decide
    · exact (Nat.log2_lt c).mpr (Nat.lt_of_lt_of_le (Nat.lt_of_le_of_lt le lt) (Nat.pow_le_pow_right (by decide) (by decide)))
  refine PySem.W.mg_lcm (Nat.lt_of_lt_of_le ha (Nat.pow_le_pow_right (by decide) (by decide))) (Nat.lt_of_lt_of_le hb (Nat.pow_le_pow_right (by decide) (by decide))) ?_ ?_
  · rw [e1]; exact Nat.lt_of_lt_of_le hz (by decide)
  · rw [e1]
    exact ⟨.int _, H, I.tok _, ⟨_, rfl⟩, q⟩
def rdLcm : List PyData → (Rv → Prop) → Prop
  | [.int i, .int j], Q => i.natAbs < 2 ^ 30 ∧ j.natAbs < 2 ^ 30 ∧ Q (.d (.int ((Nat.lcm i.natAbs j.natAbs : Nat) : Int)))
  | _, _ => False
theorem bd_lcm {X : Cx} : BD X (.builtin "math.lcm") rdLcm := by
  refine ⟨_, cr_lcmS, fun H W vs xs Q Qd hw r q k => ?_⟩
  unfold rdLcm at q
  split at q
  · obtain ⟨v, u, rfl, d, d2⟩ := dqall2 r
    exact ⟨_, _, by rw [d.int, d2.int], q.1, q.2.1, k.int q.2.2⟩
  · exact q.elim
end DL

set_option Elab.async false
set_option linter.all false
set_option maxRecDepth 100000
set_option maxHeartbeats 8000000
set_option autoImplicit false
namespace DL
open PySem PySem.Spec PySem.W L2 PyProof.Rows PyProof.V
/-! ### set(list of ints), and sorted of it -/
/-- a new set -/
abbrev nso (w : World) : Obj := { cls := .type "set", dict := none, data := .set #[] 0 (.fresh 0 0 (!w.params.followText "set-order")) }
section
variable {P : Program} {w : World} {A : Around} {E : Value → Shared → Prop} {s : Shared}
/-- what stands behind set(list) -/
def Made (w : World) (s : Shared) (ns : List Int) (h' : Heap) (c : Nat) : Prop := SetR w h' s.heap.objs.size (fun j => decide (j ∈ ns)) c ∧ c ≤ ns.length ∧ ∀ b o, s.heap.get? b = some o → h'.get? b = some o
theorem make_list {l : Addr} {items : Array Value} (ns : List Int) {Q : Value → Shared → Prop} (hh : A.handled = none) (hl : s.heap.IsList l items) (hit : IntsAre items.toList ns) (hb : ns.length + 1 < scanBound)
    (h : ∀ (h' : Heap) (tk c : Nat), Made w s ns h' c → Q (.ref s.heap.objs.size) { s with heap := h', toks := tk }) : wpAny (model P w) A (call (.type "set") [.ref l]) Q E s := by
  have hz : items.size = ns.length := (Array.length_toList (xs := items)).symm.trans (IntsAre.length hit)
  obtain ⟨cc, tl, hmro⟩ := F.called_set.mro
  have a1 := F.called_set.made; have a2 := F.called_set.sub
  refine wpAny_call (codeAny_of_tree ?_)
  show wpAny _ _ (callAny (.type "set") _) _ _ _
  refine wpAny_pure ⟨Code.quiet_builtin _ (by decide +kernel), ?_⟩
  refine codeAny_builtin F.entry_type_call ?_
  rw [Around.under_plain (weight_type_call_type "set" [.ref l] []) rfl]
  have a3 := F.called_set.notType; have a4 := F.called_set.canCreate; have a5 := F.typeCall_set_1 (.ref l)
  repeat any_goals first | wp_step | assumption
  refine codeAny_mono (code_set_led1 (.ref l) (E := E) (Q₁ := fun v t => v = .ref s.heap.objs.size ∧ t = { s with heap := s.heap.push (nso w) }) ⟨rfl, rfl⟩) fun r t hr => ?_
  rcases r with e | fl
  · exact hr
  cases fl with
  | ret v =>
    obtain ⟨rfl, rfl⟩ := hr
    have hS : (s.heap.push (nso w)).get? s.heap.objs.size = some (nso w) := Heap.get?_push_size _ rfl
    have hT : Shared.TypeIs { s with heap := s.heap.push (nso w) } (.ref s.heap.objs.size) "set" := ⟨_, hS, rfl⟩
    have b1 := F.called_set.init.lookup; have b2 := F.called_set.init.bind (.ref s.heap.objs.size)
    repeat any_goals first | wp_step | assumption
    refine codeAny_mono (codeAny_call_builtin (R := wants (fun r t => r = .none ∧ ∃ h' tk c, t = { s with heap := h', toks := tk } ∧ Made w s ns h' c) E) F.called_set.init.plain F.entry_set_init (check_set_init_1 hT ?_)) fun r2 t2 hr2 => ?_
    · obtain ⟨⟨k1, k2, k3, k4⟩, ho, hc, nl, hd⟩ := hl
      cases hc; cases hd
      have ho2 : (s.heap.push (nso w)).get? l = some ⟨.type "list", k2, .seq items nl, k4⟩ := Heap.get?_push_of_some _ ho
      have c1 := F.sub_list_set; have c2 := F.sub_list_frozenset
      have c3 : (Value.type "list" == Value.type "dict") = false := by decide
      have hl1 : (s.heap.push (nso w)).IsList l items := ⟨_, ho2, rfl, nl, rfl⟩
      unfold Builtin.«set.__init__» noKeywords Builtin.Frozenset.updateFrom
      generalize hPI : pyIter = PI
      wp_walk
      subst hPI
      refine wpAny_pyIter_list hl1 (wpAny_bind (wpAny_runValue ?_))
      generalize hB : s.heap.push (nso w) = B at *
      have zB : B.objs.size = s.heap.objs.size + 1 := by rw [← hB, Heap.size_push]
      have ll : l < s.heap.objs.size := Heap.lt_size ho
      have hv : ∀ (i : Nat) (v : Value), items[i]? = some v → ∃ k t, ns[i]? = some k ∧ v = .int k t := fun i v e => by
        have hi : i < ns.length := by rw [← hz]; exact (Array.getElem?_eq_some_iff.mp e).1
        obtain ⟨t, e2⟩ := IntsAre.int_at hit i v (by rw [Array.getElem?_toList]; exact e)
        refine ⟨ns[i], t, List.getElem?_eq_getElem hi, e2.trans ?_⟩
        rw [List.getD_eq_getElem?_getD, List.getElem?_eq_getElem hi]; rfl
      have nf : s.heap.objs.size ∉ [B.objs.size, l] := by
        rw [zB]; simp only [List.mem_cons, List.not_mem_nil, or_false]; exact not_or.mpr ⟨Nat.ne_of_lt (Nat.lt_succ_self _), Nat.ne_of_gt ll⟩
      have hI : (B.push { cls := .type "list_iterator", data := .fields #[.ref l, .int 0 0] }).get? s.heap.objs.size = some (nso w) := Heap.get?_push_of_some _ hS
      refine set_update_ints ((Walks.list (show A.in1.in1.in1.handled = none by simp [hh]) _ l (by rw [zB]; exact Nat.ne_of_lt (Nat.lt_succ_of_lt ll)) items).toS) s.heap.objs.size nf ns hz hb hv (items.size - 0) 0 _ (by omega) (Nat.zero_le _) ⟨⟨_, Heap.get?_push_size _ rfl, rfl, rfl⟩, hl1.push _⟩ ⟨0, Nat.le_refl 0, setR_new_at hI⟩ fun t c hm hc hR => ?_
      obtain ⟨th, tg, td, tt, to⟩ := t
      have m1 : tg = s.gens := hm.gens
      have m2 : td = s.drawn := hm.drawn
      have m3 : to = s.os := hm.os
      subst m1 m2 m3
      show wpAny _ _ _ _ _ _
      refine wpAny_pure ?_
      show wpAny _ _ (ret Value.none) _ _ _
      refine wpAny_pure ⟨rfl, th, tt, c, rfl, hR, by omega, fun b o e => ?_⟩
      have q1 := Heap.lt_size e
      refine hm.heap b o ?_ (Heap.get?_push_of_some _ (by rw [← hB]; exact Heap.get?_push_of_some _ e))
      simp only [List.mem_cons, List.not_mem_nil, or_false, zB]
      exact not_or.mpr ⟨Nat.ne_of_lt q1, Nat.ne_of_lt (Nat.lt_succ_of_lt q1)⟩
    · rcases r2 with e | fl2
      · exact hr2
      cases fl2 with
      | ret v =>
        obtain ⟨e1, h', tk, c, e2, hm⟩ := hr2
        subst e1; subst e2
        repeat any_goals first | wp_step | assumption
        exact h _ _ _ hm
      | _ => exact hr2.elim
  | _ => exact hr.elim
end
end DL

set_option Elab.async false
set_option linter.all false
set_option maxRecDepth 100000
set_option maxHeartbeats 4000000
set_option autoImplicit false
namespace DL
open PySem PySem.Spec PySem.W L2 PyProof.Rows PyProof.V
/-! ### sorted(set(ints)) -/
def rMkSet (K : PySem.W.Frag) (w : World) : List V → Hp → VK → Prop := fun vs H Q => ∃ (a : Addr) (ns : List Int), vs = [V.ref a] ∧ SqL K H a (ns.map V.int) ∧ ns.length ≤ 1000 ∧ ∀ p c, H p = none → c ≤ ns.length → Q (.ref p) (upd H p (SetO w p (fun j => decide (j ∈ ns)) c))
theorem cr_mkSet {X : Cx} (hc : X.calm = true) : CallR X (.type "set") (rMkSet X.K X.w) := by
  rintro pins s σ H vs us Q I rel ⟨a, ns, rfl, hs, hz, q⟩
  obtain ⟨its, rv, hl, _⟩ := I.list hs
  rw [Vals.ref1 rel]
  refine make_list ns (I.ok.hd hc) hl.isList (ints_of_vals rv) (by unfold scanBound; omega) fun h' tk c hm => ?_
  exact ⟨.ref _, upd H s.heap.objs.size (SetO X.w s.heap.objs.size (fun j => decide (j ∈ ns)) c), I.laid (t' := tk) hm.2.2 (Nat.le_refl _) (setO_new hm.1), rfl, q _ c (I.hok.fresh (Nat.le_refl _)) hm.2.1⟩
def tdSortSet (t : TDA) : TD := fun env Q => t env fun rvs env1 => match resR env1 rvs with
  | some [.list xs] => ∃ ns : List Int, xs = ns.map PyData.int ∧ ns.length < 64 ∧ ∀ ms : List Int, ms.Pairwise (· < ·) → (∀ k, k ∈ ms ↔ k ∈ ns) → Q (.n (.l (ms.map PyData.int))) env1
  | _ => False
theorem dp_ints {K : PySem.W.Frag} {H : Hp} : ∀ ns : List Int, DpAll K H (ns.map V.int) (ns.map PyData.int)
  | [] => .nil
  | a :: r => .cons (.int _) (dp_ints r)
theorem pd_sortSet {X : Cx} {e : Expr} {t : TDA} {p pos p2 pos2 : Pos} (hc : X.calm = true) (hg : Gl X "sorted") (hm : X.mg "sorted" = none) (hg2 : Gl X "set") (hm2 : X.mg "set" = none) (ha : PDA X [e] t)
    (n1 : starEach [e] X.env = (false, eval e X.env) :: starEach [] X.env := by rfl) (n2 : (backTo pos2 (starEach [] X.env)).any (·.1) = false := by rfl)
    (n3 : starEach [.Call (.Name "set" p2) [e] [] pos2] X.env = (false, eval (.Call (.Name "set" p2) [e] [] pos2) X.env) :: starEach [] X.env := by rfl) (n4 : (backTo pos (starEach [] X.env)).any (·.1) = false := by rfl) :
    PD X (.Call (.Name "sorted" p) [.Call (.Name "set" p2) [e] [] pos2] [] pos) (tdSortSet t) := by
  obtain ⟨t1, p1, q1⟩ := ha
  refine ⟨_, pe_callB (cr_sortedSet hc) hg hm boot_sorted (pa_cons (pe_callTy (cr_mkSet hc) hg2 hm2 boot_set p1 (by decide) (by decide) n1 n2) pa_nil n3) (by decide) (by decide) n3 n4, fun σ H W A env Q Qd E ht k => ?_⟩
  refine q1 σ H W A env _ _ E ht fun vs H1 W1 env1 rvs E1 S1 R1 h1 => ?_
  split at h1
  · rename_i xs ex
    obtain ⟨v, rfl, a, ws, rfl, s, d⟩ := dqall1 (R1.read E1 ex)
    obtain ⟨ns, rfl, hz, q⟩ := h1
    rw [d.ints] at s
    refine ⟨a, ns, rfl, s, by omega, fun b c hb hcn => ⟨b, _, c, rfl, upd_same, by omega, fun ms l h2 h3 h4 hl => ?_⟩⟩
    have hbl : l ≠ b := fun z => by rw [z, upd_same] at hl; cases hl
    have hl0 : H1 l = none := by rw [upd_ne hbl] at hl; exact hl
    have g : Grow H1 W1 (upd (upd H1 b (SetO X.w b (fun j => decide (j ∈ ns)) c)) l (.lst (ms.map V.int))) (l :: W1) := by
      have g1 : Grow H1 W1 (upd H1 b (SetO X.w b (fun j => decide (j ∈ ns)) c)) W1 := grow_new hb
      have g2 : Grow (upd H1 b (SetO X.w b (fun j => decide (j ∈ ns)) c)) W1 (upd (upd H1 b (SetO X.w b (fun j => decide (j ∈ ns)) c)) l (.lst (ms.map V.int))) (l :: W1) := grow_own hl
      refine ⟨fun z u e => g2.same z u (g1.same z u e), fun z h => List.mem_cons_of_mem _ h, fun z h => ?_⟩
      rcases List.mem_cons.mp h with rfl | h
      · exact .inr ⟨hl0, by rw [upd_same]; simp⟩
      · exact .inl h
    refine fin_up E1 S1 k _ _ (l :: W1) (.n (.l (ms.map PyData.int))) g ⟨l, rfl, hl0, List.mem_cons_self, fun z => E1.trk l z hl0, ms.map V.int, upd_same, dp_ints ms⟩ ?_
    exact q ms h2 fun j => (h3 j).trans (by rw [decide_eq_true_eq])
  · exact h1.elim
/-! ### [e, ..] * n, n a name -/
def tdRepV (t : TDA) (j : Nat) : TD := fun env Q => t env fun rvs env1 => match resAll rvs, env1[j]? with
  | some xs, some (some (.d (.int n))) => xs.length ≤ sizeLine ∧ -(2 ^ 63) ≤ n ∧ n < 2 ^ 63 ∧ xs.length * n.toNat ≤ sizeLine ∧ Q (.n (.l (List.replicate n.toNat xs).flatten)) env1
  | _, _ => False
theorem dpa_flat {K : PySem.W.Frag} {H : Hp} {vs : List V} {xs : List PyData} (d : DpAll K H vs xs) : ∀ n : Nat, DpAll K H (List.replicate n vs).flatten (List.replicate n xs).flatten
  | 0 => .nil
  | n + 1 => by
    rw [List.replicate_succ, List.replicate_succ, List.flatten_cons, List.flatten_cons]
    exact d.app (dpa_flat d n)
theorem pd_repV {X : Cx} {es : List Expr} {t : TDA} {j : Nat} {x : Str} {p1 p2 pos : Pos} (h : PDA X es t) (hv : PE X (.Name x p2) (tVar j)) : PD X (.BinOp (.List es p1) .Mult (.Name x p2) pos) (tdRepV t j) := by
  obtain ⟨t1, q0, q1⟩ := h
  refine ⟨_, pe_op op_rep (pe_lst q0) hv, fun σ H W A env Q Qd E ht k => ?_⟩
  refine q1 σ H W A env _ _ E ht fun vs H1 W1 env1 rvs E1 S1 R1 h1 => ?_
  split at h1
  · rename_i xs n ex en
    obtain ⟨W', s1, s2, d⟩ := R1.keep ex
    have E' := E1.sub s1 fun a ha => s2 a (E1.ain a ha) (E.ain a ha)
    have S' := S1.sub s1 s2
    obtain ⟨_, u, hu, du⟩ := E'.dat j _ en
    refine ⟨by rw [d.len]; exact h1.1, fun p hp => ?_⟩
    refine ⟨u, hu, p, n, vs, rfl, by cases du; rfl, upd_same, h1.2.1, h1.2.2.1, by rw [d.len]; exact h1.2.2.2.1, fun l hl => ?_⟩
    have hpl : l ≠ p := fun z => by rw [z, upd_same] at hl; cases hl
    have hl0 : H1 l = none := by rw [upd_ne hpl] at hl; exact hl
    have g : Grow H1 W' (upd (upd H1 p (.lst vs)) l (.lst (List.replicate n.toNat vs).flatten)) (l :: W') := by
      have g1 : Grow H1 W' (upd H1 p (.lst vs)) W' := grow_new hp
      have g2 : Grow (upd H1 p (.lst vs)) W' (upd (upd H1 p (.lst vs)) l (.lst (List.replicate n.toNat vs).flatten)) (l :: W') := grow_own hl
      refine ⟨fun z u e => g2.same z u (g1.same z u e), fun z h => List.mem_cons_of_mem _ h, fun z h => ?_⟩
      rcases List.mem_cons.mp h with rfl | h
      · exact .inr ⟨hl0, by rw [upd_same]; simp⟩
      · exact .inl h
    refine fin_up E' S' k _ _ (l :: W') (.n (.l (List.replicate n.toNat xs).flatten)) g ⟨l, rfl, hl0, List.mem_cons_self, fun z => E'.trk l z hl0, _, upd_same, ?_⟩ h1.2.2.2.2
    exact dpa_mono ((g.stp (A := [])).same fun _ z => absurd z (by simp)) _ (dpa_flat d n.toNat)
  · exact h1.elim
/-! ### x[a], x[b] = e, a and b names -/
def tdSwap (i a b : Nat) (te : TD) : TDS := fun D env => te env fun rv env1 => match env1[i]?, env1[a]?, env1[b]?, rvD rv with
  | some (some (.l xs)), some (some (.d (.int p))), some (some (.d (.int q))), some (.tuple [x, y]) => match ixN xs.length p, ixN xs.length q with
    | some j, some k => D.nx (env1.set i (some (.l ((xs.set j x).set k y))))
    | _, _ => False
  | _, _, _, _ => False
theorem dpa_two {K : PySem.W.Frag} {H : Hp} {vs : List V} {x y : PyData} (h : DpAll K H vs [x, y]) : ∃ v1 v2, vs = [v1, v2] ∧ Dp K H v1 x ∧ Dp K H v2 y := by
  cases h with
  | cons d r =>
    cases r with
    | cons d2 r2 =>
      cases r2
      exact ⟨_, _, rfl, d, d2⟩
theorem psd_swap {X : Cx} {N : List Nat × List Nat} {o o2 u v e : Expr} {i a b : Nat} {te : TD} {tp1 tp2 tp3 pos : Pos} {kk : Nat} (hcal : X.calm = true) (ho : PE X o (tVar i)) (ho2 : PE X o2 (tVar i)) (hu : PE X u (tVar a)) (hv : PE X v (tVar b)) (he : PD X e te)
    (ha : ∀ z, assign (.Subscript o u tp1) X.env z = (do
      let ov ← holding [z] (eval o X.env)
      let iv ← holding [z, ov] (eval u X.env)
      standAt tp1
      holding [z, ov, iv] (setItem ov iv z)
      release [z, ov, iv] []) := by intro _; rfl)
    (hb : ∀ z, assign (.Subscript o2 v tp2) X.env z = (do
      let ov ← holding [z] (eval o2 X.env)
      let iv ← holding [z, ov] (eval v X.env)
      standAt tp2
      holding [z, ov, iv] (setItem ov iv z)
      release [z, ov, iv] []) := by intro _; rfl)
    (z1 : (assignEach [.Subscript o u tp1, .Subscript o2 v tp2] X.env).map (·.2) = assign (.Subscript o u tp1) X.env :: (assignEach [.Subscript o2 v tp2] X.env).map (·.2) := by rfl)
    (z2 : (assignEach [.Subscript o2 v tp2] X.env).map (·.2) = assign (.Subscript o2 v tp2) X.env :: (assignEach [] X.env).map (·.2) := by rfl)
    (z3 : (assignEach [.Subscript o u tp1, .Subscript o2 v tp2] X.env).length = 2 := by rfl) (z4 : (assignEach [.Subscript o u tp1, .Subscript o2 v tp2] X.env).findIdx? (·.1) = none := by rfl)
    (hs : swapsWithSole [.Tuple [.Subscript o u tp1, .Subscript o2 v tp2] kk tp3] e pos.line X.env = pure false := by rfl) (hw : swappedStores [.Tuple [.Subscript o u tp1, .Subscript o2 v tp2] kk tp3] e X.env = pure none := by rfl)
    (h1 : (assignEach [.Tuple [.Subscript o u tp1, .Subscript o2 v tp2] kk tp3] X.env).map (·.2) = [assign (.Tuple [.Subscript o u tp1, .Subscript o2 v tp2] kk tp3) X.env] := by rfl) :
    PSD X N (.Assign [.Tuple [.Subscript o u tp1, .Subscript o2 v tp2] kk tp3] e pos) (tdSwap i a b te) := by
  obtain ⟨t1, p1, q1⟩ := he
  refine ⟨_, ps_asg p1 (pg_tup hcal (pgs_cons (pg_sub ho hu set_list ha) (pgs_cons (pg_sub ho2 hv set_list hb) pgs_nil z2) z1) z3 z4) hs hw h1, fun B D Dd σ H W A env hB R h O => ?_⟩
  refine q1 σ H W A env _ _ R.en h fun w H1 W1 env1 rv E1 S1 R1 h1 => ?_
  split at h1
  · rename_i xs p q x y hx hp hq ex
    split at h1
    · rename_i j k ej ek
      have R' := R.step S1 E1
      obtain ⟨W', s1, s2, d⟩ := R1.keepD S1 ex
      have R2 := R'.sub s1 (fun c hc => s2 c (E1.ain c hc) (R.en.ain c hc)) (fun z hz => s2 z (R'.up z hz) (R.up z hz)) fun z hz => s2 z.1 (R'.fz z hz).2.2 (R.fz z hz).2.2
      have E' := R2.en
      obtain ⟨c, vs, hc, hwc, hvc, h5, h6⟩ := E'.lst hx
      obtain ⟨_, up1, hup, dup⟩ := E'.dat a _ hp
      obtain ⟨_, uq1, huq, duq⟩ := E'.dat b _ hq
      cases d with
      | tup sT dT =>
            obtain ⟨v1, v2, rfl, dx, dy⟩ := dpa_two dT
            have up2 : up1 = .int p := by cases dup; rfl
            have uq2 : uq1 = .int q := by cases duq; rfl
            refine ⟨_, _, rfl, same_t hw_same sT, rfl, _, _, rfl, ?_⟩
            refine ⟨.ref c, hvc, up1, hup, c, vs, p, j, rfl, up2, h5, by rw [h6.len]; exact ej, ?_⟩
            refine ⟨_, _, rfl, .ref c, hvc, uq1, huq, c, _, q, k, rfl, uq2, upd_same, by rw [List.length_set, h6.len]; exact ek, rfl, ?_⟩
            have E3 : EnR X.K (upd H1 c (.lst ((vs.set j v1).set k v2))) W' A (env1.set i (some (.l ((xs.set j x).set k y)))) σ := E'.write (s := .l ((xs.set j x).set k y)) hc rfl ⟨_, upd_same, by rw [hw_upd hwc]; exact (h6.set dx j).set dy k⟩
            have e2 : upd (upd H1 c (.lst (vs.set j v1))) c (.lst ((vs.set j v1).set k v2)) = upd H1 c (.lst ((vs.set j v1).set k v2)) := by
              funext z
              by_cases c1 : z = c
              · rw [c1, upd_same, upd_same]
              · rw [upd_ne c1, upd_ne c1, upd_ne c1]
            rw [e2]
            exact O.nx σ _ W' A _ (R2.step (stp_write (List.mem_of_getElem? hc)) E3) h1
    · exact h1.elim
  · exact h1.elim
end DL

set_option Elab.async false
set_option linter.all false
set_option maxRecDepth 100000
set_option maxHeartbeats 4000000
set_option autoImplicit false
namespace DL
open PySem PySem.Spec PySem.W L2 PyProof.Rows PyProof.V
/-! ### calls of a def with one keyword-only parameter -/
theorem enr_int {K : PySem.W.Frag} {H : Hp} {W : List Addr} {A : List (Option Addr)} {env : En} {σ : L2.St} (E : EnR K H W A env σ) (d : Int) : EnR K H W (A ++ [none]) (env ++ [some (.d (.int d))]) (σ ++ [some (.int d)]) := by
  have l1 := E.len
  have l2 := E.lenA
  refine ⟨by simp [l1], by simp [l2], fun i x h => ?_, fun i s h hs => ?_, fun i a h => ?_, fun i j a h1 h2 => ?_, E.trk⟩
  · rcases Nat.lt_or_ge i env.length with q | q
    · rw [List.getElem?_append_left q] at h
      rw [List.getElem?_append_left (by omega), List.getElem?_append_left (by omega)]
      exact E.dat i x h
    · rw [List.getElem?_append_right q] at h
      have e0 : i - env.length = 0 := by
        have := (List.getElem?_eq_some_iff.mp h).1
        rw [List.length_singleton] at this
        omega
      rw [e0] at h
      cases h
      rw [List.getElem?_append_right (by omega), List.getElem?_append_right (by omega), show i - A.length = 0 by omega, show i - σ.length = 0 by omega]
      exact ⟨rfl, .int d, rfl, .int d⟩
  · rcases Nat.lt_or_ge i env.length with q | q
    · rw [List.getElem?_append_left q] at h
      rw [List.getElem?_append_left (by omega), List.getElem?_append_left (by omega)]
      exact E.own i s h hs
    · rw [List.getElem?_append_right q] at h
      have e0 : i - env.length = 0 := by
        have := (List.getElem?_eq_some_iff.mp h).1
        rw [List.length_singleton] at this
        omega
      rw [e0] at h
      cases h
      cases hs
  · rcases Nat.lt_or_ge i A.length with q | q
    · rw [List.getElem?_append_left q] at h
      rw [List.getElem?_append_left (by omega)]
      exact E.back i a h
    · rw [List.getElem?_append_right q] at h
      have := List.mem_of_getElem? h
      simp at this
  · have g : ∀ i, (A ++ [none])[i]? = some (some a) → A[i]? = some (some a) := fun i h => by
      rcases Nat.lt_or_ge i A.length with q | q
      · rwa [List.getElem?_append_left q] at h
      · rw [List.getElem?_append_right q] at h
        have := List.mem_of_getElem? h
        simp at this
    exact E.inj i j a (g i h1) (g j h2)
theorem spD_ext {K : PySem.W.Frag} {N : List Nat × List Nat} {n : Nat} {g : FD} {vs : List V} {H : Hp} {Q : VK} {E E' : XK} {d : Int} (h : spD K N n (fun args R => g (args ++ [.d (.int d)]) R) vs H Q E) : spD K N (n + 1) g (vs ++ [.int d]) H Q E' := by
  obtain ⟨W, A, args, Q0, hl, hE, hA, hg, hk⟩ := h
  have hgt : ∀ (i : Nat) (a : Addr), (A ++ [none])[i]? = some (some a) → A[i]? = some (some a) := fun i a h => by
    rcases Nat.lt_or_ge i A.length with q | q
    · rwa [List.getElem?_append_left q] at h
    · rw [List.getElem?_append_right q] at h
      have := List.mem_of_getElem? h
      simp at this
  have hback : ∀ (i : Nat) (a : Addr), A[i]? = some (some a) → (A ++ [none])[i]? = some (some a) := fun i a h => by
    rw [List.getElem?_append_left (List.getElem?_eq_some_iff.mp h).1]; exact h
  refine ⟨W, A ++ [none], args ++ [.d (.int d)], Q0, by rw [List.length_append, hl]; rfl, by rw [List.map_append, List.map_append]; exact enr_int hE d, fun i a hi => hA i a (hgt i a hi), hg, fun s os q v H' W' bk rt => hk s os q v H' W' ⟨fun b o e hn => bk.old b o e fun z => hn ?_, bk.there, bk.up, bk.fr, fun i hi a ha => bk.io i hi a (hback i a ha)⟩ rt⟩
  rcases List.mem_append.mp z with y | y
  · exact y
  · simp at y
/-- what arguments read -/
def QP (X : Cx) (t : TDA) (ta : TA) : Prop := ∀ (σ : L2.St) (H : Hp) (W : List Addr) (A : List (Option Addr)) (env : En) (Q : List V → Hp → Prop) (Qd : List Rv → En → Prop), EnR X.K H W A env σ → t env Qd →
  (∀ vs H' W' env' rvs, EnR X.K H' W' A env' σ → Stp A H W H' W' → RvRs X.K H' W' A H W rvs vs → Qd rvs env' → Q vs H') → ta σ H Q
def QE (X : Cx) (t : TD) (ta : TE) : Prop := ∀ (σ : L2.St) (H : Hp) (W : List Addr) (A : List (Option Addr)) (env : En) (Q : VK) (Qd : Rv → En → Prop), EnR X.K H W A env σ → t env Qd →
  (∀ v H' W' env' rv, EnR X.K H' W' A env' σ → Stp A H W H' W' → RvR X.K H W H' W' A rv v → Qd rv env' → Q v H') → ta σ H Q
theorem qp_nil {X : Cx} : QP X tdNil tNil := fun σ H W A env Q Qd E ht k => k [] H W env [] E .refl .nil ht
theorem qp_cons {X : Cx} {ta : TD} {u : TDA} {t1 : TE} {t2 : TA} (q1 : QE X ta t1) (q2 : QP X u t2) : QP X (tdCons ta u) (tCons t1 t2) := fun σ H W A env Q Qd E ht k => by
  refine q1 σ H W A env _ _ E ht fun x H1 W1 env1 rx E1 S1 R1 h1 => ?_
  refine q2 σ H1 W1 A env1 _ _ E1 h1 fun xs H2 W2 env2 rxs E2 S2 R2 h2 => ?_
  refine k (x :: xs) H2 W2 env2 (rx :: rxs) E2 (S1.trans S2) (.cons (R1.step S2 E1.ain E.ain) (fun p s e1 e2 => ?_) S1 R2) h2
  subst e1
  obtain ⟨p', e3, _, m, _⟩ := R1
  rw [e2] at e3; cases e3
  exact m
section
variable {X : Cx} {N : List Nat × List Nat} {k n : Nat} {f : Addr} {fd : FuncData} {ps : List Str} {g : FD} {x : Str} {p pos : Pos} {e : Expr} {es : List Expr} {ta : TDA}
/-- the keyword-only parameter lacks: its default -/
theorem pd_callDef {d : Int} (F : FnOk X.prog X.w X.K X.mg X.base CX0 k f fd ps (spD X.K N (n + 1) g)) (hr : Room k X.A) (hg : Gl X x) (hm : X.mg x = some (.ref f)) (hk : PySem.W.keepIn X.K (.ref f) = true) (hb : ∃ ds, Vals [V.int d] ds ∧ Binds X.K fd ps ds)
    (ha : PDA X (e :: es) ta) (hN : N.1.length ≤ 1 := by decide) (hdb : (x == ("__debug__" : Str)) = false := by decide) (he : starEach (e :: es) X.env = (false, eval e X.env) :: starEach es X.env := by rfl) (hpl : (backTo pos (starEach es X.env)).any (·.1) = false := by rfl) :
    PD X (.Call (.Name x p) (e :: es) [] pos) (tdCall N n (fun args R => g (args ++ [.d (.int d)]) R) ta) := by
  obtain ⟨ds, hd, hb⟩ := hb
  obtain ⟨t1, p1, q1⟩ := ha
  exact pd_callX (E0 := fun _ _ _ => False) q1 (sp' := fun vs H Q => spD X.K N (n + 1) g (vs ++ [.int d]) H Q fun _ _ _ => False) (fun vs H Q q => spD_ext q) (pe_call F hr hg hm hk hb hd pass0 p1 hdb he hpl) hN
/-- f(e1, e2, k = e3) -/
theorem pd_callKw {e1 e2 e3 : Expr} {kw : Str} {kpos : Pos} {a b c : TD} (F : FnOk X.prog X.w X.K X.mg X.base CX0 k f fd ps (spD X.K N 3 g)) (hr : Room k X.A) (hg : Gl X x) (hm : X.mg x = some (.ref f)) (hk : PySem.W.keepIn X.K (.ref f) = true)
    (hb : KBn X.K fd ps 2 [kw] (fun us ws => us ++ ws) (fun vs zs => vs ++ zs)) (h1 : PD X e1 a) (h2 : PD X e2 b) (h3 : PD X e3 c) (hN : N.1.length ≤ 1 := by decide)
    (hall : (backToKw pos (keywordEach [⟨some kw, e3, kpos⟩] X.env)).all (·.1.isSome) = true := by rfl) (hks : (backToKw pos (keywordEach [⟨some kw, e3, kpos⟩] X.env)).filterMap (·.1) = [kw] := by rfl)
    (hdb : (x == ("__debug__" : Str)) = false := by decide) (he : starEach [e1, e2] X.env = (false, eval e1 X.env) :: starEach [e2] X.env := by rfl) (he2 : starEach [e2] X.env = (false, eval e2 X.env) :: starEach [] X.env := by rfl)
    (hpl : ((backTo pos (starEach [e1, e2] X.env)).any (·.1) || (backToKw pos (keywordEach [⟨some kw, e3, kpos⟩] X.env)).any (·.1.isNone)) = false := by rfl) :
    PD X (.Call (.Name x p) [e1, e2] [⟨some kw, e3, kpos⟩] pos) (tdCall N 3 g (tdCons a (tdCons b (tdCons c tdNil)))) := by
  obtain ⟨t1, p1, q1⟩ := h1
  obtain ⟨t2, p2, q2⟩ := h2
  obtain ⟨t3, p3, q3⟩ := h3
  have P := pe_callN (p := p) (CX := CX0) (E := fun _ _ _ => False) F hr hg hm hk hb pass0 (pa_cons p1 (pa_cons p2 pa_nil he2) he) (pk_cons p3 pk_nil) hall hks hdb he hpl
  refine pd_callX (E0 := fun _ _ _ => False) (t1 := tCons t1 (tCons t2 (tCons t3 tNil))) (qp_cons q1 (qp_cons q2 (qp_cons q3 qp_nil))) (sp' := fun vs H Q => (vs.take 2).length = 2 ∧ (vs.drop 2).length = [kw].length ∧ spD X.K N 3 g (vs.take 2 ++ vs.drop 2) H Q fun _ _ _ => False) (fun vs H Q q => ?_) P hN
  have hl := spD_len q
  exact ⟨by rw [List.length_take]; omega, by rw [List.length_drop]; simp; omega, by rw [List.take_append_drop]; exact q⟩
/-- [e, ..] * n -/
def tdRepE (t : TDA) (tn : TD) : TD := fun env Q => t env fun rvs env1 => match resAll rvs with
  | some xs => xs.length ≤ sizeLine ∧ tn env1 fun rv env2 => match res env2 rv with
    | some (.int n) => -(2 ^ 63) ≤ n ∧ n < 2 ^ 63 ∧ xs.length * n.toNat ≤ sizeLine ∧ Q (.n (.l (List.replicate n.toNat xs).flatten)) env2
    | _ => False
  | none => False
theorem pd_repE {es : List Expr} {t : TDA} {tn : TD} {e2 : Expr} {p1 : Pos} (h : PDA X es t) (hn : PD X e2 tn) : PD X (.BinOp (.List es p1) .Mult e2 pos) (tdRepE t tn) := by
  obtain ⟨t1, a1, q1⟩ := h
  obtain ⟨t2, a2, q2⟩ := hn
  refine ⟨_, pe_op op_rep (pe_lst a1) a2, fun σ H W A env Q Qd E ht k => ?_⟩
  refine q1 σ H W A env _ _ E ht fun vs H1 W1 env1 rvs E1 S1 R1 h1 => ?_
  split at h1
  · rename_i xs ex
    obtain ⟨W', s1, s2, d⟩ := R1.keep ex
    have E' := E1.sub s1 fun a ha => s2 a (E1.ain a ha) (E.ain a ha)
    have S' := S1.sub s1 s2
    refine ⟨by rw [d.len]; exact h1.1, fun p hp => ?_⟩
    have g1 : Grow H1 W' (upd H1 p (.lst vs)) (p :: W') := grow_own hp
    have pA : some p ∉ A := fun z => E'.trk p (E'.ain p z) hp
    refine q2 σ _ (p :: W') A env1 _ _ (g1.en E') h1.2 fun u H2 W2 env2 rv E2 S2 R2 h2 => ?_
    split at h2
    · rename_i n en
      have hv := (Dq.of_rv E2 R2 en).int
      have hl : H2 p = some (.lst vs) := S2.ext p _ upd_same pA
      refine ⟨p, n, vs, rfl, hv, hl, h2.1, h2.2.1, by rw [d.len]; exact h2.2.2.1, fun l hl2 => ?_⟩
      have d1 : DpAll X.K (HW (upd H1 p (.lst vs)) (p :: W')) vs xs := dpa_mono ((g1.stp (A := A)).same E'.ain) _ d
      have d2 : DpAll X.K (HW H2 W2) vs xs := dpa_mono (S2.same (g1.en E').ain) _ d1
      exact (fin_up E2 ((S'.trans g1.stp).trans S2) k).lst E2.trk hl2 (dpa_flat d2 n.toNat) h2.2.2.2
    · exact h2.elim
  · exact h1.elim
/-- a statement that is never reached -/
def tdNever : TDS := fun _ _ => False
end
end DL

set_option Elab.async false
set_option linter.all false
set_option maxRecDepth 100000
set_option maxHeartbeats 4000000
set_option autoImplicit false
namespace SrtO
open PySem PyProof.Rows Srt
section
variable {prog : Program} {w : World} {A : Around} {E : Value → Shared → Prop} {s : Shared}
theorem collect_tuple {l : Addr} {vs : List Value} {Q : List Value → Shared → Prop} (hl : s.heap.IsTuple l vs.toArray)
    (h : Q vs { s with heap := (s.heap.push (seqObj "list" #[] 0)).update s.heap.objs.size (Obj.mapSeq (· ++ vs.toArray)) }) (hsz : vs.length ≤ sizeLine) :
    wpAny (model prog w) A (collect (.ref l)) Q E s := by
  obtain ⟨o, ho, hc, n, hd⟩ := id hl
  unfold collect
  refine wpAny_bind (wpAny_runValue (codeAny_builtin entry_proto_collect' ?_))
  show wpAny _ _ (do again (.builtin "list.__iadd__" ⟨[← newList [], .ref l], []⟩)) _ _ s
  refine wpAny_bind (wpAny_newList (wpAny_pure ⟨Code.quiet_builtin _ (by decide +kernel), codeAny_builtin entry_list_iadd' ?_⟩))
  show wpAny _ _ (Builtin.List.listExtendWith (.ref s.heap.objs.size) (.ref l) (.ref s.heap.objs.size)) _ _ { s with heap := s.heap.push (seqObj "list" #[] 0) }
  unfold Builtin.List.listExtendWith
  have ho' : (s.heap.push (seqObj "list" #[] 0)).get? l = some o := Heap.get?_push_of_some _ ho
  refine wpAny_bind (wpAny_typeOf (T := "tuple") ⟨o, ho', hc⟩ ?_)
  have ht : (Value.type "tuple" == Value.type "tuple") = true := by rfl
  rw [if_pos (by rw [ht]; simp)]
  refine wpAny_bind (listItems_at ho' hd ?_)
  refine wpAny_bind (listItems_at (xs := #[]) (n := 0) (Heap.get?_push_size _ rfl) rfl ?_)
  rw [if_neg (by simp)]
  refine wpAny_bind (listUpdate_at (xs := #[]) (n := 0) (Heap.get?_push_size _ rfl) rfl ?_ (Nat.zero_le _) (by show (#[] ++ vs.toArray).size ≤ sizeLine + 1; simp only [Array.size_append, List.size_toArray, List.length_nil]; omega))
  refine wpAny_pure ?_
  show wpAny (model prog w) A (do
      let o ← load s.heap.objs.size
      match o.data with
      | .seq xs _ => pure xs.toList
      | _ => unsupported "internal:collect") Q E { s with heap := (s.heap.push (seqObj "list" #[] 0)).update s.heap.objs.size (Obj.mapSeq (· ++ vs.toArray)) }
  refine wpAny_bind (wpAny_load (get?_update_seq (Heap.get?_push_size _ rfl) _) ?_)
  show wpAny _ _ (pure ((#[] : Array Value) ++ vs.toArray).toList) Q E _
  rw [show ((#[] : Array Value) ++ vs.toArray).toList = vs by simp]
  exact wpAny_pure h
theorem sorted_ordT {l : Addr} {vs : List Value} {ltv : Value → Value → Bool} {Q : Value → Shared → Prop} (O : Swo ltv) (hl : s.heap.IsTuple l vs.toArray) (hz : vs.length ≤ sizeLine)
    (hS : 2 ≤ vs.length → ∀ (h₁ : Heap) (a : Addr), h₁.get? a = some (seqObj "list" vs.toArray 0) → (∀ b o, s.heap.get? b = some o → b ≠ a ∧ h₁.get? b = some o) → SortableO prog w A.in1.in1 { s with heap := h₁ } a vs ltv)
    (h : ∀ out : List Value, Srtd ltv out → Stb ltv out vs → Q (.ref (s.heap.objs.size + 1)) { s with heap := sortedAll s.heap vs out.toArray }) :
    wpAny (model prog w) A (call (.builtin "sorted") [.ref l]) Q E s := by
  refine Calls.call_function_entry kind_sorted plain_sorted entry_sorted (args_sorted1 _) ?_
  unfold Builtin.«sorted»
  refine wpAny_bind (m := checkCount "sorted" 1 1 _) (wpAny_pure ?_)
  refine wpAny_bind (collect_tuple hl ?_ hz)
  refine wpAny_bind (wpAny_newList ?_ hz)
  have hsz : ((s.heap.push (seqObj "list" #[] 0)).update s.heap.objs.size (Obj.mapSeq (· ++ vs.toArray))).objs.size = s.heap.objs.size + 1 := by
    rw [Heap.size_update, size_push']
  have hoL : (((s.heap.push (seqObj "list" #[] 0)).update s.heap.objs.size (Obj.mapSeq (· ++ vs.toArray))).push (seqObj "list" vs.toArray 0)).get? (s.heap.objs.size + 1) = some (seqObj "list" vs.toArray 0) := by
    rw [← hsz]; exact Heap.get?_push_size _ rfl
  have keep : ∀ b o, s.heap.get? b = some o → b ≠ s.heap.objs.size + 1 ∧ (((s.heap.push (seqObj "list" #[] 0)).update s.heap.objs.size (Obj.mapSeq (· ++ vs.toArray))).push (seqObj "list" vs.toArray 0)).get? b = some o := fun b o q => by
    have hlt : b < s.heap.objs.size := Heap.lt_size q
    refine ⟨Nat.ne_of_lt (Nat.lt_succ_of_lt hlt), Heap.get?_push_of_some _ ?_⟩
    rw [Heap.get?_update_ne _ _ _ _ (Nat.ne_of_lt hlt)]
    exact Heap.get?_push_of_some _ q
  show wpAny _ _ _ _ _ { s with heap := ((s.heap.push (seqObj "list" #[] 0)).update s.heap.objs.size (Obj.mapSeq (· ++ vs.toArray))).push (seqObj "list" vs.toArray 0) }
  rw [hsz]
  refine wpAny_bind (wpAny_holding (wpAny_call_entry slot_list_sort ⟨_, hoL, rfl⟩ entry_list_sort (list_sort_ord O hoL hz (fun h2 => hS h2 _ _ hoL keep) fun out hs hb => ⟨_, rfl, ?_⟩) (args_list_sort _)))
  exact wpAny_pure ⟨_, rfl, h out hs hb⟩
end
end SrtO
namespace DL
open PySem PySem.Spec PySem.W L2 PyProof.Rows PyProof.V
/-! ### sorted of a list or of a tuple of ints -/
def rSortedA (K : PySem.W.Frag) : List V → Hp → VK → Prop := fun vs H Q => ∃ (a : Addr) (ns : List Int), vs = [V.ref a] ∧ ns.length ≤ 1000 ∧ (SqL K H a (ns.map V.int) ∨ SqT K H a (ns.map V.int)) ∧
  ∀ (ns' : List Int) (p : Addr), ns'.Perm ns → ns'.Pairwise (· ≤ ·) → H p = none → Q (.ref p) (upd H p (.lst (ns'.map V.int)))
theorem cr_sortedA {X : Cx} : CallR X (.builtin "sorted") (rSortedA X.K) := by
  intro pins s σ H vs us Q I r h
  obtain ⟨a, ns, rfl, hn, hs, q⟩ := h
  rcases hs with hs | hs
  · exact cr_sortedI pins s σ H _ us Q I r ⟨a, ns, rfl, hs, q⟩
  · obtain ⟨its, rv, hl, _⟩ := I.tuple hs
    have hz : its.length ≤ sizeLine := by rw [← rv.length, List.length_map]; exact Nat.le_trans hn (by decide)
    rw [Vals.ref1 r]
    have hi : IntsAre its ns := rv.ints
    have hl2 : s.heap.IsTuple a its.toArray := hl
    refine SrtO.sorted_ordT SrtO.swo_int hl2 hz (fun h2 h₁ a' _ _ => SrtO.ints_sortable hi h2) fun out h1 h2 => ?_
    obtain ⟨k1, k2, k3⟩ := SrtO.ints_out hi h1 h2
    obtain ⟨ep, he'⟩ := PyProof.Rows.sortedAll_at s.heap its out.toArray
    have hlen : ((out.map SrtO.iv).map V.int).length ≤ sizeLine := by
      rw [List.length_map, k2.length_eq]
      exact Nat.le_trans hn (by decide)
    exact ⟨.ref _, upd H (s.heap.objs.size + 1) (.lst ((out.map SrtO.iv).map V.int)), I.laid (t' := s.toks) (fun _ _ => PyProof.Rows.sortedAll_old) (Nat.le_succ _) ⟨hlen, out, ep, vals_of_ints k1, he'⟩, rfl, q _ _ k2 k3 (I.hok.fresh (Nat.le_succ _))⟩
def rdSortedA : List PyData → (Rv → Prop) → Prop
  | [.list xs], Q => ∃ ns : List Int, xs = ns.map PyData.int ∧ ns.length ≤ 1000 ∧ ∀ ms : List Int, ms.Perm ns → ms.Pairwise (· ≤ ·) → Q (.n (.l (ms.map PyData.int)))
  | [.tuple xs], Q => ∃ ns : List Int, xs = ns.map PyData.int ∧ ns.length ≤ 1000 ∧ ∀ ms : List Int, ms.Perm ns → ms.Pairwise (· ≤ ·) → Q (.n (.l (ms.map PyData.int)))
  | _, _ => False
theorem bd_sortedA {X : Cx} : BD X (.builtin "sorted") rdSortedA := by
  refine ⟨_, cr_sortedA, fun H W vs xs Q Qd hw r q k => ?_⟩
  unfold rdSortedA at q
  split at q
  · obtain ⟨v, rfl, p, ws, rfl, s, d⟩ := dqall1 r
    obtain ⟨ns, rfl, hn, q⟩ := q
    rw [d.ints] at s
    exact ⟨p, ns, rfl, hn, .inl s, fun ms l h1 h2 hl => k.lst hw hl (.of_ints ms) (q ms h1 h2)⟩
  · obtain ⟨v, rfl, d⟩ := dqall1 r
    obtain ⟨ns, rfl, hn, q⟩ := q
    cases d with
    | tup s d =>
      rw [d.ints] at s
      exact ⟨_, ns, rfl, hn, .inr (same_t hw_same s), fun ms l h1 h2 hl => k.lst hw hl (.of_ints ms) (q ms h1 h2)⟩
  · exact q.elim
end DL

set_option Elab.async false
set_option linter.all false
set_option maxRecDepth 100000
set_option maxHeartbeats 4000000
set_option autoImplicit false
namespace DL
open PySem PySem.Spec PySem.W L2 PyProof.Rows PyProof.V
/-! ### max of one list or of one tuple of ints -/
theorem depth_ints : ∀ ns : List Int, PyData.depthAll (ns.map .int) = 0
  | [] => rfl
  | n :: r => by
    show max (PyData.depth (.int n)) (PyData.depthAll (r.map .int)) = 0
    rw [depth_ints r]
    rfl
theorem alike_ints2 (ns : List Int) : AlikeAll (ns.map PyData.int) := ⟨fun x hx y hy => by
  obtain ⟨a, _, rfl⟩ := List.mem_map.mp hx
  obtain ⟨b, _, rfl⟩ := List.mem_map.mp hy
  rfl, fun x hx => by
  obtain ⟨a, _, rfl⟩ := List.mem_map.mp hx
  simp⟩
theorem foldl_max : ∀ (ns : List Int) (n : Int), ns.foldl max n ∈ n :: ns ∧ ∀ y ∈ n :: ns, y ≤ ns.foldl max n
  | [], n => ⟨by simp, fun y hy => by rw [List.mem_singleton.mp hy]; exact Int.le_refl _⟩
  | k :: r, n => by
    obtain ⟨h1, h2⟩ := foldl_max r (max n k)
    rw [List.foldl_cons]
    refine ⟨?_, fun y hy => ?_⟩
    · rcases List.mem_cons.mp h1 with q | q
      · rw [q]
        by_cases c : n ≤ k
        · rw [show max n k = k by omega]; simp
        · rw [show max n k = n by omega]; simp
      · simp [q]
    · have h3 := h2 (max n k) List.mem_cons_self
      simp only [List.mem_cons] at hy
      rcases hy with rfl | rfl | hy
      · omega
      · omega
      · exact h2 y (List.mem_cons_of_mem _ hy)
def rMaxA (K : PySem.W.Frag) : List V → Hp → VK → Prop := fun vs H Q => ∃ (a : Addr) (ns : List Int), vs = [V.ref a] ∧ (SqL K H a (ns.map V.int) ∨ SqT K H a (ns.map V.int)) ∧ 0 < ns.length ∧ ∀ m, m ∈ ns → (∀ y, y ∈ ns → y ≤ m) → Q (.int m) H
theorem cr_maxA {X : Cx} (hc : X.calm = true) (hu : X.A.units + 1 < cLine) : CallR X (.builtin "max") (rMaxA X.K) := by
  intro pins s σ H vs us Q I r h
  obtain ⟨a, ns, rfl, hs, h0, q⟩ := h
  rcases hs with hs | hs
  · exact cr_max hc pins s σ H _ us Q I r ⟨a, ns, rfl, hs, h0, q⟩
  · obtain ⟨its, rv, hl, _⟩ := I.tuple hs
    rw [Vals.ref1 r]
    have hi : IntsAre its ns := rv.ints
    have hl2 : s.heap.IsTuple a its.toArray := hl
    cases ns with
    | nil => simp at h0
    | cons n ns =>
      have hr : ReadsAll s.heap its.toArray.toList (.int n :: ns.map .int) [] := hi.reads s.heap
      have ha : AlikeAll (.int n :: ns.map PyData.int) := alike_ints2 (n :: ns)
      have hd : PyData.depthAll (.int n :: ns.map PyData.int) = 0 := depth_ints (n :: ns)
      refine max_tuple_data (I.ok.hd hc) hl2 hr ha (by rw [hd]; exact hu) fun i v h' tk bs hv hrd hk => ?_
      rw [maxD_ints] at hrd
      obtain ⟨h1, h2⟩ := foldl_max ns n
      cases hrd with
      | int _ t => exact ⟨.int _, H, I.kept hk, ⟨_, rfl⟩, q _ h1 h2⟩
def rdMaxA : List PyData → (Rv → Prop) → Prop
  | [.list xs], Q => ∃ ns : List Int, xs = ns.map .int ∧ 0 < ns.length ∧ ∀ m, m ∈ ns → (∀ y, y ∈ ns → y ≤ m) → Q (.d (.int m))
  | [.tuple xs], Q => ∃ ns : List Int, xs = ns.map .int ∧ 0 < ns.length ∧ ∀ m, m ∈ ns → (∀ y, y ∈ ns → y ≤ m) → Q (.d (.int m))
  | _, _ => False
theorem bd_maxA {X : Cx} (hc : X.calm = true) (hu : X.A.units + 1 < cLine) : BD X (.builtin "max") rdMaxA := by
  refine ⟨_, cr_maxA hc hu, fun H W vs xs Q Qd hw r q k => ?_⟩
  unfold rdMaxA at q
  split at q
  · obtain ⟨v, rfl, p, ws, rfl, s, d⟩ := dqall1 r
    obtain ⟨ns, rfl, h0, q⟩ := q
    rw [d.ints] at s
    exact ⟨p, ns, rfl, .inl s, h0, fun m h1 h2 => k.int (q m h1 h2)⟩
  · obtain ⟨v, rfl, d⟩ := dqall1 r
    obtain ⟨ns, rfl, h0, q⟩ := q
    cases d with
    | tup s d =>
      rw [d.ints] at s
      exact ⟨_, ns, rfl, .inr (same_t hw_same s), h0, fun m h1 h2 => k.int (q m h1 h2)⟩
  · exact q.elim
/-! ### xs.insert(i, y) -/
def rdInsert : List PyData → List PyData → (PyData → List PyData → Prop) → Prop
  | xs, [.int i, y], Q => xs.length < sizeLine ∧ (0 ≤ i ∧ i < 2 ^ 63) ∧ Q .none (xs.take i.toNat ++ [y] ++ xs.drop i.toNat)
  | _, _, _ => False
theorem md_insert {X : Cx} : MD X "list.insert" rdInsert := by
  refine ⟨_, mt_insert, fun H W a vs ws xs ys Q Qd h d dw q k => ?_⟩
  unfold rdInsert at q
  split at q
  · obtain ⟨q1, q2, q3⟩ := q
    cases dw with
    | cons d1 d2 =>
      cases d2 with
      | cons d2 d3 =>
        cases d3
        cases d1
        exact ⟨a, vs, _, _, rfl, rfl, h, by rw [d.len]; exact q1, q2.1, q2.2, k .non .none _ _ .non (((d.take _).app (.cons d2 .nil)).app (d.drop _)) q3⟩
  · exact q.elim
end DL

set_option Elab.async false
set_option linter.all false
set_option maxRecDepth 100000
set_option maxHeartbeats 4000000
set_option autoImplicit false
namespace DL
open PySem PySem.Spec L2 PyProof.Rows
/-! ### {k: v for ..} held by a name of the def, d[k], k in d -/
def tdDc (ti : TDI) (g : TDC) (tt : TDT) (tk tv : TD) (vs : List Nat) : TD := fun env Q => ti env fun xs env1 => ∃ Pv : Nat → List (Key × PyData) → En → Prop, Pv 0 [] env1 ∧
  (∀ i x acc env, xs[i]? = some x → Pv i acc env → noOwn env vs ∧ g x (wipeE env vs) fun env2 => tt env2 fun b env3 => if b = true then tk env3 fun rk env4 => tv env4 fun rv env5 => (match res env5 rk, rvD rv with
    | some y, some z => (match keyD y with
      | some k => acc.length < sizeLine ∧ Pv (i + 1) (putD acc k z) (mergeE env env5 vs)
      | none => False)
    | _, _ => False) else Pv (i + 1) acc (mergeE env env3 vs)) ∧
  ∀ acc env, Pv xs.length acc env → Q (.n (.m acc)) env
def tdGetM (i : Nat) (tk : TD) : TD := fun env Q => match env[i]? with
  | some (some (.m _)) => tk env fun rk env1 => match env1[i]?, res env1 rk with
    | some (some (.m kvs)), some y => (match keyD y with
      | some k => (match valD kvs k with
        | some z => Q (.d z) env1
        | none => False)
      | none => False)
    | _, _ => False
  | _ => False
def tdInM (i : Nat) (tk : TD) : TD := fun env Q => tk env fun rk env1 => match env1[i]?, res env1 rk with
  | some (some (.m kvs)), some y => (match keyD y with
    | some k => Q (.d (.bool (valD kvs k).isSome)) env1
    | none => False)
  | _, _ => False
section
variable {X : Cx} {T : List Nat} {tg iter kx vx o idx : Expr} {ifs : List Expr} {scope : Scope} {own : List (Str × Nat)} {pos spos : Pos} {ti : TDI} {g : TDC} {tt : TDT} {tk tv : TD} {i : Nat}
theorem dc_go {wi : TI} {σ : L2.St} {H : Hp} {W : List Addr} {A : List (Option Addr)} {env : En} {Q : VK} {Qd : Rv → En → Prop} {vs : List Nat} (hT : ∀ i, i ∈ T → i ∈ vs)
    (q1 : ∀ (σ : L2.St) (H : Hp) (W : List Addr) (A : List (Option Addr)) (env : En) (R : It → Hp → Prop) (Qd : List PyData → En → Prop), EnR X.K H W A env σ → ti env Qd → (∀ J H' W' env' xs, EnR X.K H' W' A env' σ → Stp A H W H' W' → Walk X.K J (HW H' W') xs → Qd xs env' → R J H') → wi σ H R)
    (E : EnR X.K H W A env σ) (ht : tdDc ti g tt tk tv vs env Qd) (k : ∀ v H' W' env' rv, EnR X.K H' W' A env' σ → Stp A H W H' W' → RvR X.K H W H' W' A rv v → Qd rv env' → Q v H') :
    tDc wi (upG X.K T g) (upT X.K tt) (upE X.K tk) (upE X.K tv) vs σ H Q := by
  refine q1 σ H W A env _ _ E ht fun J H1 W1 env1 xs E1 S1 Wk h1 => ?_
  obtain ⟨Pv, h0, hs, hd⟩ := h1
  intro D hD
  have nDA : some D ∉ A := fun z => E1.trk D (E1.ain D z) hD
  have nDW : D ∉ W1 := fun z => E1.trk D z hD
  have g0 : Grow H1 W1 (upd H1 D (.dK [])) (D :: W1) := grow_own hD
  refine ⟨fun i m H2 => m = xs.length - i ∧ i ≤ xs.length ∧ ∃ W2 env2 acc accV, EnR X.K H2 W2 A env2 σ ∧ D ∈ W2 ∧ H2 D = some (.dK accV) ∧ DP X.K (HW H2 W2) accV acc ∧ Stp A H1 W1 H2 W2 ∧ Pv i acc env2,
    ⟨_, rfl, Nat.zero_le _, D :: W1, env1, [], [], g0.en E1, List.mem_cons_self, upd_same, .nil, g0.stp, h0⟩, ?_⟩
  rintro i m H2 ⟨rfl, hle, W2, env2, acc, accV, E2, hDW, hDl, dacc, S2, hP⟩
  obtain ⟨wg, ws⟩ := Wk H2 W2 (S2.same E1.ain) E2.trk i
  by_cases hlt : i < xs.length
  · obtain ⟨go, yl⟩ := wg xs[i] (by simp [hlt])
    refine .inr ⟨go, fun H' => ∃ W2 env2 acc accV, EnR X.K H' W2 A env2 σ ∧ D ∈ W2 ∧ H' D = some (.dK accV) ∧ DP X.K (HW H' W2) accV acc ∧ Stp A H1 W1 H' W2 ∧ Pv (i + 1) acc env2, fun H' q => ⟨xs.length - (i + 1), by omega, rfl, hlt, q⟩, fun v H3 y => ?_⟩
    obtain ⟨gr, dv⟩ := yl v H3 y
    obtain ⟨hno, hg⟩ := hs i xs[i] acc env2 (by simp [hlt]) hP
    have E3 := (gr.en E2)
    refine ⟨W2, A, wipeE env2 vs, xs[i], _, E3.wipe hno, dv, hg, fun σ4 env4 E4 w4 h4 => ?_⟩
    have hw4 : L2.wipe σ4 vs = L2.wipe σ vs := by
      rw [w4 vs hT]
      exact wipe_eq (fun j hj => by rw [wipe_get]; simp [hj]) (wipe_length _ _)
    refine ⟨hw4, W2, A, env4, _, E4, h4, fun b H5 W5 env5 E5 S5 h5 => ?_⟩
    have Sg : Stp A H2 W2 H5 W5 := gr.stp.trans S5
    have keepD : ∀ {H6 : Hp} {W6 : List Addr}, Stp A H2 W2 H6 W6 → H6 D = some (.dK accV) ∧ D ∈ W6 ∧ DP X.K (HW H6 W6) accV acc := fun {H6 W6} S => ⟨S.ext D _ hDl nDA, S.up D hDW, dp_in (dp_out dacc).1 (S.dpa E2.ain (dp_out dacc).2)⟩
    cases b with
    | false =>
      obtain ⟨k1, k2, k3⟩ := keepD Sg
      exact ⟨W5, _, acc, accV, E2.merge E5 Sg hw4 hno, k2, k1, k3, S2.trans Sg, h5⟩
    | true =>
      refine ⟨W5, A, env5, _, E5, h5, fun u H6 W6 env6 rk E6 S6 R6 h6 => ?_⟩
      refine ⟨W6, A, env6, _, E6, h6, fun z H7 W7 env7 rv E7 S7 R7 h7 => ?_⟩
      split at h7
      · rename_i y x ey ex
        split at h7
        · rename_i key ek
          have Sg6 := Sg.trans S6
          have Sg7 := Sg6.trans S7
          obtain ⟨W8, s1, s2, d⟩ := R7.keepD S7 ex
          have hy := keyD_v ek (Dq.of_rv E7 (R6.step S7 E6.ain E5.ain) ey)
          subst hy
          obtain ⟨k1, k2, k3⟩ := keepD Sg7
          have hD8 : D ∈ W8 := s2 D k2 (Sg6.up D hDW)
          have S8 : Stp A H2 W2 H7 W8 := Sg7.sub s1 fun q hq hq0 => s2 q hq (Sg6.up q hq0)
          have E8 := E7.sub s1 fun a ha => s2 a (E7.ain a ha) (E6.ain a ha)
          have E9 := E2.merge E8 S8 hw4 hno
          refine ⟨accV, key, rfl, k1, by rw [dp_len k3]; exact h7.1, W8, _, putD acc key x, putK accV key z, ?_, hD8, upd_same, ?_, ?_, h7.2⟩
          · exact E9.hid hD8 nDA
          · rw [hw_upd hD8]
            exact dp_put key d (dp_in (dp_out k3).1 (dpa_mono (sub_same s1) _ (dp_out k3).2))
          · have S9 := S2.trans S8
            refine ⟨fun b o h n => ?_, fun b h => ?_, S9.up, fun p hp => ?_⟩
            · have c : b ≠ D := fun z => by rw [z, hD] at h; cases h
              rw [upd_ne c]
              exact S9.ext b o h n
            · by_cases c : b = D
              · rw [c, upd_same]; simp
              · rw [upd_ne c]; exact S9.there b h
            · rcases S9.fr p hp with z | z
              · exact .inl z
              · refine .inr ⟨z.1, ?_⟩
                by_cases c : p = D
                · rw [c, upd_same]; simp
                · rw [upd_ne c]; exact z.2
        · exact h7.elim
      · exact h7.elim
  · have e : i = xs.length := by omega
    subst e
    refine .inl ⟨ws (Nat.le_refl _), ?_⟩
    refine k (.ref D) H2 W2 env2 (.n (.m acc)) E2 (S1.trans S2) ⟨D, rfl, S1.back hD, hDW, fun z => nDW (S1.up D z), accV, hDl, (dp_out dacc).1, (dp_out dacc).2⟩ (hd acc env2 hP)
/-- name = {..} on one line, the name a local -/
theorem ps_setDc {i : Nat} {y : Str} {py : Pos} {wi : TI} {g : TG} {tt : TT} {tk tv : TE} (hc : X.calm = true) (hN : X.N.Nodup) (hy : X.N[i]? = some y) (hyl : X.env.scope.names.lookup y = some .local)
    (hsw : swapsWith (.DictComp kx vx [⟨tg, iter, ifs, 0⟩] scope pos) (some (.Name y py)) spos.line X.env = pure true) (hi : PI X tg iter wi) (ok : BlkOk X.N X.env.scope scope own)
    (hg : ∀ (s : Shared) (H : Hp) (C : Addr) (cl : List (Str × Addr)) (fp : List Addr), PG (X.blk s H scope (compEnvC scope cl C X.env) fp) tg g) (ht : ∀ (s : Shared) (H : Hp) (C : Addr) (cl : List (Str × Addr)) (fp : List Addr), PTs (X.blk s H scope (compEnvC scope cl C X.env) fp) ifs tt)
    (hk : ∀ (s : Shared) (H : Hp) (C : Addr) (cl : List (Str × Addr)) (fp : List Addr), PE (X.blk s H scope (compEnvC scope cl C X.env) fp) kx tk)
    (he : ∀ (s : Shared) (H : Hp) (C : Addr) (cl : List (Str × Addr)) (fp : List Addr), PE (X.blk s H scope (compEnvC scope cl C X.env) fp) vx tv) (hs : ∀ x, foldedSetIterable iter X.env x = pure x := by intro _; rfl) :
    PS X (.Assign [.Name y py] (.DictComp kx vx [⟨tg, iter, ifs, 0⟩] scope pos) spos) (tAsg (tDc wi g tt tk tv (own.map (·.2))) (gName i)) := by
  refine ⟨fun pins s σ H D I h => ?_⟩
  rw [exec_Assign_Name_used _ _ _ _ hsw]
  refine wpAny_bind (wpAny_standAt (wpAny_bind ?_))
  show wpAny _ X.A (do let _ ← comprehension (.DictComp kx vx [⟨tg, iter, ifs, 0⟩] scope pos) scope X.env (firstIterPos [⟨tg, iter, ifs, 0⟩] pos) newDict false (eval iter X.env) (some (assign (.Name y py) X.env))) _ _ s
  have h : tDc wi g tt tk tv (own.map (·.2)) σ H (fun x H1 => gName i x σ H1 D.nx) := h
  refine wpAny_bind (thn (dc_core (Qf := fun _ s' => SP X pins D .next s') hc hN I hi ok hg ht hk he hs h fun L C s' m H' I' q hn f => ?_) fun _ s' hq => wpAny_pure (wpAny_pure hq))
  show wpAny _ _ (assign (.Name y py) X.env (.ref L)) _ _ _
  refine wpAny_assign_Name (store_ok2 (v := V.ref L) I' hN hy (.inl hyl) rfl (fun s2 I2 ⟨a, sb, ha⟩ => ?_) (.inr hyl))
  obtain ⟨f0, f1, f2, f3, f4, f5⟩ := f
  have haC : C ≠ a := by
    rcases ha with z | z
    · rw [z]; exact f1
    · exact fun e => f4 y a z e.symm
  refine ⟨m, hn.sameBut sb haC, fun h3 sb3 => ?_⟩
  exact ⟨_, H', I2.turned (t' := s2.toks) (fun b o hb e => (sb3.2 b hb).trans e) f0 f1 f3 f4 f5, q⟩
theorem sw_trueD {gs : List Comprehension} {py : Pos} {y : Str} {l : Nat} {env : Env} (hk : env.scope.kind = .function) (hy : env.scope.names.lookup y = some .local) (hl : (py.line == pos.line) = true)
    (ha : (scope.names.any fun (n, k) => n == y && (k == .local || k == .cell)) = false) : swapsWith (.DictComp kx vx gs scope pos) (some (.Name y py)) l env = pure true := by
  have ky : env.kindOf y = some .local := hy
  have hb : env.blockKind = .function := by unfold Env.blockKind; rw [hk]; rfl
  unfold swapsWith
  simp only [hb, ky, ha, Expr.pos, hl]
  rfl
theorem psd_setDc {N : List Nat × List Nat} {y : Str} {py : Pos} (hc : X.calm = true) (hN : X.N.Nodup) (hy : X.N[i]? = some y) (hyl : X.env.scope.names.lookup y = some .local)
    (hsw : swapsWith (.DictComp kx vx [⟨tg, iter, ifs, 0⟩] scope pos) (some (.Name y py)) spos.line X.env = pure true) (hi : PDI X tg iter ti) (ok : BlkOk X.N X.env.scope scope own) (hT : ∀ i, i ∈ T → i ∈ own.map (·.2))
    (hg : ∀ (s : Shared) (H : Hp) (C : Addr) (cl : List (Str × Addr)) (fp : List Addr), PDC (X.blk s H scope (compEnvC scope cl C X.env) fp) T tg g) (ht : ∀ (s : Shared) (H : Hp) (C : Addr) (cl : List (Str × Addr)) (fp : List Addr), PDTs (X.blk s H scope (compEnvC scope cl C X.env) fp) ifs tt)
    (hk : ∀ (s : Shared) (H : Hp) (C : Addr) (cl : List (Str × Addr)) (fp : List Addr), PD (X.blk s H scope (compEnvC scope cl C X.env) fp) kx tk)
    (he : ∀ (s : Shared) (H : Hp) (C : Addr) (cl : List (Str × Addr)) (fp : List Addr), PD (X.blk s H scope (compEnvC scope cl C X.env) fp) vx tv) (hM : i ∉ N.1 := by decide) (hs : ∀ x, foldedSetIterable iter X.env x = pure x := by intro _; rfl) :
    PSD X N (.Assign [.Name y py] (.DictComp kx vx [⟨tg, iter, ifs, 0⟩] scope pos) spos) (tdSet i (tdDc ti g tt tk tv (own.map (·.2)))) := by
  obtain ⟨wi, p1, q1⟩ := hi
  refine ⟨_, ps_setDc (g := upG X.K T g) (tt := upT X.K tt) (tk := upE X.K tk) (tv := upE X.K tv) hc hN hy hyl hsw p1 ok hg ht (fun s H C cl fp => (hk s H C cl fp).up) (fun s H C cl fp => (he s H C cl fp).up) hs, fun B D Dd σ H W A env hB R h O => ?_⟩
  have q2 : ∀ (σ : L2.St) (H : Hp) (W : List Addr) (A : List (Option Addr)) (env : En) (Q : VK) (Qd : Rv → En → Prop), EnR X.K H W A env σ → tdDc ti g tt tk tv (own.map (·.2)) env Qd → (∀ v H' W' env' rv, EnR X.K H' W' A env' σ → Stp A H W H' W' → RvR X.K H W H' W' A rv v → Qd rv env' → Q v H') → tDc wi (upG X.K T g) (upT X.K tt) (upE X.K tk) (upE X.K tv) (own.map (·.2)) σ H Q :=
    fun σ H W A env Q Qd E h k => dc_go hT q1 E h k
  refine q2 σ H W A env _ _ R.en h fun v H1 W1 env1 rv E1 S1 R1 h1 => ?_
  have R' := R.step S1 E1
  cases rv with
  | d x => exact O.nx _ H1 W1 _ _ (R'.setD hB hM h1.1 R1) h1.2
  | n s =>
    obtain ⟨p, rfl, h2, h3, h4, h5⟩ := R1
    exact O.nx _ H1 W1 _ _ (R'.setO hB hM h1.1.1 h3 (fun z => h4 (R.en.ain p z)) (back0 R h2) h5 h1.1.2 fun q hq e => by rw [← e, (R.fz q hq).1] at h2; cases h2) h1.2
  | o j => exact h1.elim
theorem pd_dcV {vs : List Nat} (own : List (Str × Nat)) (hv : own.map (·.2) = vs) (hc : X.calm = true) (hN : X.N.Nodup) (hi : PDI X tg iter ti) (ok : BlkOk X.N X.env.scope scope own)
    (hg : ∀ (s : Shared) (H : Hp) (C : Addr) (cl : List (Str × Addr)) (fp : List Addr), PDC (X.blk s H scope (compEnvC scope cl C X.env) fp) vs tg g) (ht : ∀ (s : Shared) (H : Hp) (C : Addr) (cl : List (Str × Addr)) (fp : List Addr), PDTs (X.blk s H scope (compEnvC scope cl C X.env) fp) ifs tt)
    (hk : ∀ (s : Shared) (H : Hp) (C : Addr) (cl : List (Str × Addr)) (fp : List Addr), PD (X.blk s H scope (compEnvC scope cl C X.env) fp) kx tk)
    (he : ∀ (s : Shared) (H : Hp) (C : Addr) (cl : List (Str × Addr)) (fp : List Addr), PD (X.blk s H scope (compEnvC scope cl C X.env) fp) vx tv) (hs : ∀ x, foldedSetIterable iter X.env x = pure x := by intro _; rfl) :
    PD X (.DictComp kx vx [⟨tg, iter, ifs, 0⟩] scope pos) (tdDc ti g tt tk tv vs) := by
  subst hv
  obtain ⟨wi, p1, q1⟩ := hi
  exact ⟨_, pe_dc (g := upG X.K (own.map fun q : Str × Nat => q.2) g) (tt := upT X.K tt) (tk := upE X.K tk) (tv := upE X.K tv) hc hN p1 ok hg ht (fun s H C cl fp => (hk s H C cl fp).up) (fun s H C cl fp => (he s H C cl fp).up) hs, fun σ H W A env Q Qd E h k => dc_go (fun i h => h) q1 E h k⟩
theorem pd_getM (hu : X.A.units + 1 < cLine) (ho : PE X o (tVar i)) (hk : PD X idx tk) (hs : NoSl idx := by exact fun _ _ => rfl) : PD X (.Subscript o idx pos) (tdGetM i tk) := by
  obtain ⟨t1, p1, q1⟩ := hk
  refine ⟨_, pe_dget hu ho p1 hs, fun σ H W A env Q Qd E ht k => ?_⟩
  unfold tdGetM at ht
  split at ht
  · rename_i kvs0 h0
    obtain ⟨a, ws0, ha, hw, hv, h3, h4⟩ := E.dct h0
    refine ⟨_, hv, ?_⟩
    refine q1 σ H W A env _ _ E ht fun y H1 W1 env1 rk E1 S1 R1 h1 => ?_
    split at h1
    · rename_i kvs y' hd ey
      split at h1
      · rename_i key ek
        split at h1
        · rename_i z ez
          obtain ⟨a', ws, ha', hw', hv', h5, h6⟩ := E1.dct hd
          rw [ha] at ha'; cases ha'
          have hy := keyD_v ek (Dq.of_rv E1 R1 ey)
          subst hy
          rcases dp_val key h6 with ⟨e1, e2⟩ | ⟨v, x, e1, e2, dv⟩
          · rw [e2] at ez; cases ez
          · rw [e2] at ez
            cases ez
            exact ⟨a, v, rfl, by have := DGet.k (k := key) h5; rwa [e1] at this, k v H1 W1 env1 (.d z) E1 S1 dv h1⟩
        · exact h1.elim
      · exact h1.elim
    · exact h1.elim
  · exact ht.elim
theorem inM_go {t1 : TE} (q1 : ∀ (σ : L2.St) (H : Hp) (W : List Addr) (A : List (Option Addr)) (env : En) (Q : VK) (Qd : Rv → En → Prop), EnR X.K H W A env σ → tk env Qd → (∀ v H' W' env' rv, EnR X.K H' W' A env' σ → Stp A H W H' W' → RvR X.K H W H' W' A rv v → Qd rv env' → Q v H') → t1 σ H Q)
    (σ : L2.St) (H : Hp) (W : List Addr) (A : List (Option Addr)) (env : En) (Q : VK) (Qd : Rv → En → Prop) (E : EnR X.K H W A env σ) (ht : tdInM i tk env Qd) (k : ∀ v H' W' env' rv, EnR X.K H' W' A env' σ → Stp A H W H' W' → RvR X.K H W H' W' A rv v → Qd rv env' → Q v H') : tDIn t1 (tVar i) σ H Q := by
  refine q1 σ H W A env _ _ E ht fun y H1 W1 env1 rk E1 S1 R1 h1 => ?_
  split at h1
  · rename_i kvs y' hd ey
    split at h1
    · rename_i key ek
      obtain ⟨a, ws, ha, hw, hv, h5, h6⟩ := E1.dct hd
      have hy := keyD_v ek (Dq.of_rv E1 R1 ey)
      subst hy
      refine ⟨_, hv, a, _, rfl, DGet.k h5, ?_⟩
      rcases dp_val key h6 with ⟨e1, e2⟩ | ⟨v, x, e1, e2, dv⟩
      · rw [e1]
        rw [e2] at h1
        exact k (.bl false) H1 W1 env1 (.d (.bool false)) E1 S1 (.bl false) h1
      · rw [e1]
        rw [e2] at h1
        exact k (.bl true) H1 W1 env1 (.d (.bool true)) E1 S1 (.bl true) h1
    · exact h1.elim
  · exact h1.elim
theorem pd_inM (hu : X.A.units + 1 < cLine) (ho : PE X o (tVar i)) (hk : PD X idx tk) (hm : behindInMarks .In o = false := by first | exact nomark _ | rfl) : PD X (.Compare idx [.In] [o] pos) (tdInM i tk) := by
  obtain ⟨t1, p1, q1⟩ := hk
  exact ⟨_, pe_cmp (pc_din hu p1 ho) hm, inM_go q1⟩
theorem pdt_inM (hu : X.A.units + 1 < cLine) (ho : PE X o (tVar i)) (hk : PD X idx tk) (hm : behindInMarks .In o = false := by first | exact nomark _ | rfl) : PDT X (.Compare idx [.In] [o] pos) (tdTest (tdInM i tk)) := by
  obtain ⟨t1, p1, q1⟩ := hk
  refine ⟨_, pt_cmp (pc_din hu p1 ho) hm, fun σ H W A env Q Qd E ht k => ?_⟩
  exact test_go (te := tDIn t1 (tVar i)) (t := tdInM i tk) (inM_go q1) E ht k
end
end DL

set_option Elab.async false
set_option linter.all false
set_option maxRecDepth 100000
set_option maxHeartbeats 4000000
set_option autoImplicit false
namespace RevT
open PySem PySem.Spec PyProof.Rows HT L2
section
variable {prog : Program} {w : World} {A : Around} {E : Value → Shared → Prop} {s : Shared}
theorem adjust_rev (n : Nat) : Builtin.Slice.sliceAdjust none none (-1) (n : Int) = ((n : Int) - 1, -1) := by
  unfold Builtin.Slice.sliceAdjust
  rfl
theorem places_rev (n : Nat) : Builtin.Slice.slicePlaces ((n : Int) - 1) (-1) (-1) = n := by
  unfold Builtin.Slice.slicePlaces
  have h1 : ¬ ((-1 : Int) > 0) := by omega
  simp only [h1, if_false, show -(-1 : Int) = 1 from rfl, Int.ediv_one]
  split <;> omega
theorem fm_congr {α β : Type} {f g : α → Option β} : ∀ {l : List α}, (∀ a ∈ l, f a = g a) → l.filterMap f = l.filterMap g
  | [], _ => rfl
  | a :: r, h => by
    rw [List.filterMap_cons, List.filterMap_cons, h a List.mem_cons_self, fm_congr fun b hb => h b (List.mem_cons_of_mem _ hb)]
theorem sliceApplied_rev {sl : Addr} {vl vu vs : Value} {n : Nat} {Q : Int × Int × Nat → Shared → Prop} (hs : s.heap.IsSliceOf sl vl vu vs) (pl : IsPart vl none) (pu : IsPart vu none) (ps : IsPart vs (some (-1)))
    (h : Q ((n : Int) - 1, -1, n) s) : wpAny (model prog w) A (Builtin.Slice.sliceApplied (.ref sl) (pure (n : Int))) Q E s := by
  obtain ⟨os, hos, hcs, hds⟩ := id hs
  unfold Builtin.Slice.sliceApplied Builtin.Slice.sliceFields
  refine wpAny_bind (wpAny_bind (wpAny_field hos hds (x := vl) rfl (wpAny_bind (wpAny_field hos hds (x := vu) rfl (wpAny_bind (wpAny_field hos hds (x := vs) rfl (wpAny_pure ?_)))))))
  refine wpAny_bind (slicePart_ ps ?_)
  show wpAny _ _ (if ((-1 : Int) == 0) = true then _ else _) _ _ s
  rw [if_neg (by decide)]
  refine wpAny_bind (slicePart_ pl (wpAny_bind (slicePart_ pu (wpAny_bind (wpAny_pure ?_)))))
  show wpAny _ _ (match Builtin.Slice.sliceAdjust none none (-1) (n : Int) with | (lo, hi) => pure (lo, (-1 : Int), Builtin.Slice.slicePlaces lo hi (-1))) _ _ s
  rw [adjust_rev n]
  show wpAny _ _ (pure ((n : Int) - 1, (-1 : Int), Builtin.Slice.slicePlaces ((n : Int) - 1) (-1) (-1))) _ _ s
  rw [places_rev]
  exact wpAny_pure h
theorem pick_rev (xs : Array Value) : ((List.range xs.size).filterMap fun (m : Nat) => xs[(((xs.size : Int) - 1) + (m : Int) * (-1)).toNat]?).toArray = xs.toList.reverse.toArray := by
  congr 1
  have e : (List.range xs.size).filterMap (fun (m : Nat) => xs[(((xs.size : Int) - 1) + (m : Int) * (-1)).toNat]?) = (List.range xs.size).filterMap fun m => xs.toList.reverse[m]? := by
    refine fm_congr fun m hm => ?_
    have h := List.mem_range.mp hm
    have e1 : (((xs.size : Int) - 1) + (m : Int) * (-1)).toNat = xs.size - 1 - m := by omega
    rw [e1, List.getElem?_reverse (by rw [Array.length_toList]; exact h), Array.length_toList, Array.getElem?_toList]
  rw [e]
  have : xs.size = xs.toList.reverse.length := by rw [List.length_reverse, Array.length_toList]
  rw [this]
  generalize xs.toList.reverse = l
  induction l with
  | nil => rfl
  | cons a r ih =>
    rw [List.length_cons, List.range_succ_eq_map, List.filterMap_cons, List.filterMap_map]
    simp only [List.getElem?_cons_zero, Function.comp_def, List.getElem?_cons_succ]
    rw [ih]
theorem getItem_tuple_rev {t sl : Addr} {items : Array Value} {vl vu vs : Value} {Q : Value → Shared → Prop} (ht : IsTup s.heap t items) (hs : s.heap.IsSliceOf sl vl vu vs) (pl : IsPart vl none) (pu : IsPart vu none) (ps : IsPart vs (some (-1)))
    (h : Q (.ref s.heap.objs.size) { s with heap := s.heap.push { cls := .type "tuple", data := .seq items.toList.reverse.toArray } })
    (hsz : items.size ≤ sizeLine) : wpAny (model prog w) A (getItem (.ref t) (.ref sl)) Q E s := by
  have htake : sizeOk (.seq items.toList.reverse.toArray) := by
    show items.toList.reverse.toArray.size ≤ sizeLine
    rw [List.size_toArray, List.length_reverse, Array.length_toList]
    omega
  obtain ⟨os, hos, hcs, hds⟩ := id hs
  have hTs : s.TypeIs (.ref sl) "slice" := ⟨os, hos, hcs⟩
  unfold getItem
  try with_reducible refine wpAny_holding ?_
  first | refine wpAny_bind (wpAny_pure ?_) | skip
  refine wpAny_bind (wpAny_sequenceKey ht.typeIs (by decide) ?_)
  refine wpAny_bind (wpAny_callSpecial?_slot (name := Str.ofString "__getitem__") ht.typeIs PyProof.Rows.slot_tuple_getitem
    (wpAny_call_entry PyProof.Rows.slot_tuple_getitem ht.typeIs entry_tuple_getitem ?_ (args_tuple_getitem _ _)))
  show wpAny _ _ (Builtin.Tuple.tupleItemsOf (.ref t) >>= _) _ _ s
  refine wpAny_bind (tupleItemsOf_ ht ?_)
  refine wpAny_bind (wpAny_typeOf hTs ?_)
  rw [if_pos (by decide)]
  refine wpAny_bind (sliceApplied_rev (n := items.size) hs pl pu ps ?_)
  have hno : ¬ ((((items.size : Int) - 1) == 0 && (-1 : Int) == 1 && items.size == items.size) = true) := by
    intro q
    rw [Bool.and_eq_true, Bool.and_eq_true] at q
    exact absurd q.1.2 (by decide)
  show wpAny _ _ (if (((items.size : Int) - 1) == 0 && (-1 : Int) == 1 && items.size == items.size) = true then _ else _) _ _ s
  rw [if_neg hno, pick_rev]
  first
    | exact wpAny_bind (m := Builtin.Tuple.tupleExact _) (wpAny_newObj_type (wpAny_pure ⟨_, rfl, wpAny_pure h⟩) htake)
    | exact wpAny_bind (m := Builtin.Tuple.tupleExact _) (wpAny_newObj_type (wpAny_bind (wpAny_pure (wpAny_pure ⟨_, rfl, wpAny_pure h⟩))) htake)
    | exact wpAny_bind (wpAny_bind (m := Builtin.Tuple.tupleExact _) (wpAny_newObj_type (wpAny_pure (wpAny_pure ⟨_, rfl, wpAny_pure h⟩)) htake))
    | exact wpAny_bind (wpAny_bind (m := Builtin.Tuple.tupleExact _) (wpAny_newObj_type (wpAny_pure ⟨_, rfl, wpAny_pure h⟩) htake))
end
end RevT
namespace DL
open PySem PySem.Spec L2 PyProof.Rows
/-! ### a tuple turned round -/
def tRevT (K : PySem.W.Frag) (te : TE) : TE := fun σ H Q => te σ H fun x H1 => ∃ a xs, x = .ref a ∧ SqT K H1 a xs ∧ ∀ p, H1 p = none → Q (.ref p) (upd H1 p (.tup xs.reverse))
theorem pe_revT {X : Cx} {e : Expr} {te : TE} {k : Nat} {p1 p2 p3 pos : Pos} (he : PE X e te) : PE X (.Subscript e (.Slice none none (some (.UnaryOp .USub (.Constant (.int 1) k p1) p2)) p3) pos) (tRevT X.K te) := by
  refine ⟨fun pins s σ H Q I h => ?_⟩
  refine Subscript_ (thn (he.run pins s σ H _ I h) fun v s1 ⟨x, H1, I1, r1, q1⟩ => ?_)
  obtain ⟨a, xs, ex, hx, q⟩ := q1
  subst ex
  cases r1
  have hst : PO X (some (.UnaryOp .USub (.Constant (.int 1) k p1) p2)) (tPart (tUn (rU fun i => .int (-i)) (tC (.int 1)))) := po_some (pe_un un_neg pe_int)
  refine wpAny_Slice (thn (po_none.run pins s1 σ H1 (fun o H2 => o = none ∧ H2 = H1) I1 ⟨rfl, rfl⟩) fun vl s2 ⟨l, H2, I2, pl, el, e2⟩ => ?_)
  subst el e2
  refine thn (po_none.run pins s2 σ H2 (fun o H3 => o = none ∧ H3 = H2) I2 ⟨rfl, rfl⟩) fun vu s3 ⟨u, H3, I3, pu, eu, e3⟩ => ?_
  subst eu e3
  refine thn (hst.run pins s3 σ H3 (fun o H4 => o = some (-1) ∧ H4 = H3) I3 ⟨1, rfl, -1, rfl, rfl, rfl⟩) fun vs s4 ⟨o, H4, I4, ps, eo, e4⟩ => ?_
  subst eo e4
  have I5 : Inv X pins σ H4 { s4 with heap := s4.heap.push { cls := .type "slice", data := .fields #[vl, vu, vs] } } := I4.kept (t' := s4.toks) fun b ob q => Heap.get?_push_of_some _ q
  obtain ⟨its, r, ht, hz⟩ := I5.tuple hx
  have hlen := r.length
  show wpAny (model X.prog X.w) X.A (subscriptTail e (.Slice none none (some (.UnaryOp .USub (.Constant (.int 1) k p1) p2)) p3) (.ref a) (.ref s4.heap.objs.size)) (EP X pins σ Q) X.xe { s4 with heap := s4.heap.push { cls := .type "slice", data := .fields #[vl, vu, vs] } }
  refine tail_any (ops := [.ref a, .ref s4.heap.objs.size]) ht.typeIs (PyProof.Rows.slot_tuple_getitem.lookup) ?_ (by with_unfolding_all rfl)
  refine RevT.getItem_tuple_rev ht (Heap.IsSliceOf.new _ vl vu vs) pl pu ps ?_ (by rw [List.size_toArray]; omega)
  refine ⟨.ref _, _, I5.laid (t' := s4.toks) (o := .tup xs.reverse) (fun b ob q => Heap.get?_push_of_some _ q) (Nat.le_refl _) ?_, rfl, q _ (I5.hok.fresh (Nat.le_refl _))⟩
  exact ⟨by rw [List.length_reverse]; exact hz, _, r.reverse, _, Heap.get?_push_size _ rfl, rfl, _, rfl⟩
theorem dpa_rev {K : PySem.W.Frag} {H : Hp} : ∀ {vs : List V} {xs : List PyData}, DpAll K H vs xs → DpAll K H vs.reverse xs.reverse
  | _, _, .nil => .nil
  | _, _, .cons a b => by
    rw [List.reverse_cons, List.reverse_cons]
    exact (dpa_rev b).app (.cons a .nil)
def tdRevT (t : TD) : TD := fun env Q => t env fun x env1 => match res env1 x with
  | some (.tuple xs) => Q (.d (.tuple xs.reverse)) env1
  | _ => False
def tdSw (t u : TD) : TD := fun env Q => t env fun x env1 => match res env1 x with
  | some (.str a) => u env1 fun y env2 => match res env2 y with
    | some (.str b) => Q (.d (.bool (Txt.startswith a b))) env2
    | _ => False
  | _ => False
section
variable {X : Cx} {e o : Expr} {ta tb : TD} {k : Nat} {p1 p2 p3 pos apos cpos : Pos}
theorem pd_revT (ha : PD X e ta) : PD X (.Subscript e (.Slice none none (some (.UnaryOp .USub (.Constant (.int 1) k p1) p2)) p3) pos) (tdRevT ta) := by
  obtain ⟨t1, q0, q1⟩ := ha
  refine ⟨_, pe_revT q0, fun σ H W A env Q Qd E ht k => ?_⟩
  refine q1 σ H W A env _ _ E ht fun x H1 W1 env1 rx E1 S1 R1 h1 => ?_
  split at h1
  · rename_i xs ey
    have D := Dq.of_rv E1 R1 ey
    have F := fin_up E1 S1 k
    cases D with
    | tup s d => exact ⟨_, _, rfl, same_t hw_same s, fun l hl => F.tup E1.trk hl (dpa_rev d) h1⟩
  · exact h1.elim
theorem pd_sw (ho : PD X o ta) (hb : PD X e tb) (hbase : attributeBase o "startswith" X.env (eval o X.env) = eval o X.env := by rfl)
    (hfew : ((backTo cpos (starEach [e] X.env)).all (fun x => !x.1) && (backToKw cpos (keywordEach [] X.env)).all (fun x => x.1.isSome)
      && decide ([e].length + ([] : List Keyword).length + (if ([] : List Keyword).isEmpty then 0 else 1) < 30)) = true := by rfl)
    (hline : (apos.endLine == cpos.line) = true := by rfl) (hs : starEach [e] X.env = (false, eval e X.env) :: starEach [] X.env := by rfl) (hplain : (backTo cpos (starEach [] X.env)).any (·.1) = false := by rfl) :
    PD X (.Call (.Attribute o "startswith" apos) [e] [] cpos) (tdSw ta tb) := by
  obtain ⟨t1, p1, q1⟩ := ho
  obtain ⟨t2, p2, q2⟩ := hb
  refine ⟨_, pe_bm PySem.F.plainAttrs_str PySem.F.slot_str_startswith PySem.F.type_str_startswith mt_startswith p1 (pa_cons p2 pa_nil hs) hbase hfew hline hs hplain, fun σ H W A env Q Qd E ht k => ?_⟩
  refine q1 σ H W A env _ _ E ht fun x H1 W1 env1 rx E1 S1 R1 h1 => ?_
  split at h1
  · rename_i a ea
    have da := (Dq.of_rv E1 R1 ea).str
    subst da
    refine ⟨rfl, ?_⟩
    refine q2 σ H1 W1 A env1 _ _ E1 h1 fun y H2 W2 env2 ry E2 S2 R2 h2 => ?_
    split at h2
    · rename_i b eb
      have db := (Dq.of_rv E2 R2 eb).str
      subst db
      exact ⟨a, b, rfl, rfl, k _ H2 W2 env2 (.d (.bool (Txt.startswith a b))) E2 (S1.trans S2) (.bl _) h2⟩
    · exact h2.elim
  · exact h1.elim
end
def rdSortedS : List PyData → (Rv → Prop) → Prop
  | [.list xs], Q => ∃ ss : List Str, xs = ss.map PyData.str ∧ ss.length < 64 ∧ ∀ zs : List Str, zs.Perm ss → Q (.n (.l (zs.map PyData.str)))
  | _, _ => False
theorem bd_sortedS {X : Cx} : BD X (.builtin "sorted") rdSortedS := by
  refine ⟨_, cr_sortedS, fun H W vs xs Q Qd hw r q k => ?_⟩
  unfold rdSortedS at q
  split at q
  · obtain ⟨v, rfl, p, ws, rfl, s, d⟩ := dqall1 r
    obtain ⟨ns, rfl, hn, q⟩ := q
    rw [d.strs] at s
    exact ⟨p, ns, rfl, s, hn, fun ms l h1 h2 hl => k.lst hw hl (.of_strs ms) (q ms h1)⟩
  · exact q.elim
end DL

set_option Elab.async false
set_option linter.all false
set_option maxRecDepth 100000
set_option maxHeartbeats 4000000
set_option autoImplicit false
namespace Dlk33
open PySem PySem.Spec L2 DL
/-! ### words, members, pages -/
def Tx' (z : Str) : Prop := z.length ≤ 200 ∧ Sg z
abbrev Wp := Str × Int
def wpD (w : Wp) : PyData := .tuple [.str w.1, .int w.2]
def kD : Option Int → PyData
  | none => .none
  | some k => .int k
abbrev Mem := Str × Bool × Nat
def mmD (m : Mem) : PyData := .tuple [.str m.1, .bool m.2.1, .int (m.2.2 : Nat)]
def phD (ph : List Mem) : PyData := .tuple (ph.map mmD)
def wsD (ws : List Wp) : PyData := .tuple (ws.map wpD)
def WsOk (ws : List Wp) : Prop := ws.length ≤ 30 ∧ ∀ w ∈ ws, Tx' w.1
def PhOk (ph : List Mem) : Prop := (1 ≤ ph.length ∧ ph.length ≤ 8) ∧ ∀ m ∈ ph, Tx' m.1 ∧ m.2.2 ≤ 9
structure Pg where
  name : Str
  tick : Int
  words : List Wp
  links : List Str
  sh : Bool
  fo : Bool
def pgD (p : Pg) : PyData := .tuple [.str p.name, .int p.tick, .tuple [wsD p.words, .tuple (p.links.map .str), .bool p.sh, .bool p.fo]]
def PgOk (p : Pg) : Prop := Tx' p.name ∧ WsOk p.words ∧ p.links.length ≤ 10 ∧ ∀ z ∈ p.links, Tx' z
/-- a word fits a member -/
def fitsB (kind : Option Int) (w : Wp) (m : Mem) : Bool := match kind with
  | some k => if w.2 ≠ k then false else if m.2.1 then decide (w.1 = m.1) else Txt.startswith w.1 m.1
  | none => if m.2.1 then decide (w.1 = m.1) else Txt.startswith w.1 m.1
def fitAt (ws : List Wp) (kind : Option Int) (m : Mem) (q : Nat) : Bool := match ws[q]? with
  | some w => fitsB kind w m
  | none => false
/-- where a phrase stands -/
def stand (ws : List Wp) (kind : Option Int) : List Mem → Nat → Bool
  | [], _ => true
  | m :: r, q => fitAt ws kind m q && match r with
    | [] => true
    | m2 :: _ => (List.range ws.length).any fun o => decide (q < o ∧ o ≤ q + (m2.2.2 + 1)) && stand ws kind r o
def placesN (ws : List Wp) (kind : Option Int) (ph : List Mem) : List Nat := (List.range ws.length).filter (stand ws kind ph)
def tupN (S : List Nat) : PyData := .tuple (S.map fun i : Nat => .int i)
abbrev sp_fits_member : FD := fun args Q => ∃ w kind m, args = [.d (wpD w), .d (kD kind), .d (mmD m)] ∧ Tx' w.1 ∧ Tx' m.1 ∧ ∀ os, Q (.d (.bool (fitsB kind w m))) os
abbrev sp_law_s_fits : FD := sp_fits_member
abbrev spPlaces : FD := fun args Q => ∃ ws kind ph, args = [.d (wsD ws), .d (kD kind), .d (phD ph)] ∧ WsOk ws ∧ PhOk ph ∧ ∀ os, Q (.d (tupN (placesN ws kind ph))) os
abbrev sp_places : FD := spPlaces
abbrev sp_law_s_places : FD := spPlaces
/-! ### questions -/
inductive Qn
  | words (kind : Option Int) (ph : List Mem) (points most : Int)
  | all (b : Bool) (qs : List Qn)
  | neg (q : Qn)
  | under (t : Str)
  | links (t : Str)
  | since (n : Int)
def wordB (b : Bool) : Str := if b then "and" else "or"
mutual
def qD : Qn → PyData
  | .words kind ph points most => .tuple [.str "words", kD kind, phD ph, .int points, .int most]
  | .all b qs => .tuple [.str (wordB b), .tuple (qDs qs)]
  | .neg q => .tuple [.str "not", qD q]
  | .under t => .tuple [.str "under", .str t]
  | .links t => .tuple [.str "links", .str t]
  | .since n => .tuple [.str "since", .int n]
def qDs : List Qn → List PyData
  | [] => []
  | q :: r => qD q :: qDs r
end
mutual
/-- no deeper than d, its lists short, its numbers small -/
def QOk : Nat → Qn → Prop
  | d, .words _ ph points most => 0 < d ∧ PhOk ph ∧ (0 ≤ points ∧ points ≤ 20) ∧ (0 ≤ most ∧ most ≤ 20)
  | d, .all _ qs => 0 < d ∧ qs.length ≤ 8 ∧ QsOk (d - 1) qs
  | d, .neg q => 0 < d ∧ QOk (d - 1) q
  | d, .under t => 0 < d ∧ Tx' t
  | d, .links t => 0 < d ∧ Tx' t
  | d, .since _ => 0 < d
def QsOk : Nat → List Qn → Prop
  | _, [] => True
  | d, q :: r => QOk d q ∧ QsOk d r
end
mutual
def sizeN : Qn → Nat
  | .words _ ph _ _ => 1 + ph.length
  | .all _ qs => 1 + (sizesN qs).sum
  | .neg q => 1 + sizeN q
  | _ => 1
def sizesN : List Qn → List Nat
  | [] => []
  | q :: r => sizeN q :: sizesN r
end
def ifN (b : Bool) : Option Int := if b then some 0 else none
def sumO (b : Bool) (os : List (Option Int)) : Option Int :=
  if b then (if (os.filterMap id).length < os.length then none else some (os.filterMap id).sum) else if (os.filterMap id).length = 0 then none else some (os.filterMap id).sum
mutual
def scoreO (p : Pg) : Qn → Option Int
  | .words kind ph points most => if (placesN p.words kind ph).length = 0 then none else some (points * (if most < ((placesN p.words kind ph).length : Nat) then most else ((placesN p.words kind ph).length : Nat)))
  | .all b qs => sumO b (scoresO p qs)
  | .neg q => ifN (scoreO p q).isNone
  | .under t => ifN (Txt.startswith p.name t)
  | .links t => ifN (decide (t ∈ p.links))
  | .since n => ifN (decide (n ≤ p.tick))
def scoresO (p : Pg) : List Qn → List (Option Int)
  | [] => []
  | q :: r => scoreO p q :: scoresO p r
end
mutual
/-- the phrases of a question -/
def wordsQ : Qn → List (Option Int × List Mem × Int × Int)
  | .words kind ph points most => [(kind, ph, points, most)]
  | .all _ qs => wordsQs qs
  | .neg q => wordsQ q
  | _ => []
def wordsQs : List Qn → List (Option Int × List Mem × Int × Int)
  | [] => []
  | q :: r => wordsQ q ++ wordsQs r
end
def wqD (x : Option Int × List Mem × Int × Int) : PyData := qD (.words x.1 x.2.1 x.2.2.1 x.2.2.2)
def foundD (p : Pg) (q : Qn) : PyData := .tuple ((wordsQ q).map fun x => tupN (placesN p.words x.1 x.2.1))
mutual
def deepN : Qn → Nat
  | .all _ qs => 1 + deepsN qs
  | .neg q => 1 + deepN q
  | _ => 1
def deepsN : List Qn → Nat
  | [] => 0
  | q :: r => max (deepN q) (deepsN r)
end
def spR_size : Nat → FD
  | 0 => fun _ _ => False
  | j + 1 => fun args Q => ∃ q, args = [.d (qD q)] ∧ QOk (j + 1) q ∧ ∀ os, Q (.d (.int (sizeN q : Nat))) os
abbrev sp_size : FD := spR_size 9
def spR_law_s_size : Nat → FD := spR_size
abbrev sp_law_s_size : FD := spR_law_s_size 9
def spR_law_deep : Nat → FD
  | 0 => fun _ _ => False
  | j + 1 => fun args Q => ∃ q, args = [.d (qD q)] ∧ QOk (j + 1) q ∧ ∀ (n : Int) os, Q (.d (.int n)) os
abbrev sp_law_deep : FD := spR_law_deep 9
abbrev sp_nought_if : FD := fun args Q => ∃ b, args = [.d (.bool b)] ∧ ∀ os, Q (.d (kD (ifN b))) os
abbrev sp_score_of_words : FD := fun args Q => ∃ p kind ph points most, args = [.d (pgD p), .d (qD (.words kind ph points most))] ∧ PgOk p ∧ QOk 1 (.words kind ph points most) ∧ ∀ os, Q (.d (kD (scoreO p (.words kind ph points most)))) os
def spR_score : Nat → FD
  | 0 => fun _ _ => False
  | j + 1 => fun args Q => ∃ p q d, args = [.d (pgD p), .d (qD q)] ∧ PgOk p ∧ QOk d q ∧ 2 * d ≤ j + 1 ∧ ∀ os, Q (.d (kD (scoreO p q))) os
def spR_score_of_some : Nat → FD
  | 0 => fun _ _ => False
  | j + 1 => fun args Q => ∃ p b qs d, args = [.d (pgD p), .d (qD (.all b qs))] ∧ PgOk p ∧ QOk d (.all b qs) ∧ 2 * d ≤ j + 2 ∧ ∀ os, Q (.d (kD (scoreO p (.all b qs)))) os
abbrev sp_score : FD := spR_score 18
abbrev sp_score_of_some : FD := spR_score_of_some 18
def spR_law_s_score : Nat → FD
  | 0 => fun _ _ => False
  | j + 1 => fun args Q => ∃ p q, args = [.d (pgD p), .d (qD q)] ∧ PgOk p ∧ QOk (j + 1) q ∧ ∀ os, Q (.d (kD (scoreO p q))) os
abbrev sp_law_s_score : FD := spR_law_s_score 9
def spR_questions_of_words : Nat → FD
  | 0 => fun _ _ => False
  | j + 1 => fun args Q => ∃ q, args = [.d (qD q)] ∧ QOk (j + 1) q ∧ sizeN q ≤ 100 ∧ ∀ os, Q (.d (.list ((wordsQ q).map wqD))) os ∧ Q (.l ((wordsQ q).map wqD)) os
abbrev sp_questions_of_words : FD := spR_questions_of_words 9
abbrev sp_found : FD := fun args Q => ∃ p q, args = [.d (pgD p), .d (qD q)] ∧ PgOk p ∧ QOk 9 q ∧ sizeN q ≤ 100 ∧ ∀ os, Q (.d (foundD p q)) os
def spR_law_s_found : Nat → FD
  | 0 => fun _ _ => False
  | j + 1 => fun args Q => ∃ p q, args = [.d (pgD p), .d (qD q)] ∧ PgOk p ∧ QOk (j + 1) q ∧ sizeN q ≤ 100 ∧ ∀ os, Q (.d (foundD p q)) os
abbrev sp_law_s_found : FD := spR_law_s_found 9
/-! ### the law's own -/
abbrev sp_law_tape : FD := spTape
abbrev sp_law_draw : FD := spDraw
abbrev sp_law_pick : FD := spPick
abbrev sp_law_turns : FD := spTurns
abbrev sp_law_shuffled : FD := spShuf
abbrev sp_law_same : FD := spSameD 6
def strsD (zs : List Str) : PyData := .list (zs.map .str)
abbrev sp_law_vocabulary : FD := fun args Q => ∃ tp, args = [.l tp] ∧ TapeOk tp ∧ ∀ (zs : List Str) tp' os, (6 ≤ zs.length ∧ zs.length ≤ 10) → (∀ z ∈ zs, Tx' z) → TapeOk tp' → os 0 = some (.l tp') → Q (.l (zs.map .str)) os
abbrev sp_law_some_words : FD := fun args Q => ∃ (tp : List PyData) (zs : List Str) (most : Int), args = [.l tp, .d (strsD zs), .d (.int most)] ∧ (1 ≤ zs.length ∧ zs.length ≤ 10) ∧ (∀ z ∈ zs, Tx' z) ∧ (0 ≤ most ∧ most ≤ 8) ∧ TapeOk tp ∧ ∀ (ys : List Str) tp' os, ys.length ≤ 8 → (∀ z ∈ ys, Tx' z) → TapeOk tp' → os 0 = some (.l tp') → Q (.d (.tuple (ys.map .str))) os
abbrev sp_law_b_addresses : FD := fun args Q => ∃ tp, ∃ m : Int, args = [.l tp, .d (.int m)] ∧ (1 ≤ m ∧ m ≤ 10) ∧ TapeOk tp ∧ ∀ (zs : List Str) tp' os, (1 ≤ zs.length ∧ zs.length ≤ 10) → (∀ z ∈ zs, Tx' z) → TapeOk tp' → os 0 = some (.l tp') → Q (.l (zs.map .str)) os
abbrev sp_law_b_reading : FD := fun args Q => ∃ (tp : List PyData) (zs ls : List Str), args = [.l tp, .d (.tuple (zs.map .str)), .d (strsD ls)] ∧ zs.length ≤ 30 ∧ ls.length ≤ 10 ∧ (∀ z ∈ zs, Tx' z) ∧ TapeOk tp ∧ ∀ ws a b tp' os, WsOk ws → TapeOk tp' → os 0 = some (.l tp') → Q (.d (.tuple [wsD ws, .tuple (ls.map .str), .bool a, .bool b])) os
def PgsOk (ps : List Pg) : Prop := (1 ≤ ps.length ∧ ps.length ≤ 10) ∧ ∀ p ∈ ps, PgOk p
def pgsD (ps : List Pg) : PyData := .list (ps.map pgD)
abbrev sp_law_b_phrase_question : FD := fun args Q => ∃ tp ps, args = [.l tp, .d (pgsD ps)] ∧ PgsOk ps ∧ TapeOk tp ∧ ∀ kind ph points most tp' os, QOk 1 (.words kind ph points most) → TapeOk tp' → os 0 = some (.l tp') → Q (.d (qD (.words kind ph points most))) os
def spR_law_b_question : Nat → FD
  | 0 => fun _ _ => False
  | j + 1 => fun args Q => ∃ tp ps, ∃ lv : Int, args = [.l tp, .d (pgsD ps), .d (.int lv)] ∧ PgsOk ps ∧ (lv ≤ (j + 1 : Nat)) ∧ TapeOk tp ∧ ∀ q tp' os, QOk (j + 1) q → TapeOk tp' → os 0 = some (.l tp') → Q (.d (qD q)) os
abbrev sp_law_b_question : FD := spR_law_b_question 3
abbrev sp_law_b_asked : FD := fun args Q => ∃ tp ps, args = [.l tp, .d (pgsD ps)] ∧ PgsOk ps ∧ TapeOk tp ∧ ∀ q tp' os, QOk 5 q → sizeN q ≤ 100 → TapeOk tp' → os 0 = some (.l tp') → Q (.d (qD q)) os
abbrev sp_law_turned : FD := fun args Q => ∃ tp q, args = [.l tp, .d (qD q)] ∧ QOk 5 q ∧ TapeOk tp ∧ ∀ q' tp' os, QOk 9 q' → TapeOk tp' → os 0 = some (.l tp') → Q (.d (qD q')) os
abbrev sp_law_pages : FD := fun args Q => ∃ tp, args = [.l tp] ∧ TapeOk tp ∧ ∀ ps tp' os, PgsOk ps → TapeOk tp' → os 0 = some (.l tp') → Q (.l (ps.map pgD)) os
inductive Due : Str → PyData → PyData → PyData → Prop
  | places (ws : List Wp) (kind : Option Int) (ph : List Mem) (points most : Int) : WsOk ws → PhOk ph → Due "places" (wsD ws) (qD (.words kind ph points most)) (tupN (placesN ws kind ph))
  | score (p : Pg) (q : Qn) : PgOk p → QOk 9 q → Due "score" (pgD p) (qD q) (kD (scoreO p q))
  | found (p : Pg) (q : Qn) : PgOk p → QOk 9 q → sizeN q ≤ 100 → Due "found" (pgD p) (qD q) (foundD p q)
  | size (t : PyData) (q : Qn) : QOk 9 q → Due "size" t (qD q) (.int (sizeN q : Nat))
abbrev sp_law_told : FD := fun args Q => ∃ w t s d, args = [.d (.str w), .d t, .d s] ∧ Due w t s d ∧ ∀ os, Q (.d d) os
abbrev sp_law_case : FD := fun args Q => ∃ w t s d, args = [.d (.str w), .d t, .d s] ∧ Due w t s d ∧ ∀ os, Q (.d (.tuple [.str w, t, s, d])) os
def CaseOk (c : PyData) : Prop := ∃ w t s d, c = .tuple [.str w, t, s, d] ∧ Due w t s d
abbrev sp_law_right : FD := fun args Q => ∃ c, args = [.d c] ∧ CaseOk c ∧ ∀ os, Q (.d (.bool true)) os
abbrev sp_law : FD := fun args Q => ∃ ns : List Int, args = [.d (.list (ns.map .int))] ∧ ∀ os, Q (.d (.bool true)) os
end Dlk33

set_option Elab.async false
set_option linter.all false
set_option maxRecDepth 100000
set_option maxHeartbeats 0
set_option autoImplicit false
namespace Dlk33
open PySem PySem.Spec L2 DL
def t_fits_member : TDS := (tdSeq (tdAsg (tdV 2) (gdTup 3 (gdCons (gdName 3) (gdCons (gdName 4) (gdCons (gdName 5) gdNil)))))
  (tdSeq (tdIfS (tdAnd (tdTest (tdNotN (tdV 1))) (tdTest (tdBin rdNe (tdBin rdIx (tdV 0) (tdC (.int 1))) (tdV 1)))) (tdRet ([], []) (tdC (.bool false))) tdNext)
  (tdSeq (tdIfS (tdTru (tdV 4)) (tdRet ([], []) (tdBin rdEq (tdBin rdIx (tdV 0) (tdC (.int 0))) (tdV 3))) tdNext)
  (tdRet ([], []) (tdSw (tdBin rdIx (tdV 0) (tdC (.int 0))) (tdV 3))))))
def t_nought_if : TDS := (tdSeq (tdIfS (tdTru (tdV 0)) (tdRet ([], []) (tdC (.int 0))) tdNext)
  (tdRet ([], []) (tdC .none)))
def t_law_tape : TDS := (tdSeq (tdSetD 1 (tdC (.int 7)))
  (tdSeq (tdFor (tdIt (tdV 0)) (gdName 2) (tdSetD 1 (tdBin rdMod (tdB rdInt (tdCons (tdBin rdAdd (tdBin rdMul (tdV 1) (tdC (.int 31))) (tdB rdAbs (tdCons (tdB rdInt (tdCons (tdV 2) tdNil)) tdNil))) tdNil)) (tdC (.int 2147483647)))))
  (tdRet ([], []) (tdLst (tdCons (tdB rdList (tdCons (tdV 0) tdNil)) (tdCons (tdC (.int 0)) (tdCons (tdC (.int 0)) (tdCons (tdV 1) tdNil))))))))
def t_law_draw : TDS := (tdSeq (tdIfS (tdTest (tdBin rdEq (tdBin rdIx (tdV 0) (tdC (.int 2))) (tdC (.int 0)))) (tdSeq (tdSetD 2 (tdBin rdIx (tdV 0) (tdC (.int 1))))
  (tdSeq (tdSetD 3 (tdC (.int 0)))
  (tdSeq (tdIfS (tdTest (tdBin (rdCmp fun i j => decide (i < j)) (tdV 2) (tdB rdLen (tdCons (tdBin rdIx (tdV 0) (tdC (.int 0))) tdNil)))) (tdSetD 3 (tdB rdAbs (tdCons (tdB rdInt (tdCons (tdBin rdIx (tdBin rdIx (tdV 0) (tdC (.int 0))) (tdV 2)) tdNil)) tdNil))) (tdSeq (tdSetIx 0 (tdC (.int 3)) (tdBin rdMod (tdB rdInt (tdCons (tdBin rdAdd (tdBin rdAdd (tdBin rdMul (tdBin rdIx (tdV 0) (tdC (.int 3))) (tdC (.int 48271))) (tdV 2)) (tdC (.int 1))) tdNil)) (tdC (.int 2147483647))))
  (tdSetD 3 (tdBin rdIx (tdV 0) (tdC (.int 3))))))
  (tdSeq (tdSetIx 0 (tdC (.int 1)) (tdBin rdAdd (tdV 2) (tdC (.int 1))))
  (tdSeq (tdIfS (tdTest (tdBin (rdCmp fun i j => decide (i < j)) (tdV 3) (tdBin rdPow (tdC (.int 10)) (tdC (.int 18))))) (tdSeq (tdSetD 3 (tdBin rdMod (tdB rdInt (tdCons (tdBin rdAdd (tdBin rdAdd (tdBin rdMul (tdV 3) (tdC (.int 48271))) (tdBin rdMul (tdV 2) (tdC (.int 69621)))) (tdC (.int 5))) tdNil)) (tdC (.int 2147483647))))
  (tdSeq (tdSetD 3 (tdBin rdMod (tdB rdInt (tdCons (tdBin rdMul (tdV 3) (tdC (.int 69621))) tdNil)) (tdC (.int 2147483629))))
  (tdRet ([0], []) (tdBin rdMod (tdB rdInt (tdCons (tdV 3) tdNil)) (tdB rdMax2 (tdCons (tdV 1) (tdCons (tdC (.int 1)) tdNil))))))) tdNext)
  (tdSetIx 0 (tdC (.int 2)) (tdV 3))))))) tdNext)
  (tdSeq (tdSetD 3 (tdBin rdIx (tdV 0) (tdC (.int 2))))
  (tdSeq (tdSetIx 0 (tdC (.int 2)) (tdBin rdDiv (tdV 3) (tdB rdMax2 (tdCons (tdV 1) (tdCons (tdC (.int 2)) tdNil)))))
  (tdRet ([0], []) (tdBin rdMod (tdB rdInt (tdCons (tdV 3) tdNil)) (tdB rdMax2 (tdCons (tdV 1) (tdCons (tdC (.int 1)) tdNil))))))))
def t_law_s_fits : TDS := (tdSeq (tdIfS (tdAnd (tdTest (tdNotN (tdV 1))) (tdTest (tdBin rdNe (tdBin rdIx (tdV 0) (tdC (.int 1))) (tdV 1)))) (tdRet ([], []) (tdC (.bool false))) tdNext)
  (tdSeq (tdIfS (tdTru (tdBin rdIx (tdV 2) (tdC (.int 1)))) (tdRet ([], []) (tdBin rdEq (tdBin rdIx (tdV 0) (tdC (.int 0))) (tdBin rdIx (tdV 2) (tdC (.int 0))))) tdNext)
  (tdRet ([], []) (tdSw (tdBin rdIx (tdV 0) (tdC (.int 0))) (tdBin rdIx (tdV 2) (tdC (.int 0)))))))
def t_places : TDS := (tdSeq (tdSetD 3 (tdRepE (tdCons (tdC (.bool true)) tdNil) (tdB rdLen (tdCons (tdV 0) tdNil))))
  (tdSeq (tdFor (tdEnum2 (tdCons (tdRevT (tdV 2)) tdNil)) (gdTup 2 (gdCons (gdName 4) (gdCons (gdName 5) gdNil))) (tdSeq (tdSetD 6 (tdLc (tdIt (tdV 0)) (gcName 7) tdYes (tdCall ([], []) 3 sp_fits_member (tdCons (tdV 7) (tdCons (tdV 1) (tdCons (tdV 5) tdNil)))) [7]))
  (tdSeq (tdIfS (tdTest (tdBin (rdCmp fun i j => decide (j < i)) (tdV 4) (tdC (.int 0)))) (tdSeq (tdSetD 8 (tdBin rdAdd (tdBin rdIx (tdBin rdIx (tdV 2) (tdBin rdSub (tdB rdLen (tdCons (tdV 2) tdNil)) (tdV 4))) (tdC (.int 2))) (tdC (.int 1))))
  (tdSetD 6 (tdLc (tdRng1 (tdCons (tdB rdLen (tdCons (tdV 0) tdNil)) tdNil)) (gcName 9) tdYes (tdAndV (tdBin rdIx (tdV 6) (tdV 9)) (tdB rdAny (tdCons (tdSl (tdV 3) (tdPart (tdBin rdAdd (tdV 9) (tdC (.int 1)))) (tdPart (tdBin rdAdd (tdBin rdAdd (tdV 9) (tdC (.int 1))) (tdV 8)))) tdNil))) [9]))) tdNext)
  (tdSetD 3 (tdV 6)))))
  (tdRet ([], []) (tdB rdTuple (tdCons (tdLc (tdEnum2 (tdCons (tdV 3) tdNil)) (gcTup 2 (gcCons (gcName 9) (gcCons (gcName 10) gcNil))) (tdTru (tdV 10)) (tdV 9) [9, 10]) tdNil)))))
def t_law_pick : TDS := (tdRet ([0], []) (tdBin rdIx (tdV 1) (tdCall ([0], []) 2 sp_law_draw (tdCons (tdV 0) (tdCons (tdB rdLen (tdCons (tdV 1) tdNil)) tdNil)))))
def t_law_turns : TDS := (tdSeq (tdSet 2 (tdListRg (tdV 1)))
  (tdSeq (tdSet 3 (tdLst tdNil))
  (tdSeq (tdFor (tdRng1 (tdCons (tdV 1) tdNil)) (gdName 4) (tdDrop (tdM 3 rdAppend (tdCons (tdM 2 rdPopAt (tdCons (tdCall ([0], []) 2 sp_law_draw (tdCons (tdV 0) (tdCons (tdB rdLen (tdCons (tdV 2) tdNil)) tdNil))) tdNil)) tdNil))))
  (tdRet ([0], []) (tdSl (tdV 3) tdNoPart (tdPart (tdBin rdIx (tdLst (tdCons (tdV 1) (tdCons (tdV 1) (tdCons (tdC (.int 1)) tdNil)))) (tdCall ([0], []) 2 sp_law_draw (tdCons (tdV 0) (tdCons (tdC (.int 3)) tdNil))))))))))
def t_law_shuffled : TDS := (tdSeq (tdSet 2 (tdB rdList (tdCons (tdV 1) tdNil)))
  (tdSeq (tdSet 3 (tdLst tdNil))
  (tdSeq (tdFor (tdRng1 (tdCons (tdB rdLen (tdCons (tdV 1) tdNil)) tdNil)) (gdName 4) (tdDrop (tdM 3 rdAppend (tdCons (tdM 2 rdPopAt (tdCons (tdCall ([0], []) 2 sp_law_draw (tdCons (tdV 0) (tdCons (tdB rdLen (tdCons (tdV 2) tdNil)) tdNil))) tdNil)) tdNil))))
  (tdRet ([0], []) (tdV 3)))))
def t_law_s_places : TDS := (tdSeq (tdSetD 3 (tdLst tdNil))
  (tdSeq (tdFor (tdRng3 (tdCons (tdBin rdSub (tdB rdLen (tdCons (tdV 2) tdNil)) (tdC (.int 1))) (tdCons (tdNeg (tdC (.int 1))) (tdCons (tdNeg (tdC (.int 1))) tdNil)))) (gdName 4) (tdSeq (tdSetD 5 (tdLc (tdRng1 (tdCons (tdB rdLen (tdCons (tdV 0) tdNil)) tdNil)) (gcName 6) (tdTest (tdCall ([], []) 3 sp_law_s_fits (tdCons (tdBin rdIx (tdV 0) (tdV 6)) (tdCons (tdV 1) (tdCons (tdBin rdIx (tdV 2) (tdV 4)) tdNil))))) (tdV 6) [6]))
  (tdSeq (tdIfS (tdTest (tdBin (rdCmp fun i j => decide (i < j)) (tdV 4) (tdBin rdSub (tdB rdLen (tdCons (tdV 2) tdNil)) (tdC (.int 1))))) (tdSeq (tdSetD 7 (tdBin rdAdd (tdC (.int 1)) (tdBin rdIx (tdBin rdIx (tdV 2) (tdBin rdAdd (tdV 4) (tdC (.int 1)))) (tdC (.int 2)))))
  (tdSetD 5 (tdLc (tdIt (tdV 5)) (gcName 6) (tdTest (tdBin (rdCmp fun i j => decide (j < i)) (tdB rdLen (tdCons (tdLc (tdIt (tdV 3)) (gcName 8) (tdAnd (tdTest (tdBin (rdCmp fun i j => decide (i < j)) (tdV 6) (tdV 8))) (tdTest (tdBin (rdCmp fun i j => decide (i ≤ j)) (tdBin rdSub (tdV 8) (tdV 6)) (tdV 7)))) (tdV 8) [8]) tdNil)) (tdC (.int 0)))) (tdV 6) [6]))) tdNext)
  (tdSetD 3 (tdV 5)))))
  (tdRet ([], []) (tdB rdTuple (tdCons (tdV 3) tdNil)))))
def t_law_b_reading : TDS := (tdSeq (tdSet 3 (tdLst tdNil))
  (tdSeq (tdSetD 4 (tdC (.int 0)))
  (tdSeq (tdFor (tdIt (tdV 1)) (gdName 5) (tdSeq (tdIfS (tdTest (tdBin rdEq (tdCall ([0], []) 2 sp_law_draw (tdCons (tdV 0) (tdCons (tdC (.int 3)) tdNil))) (tdC (.int 0)))) (tdSetD 4 (tdCall ([0], []) 2 sp_law_draw (tdCons (tdV 0) (tdCons (tdC (.int 4)) tdNil)))) tdNext)
  (tdDrop (tdM 3 rdAppend (tdCons (tdTup (tdCons (tdV 5) (tdCons (tdV 4) tdNil))) tdNil)))))
  (tdRet ([0], []) (tdTup (tdCons (tdB rdTuple (tdCons (tdV 3) tdNil)) (tdCons (tdB rdTuple (tdCons (tdV 2) tdNil)) (tdCons (tdBin (rdCmp fun i j => decide (j < i)) (tdCall ([0], []) 2 sp_law_draw (tdCons (tdV 0) (tdCons (tdC (.int 6)) tdNil))) (tdC (.int 0))) (tdCons (tdBin (rdCmp fun i j => decide (j < i)) (tdCall ([0], []) 2 sp_law_draw (tdCons (tdV 0) (tdCons (tdC (.int 6)) tdNil))) (tdC (.int 0))) tdNil)))))))))
def t_score_of_words : TDS := (tdSeq (tdAsg (tdV 1) (gdTup 5 (gdCons (gdName 2) (gdCons (gdName 3) (gdCons (gdName 4) (gdCons (gdName 5) (gdCons (gdName 6) gdNil)))))))
  (tdSeq (tdSetD 7 (tdB rdLen (tdCons (tdCall ([], []) 3 sp_places (tdCons (tdBin rdIx (tdBin rdIx (tdV 0) (tdC (.int 2))) (tdC (.int 0))) (tdCons (tdV 3) (tdCons (tdV 4) tdNil)))) tdNil)))
  (tdSeq (tdIfS (tdTest (tdBin rdEq (tdV 7) (tdC (.int 0)))) (tdRet ([], []) (tdC .none)) tdNext)
  (tdRet ([], []) (tdBin rdMul (tdV 5) (tdB rdMin2 (tdCons (tdV 7) (tdCons (tdV 6) tdNil))))))))
def t_law_vocabulary : TDS := (tdSeq (tdSetD 1 (tdCall ([0], []) 2 sp_law_pick (tdCons (tdV 0) (tdCons (tdLst (tdCons (tdC (.str ("" : Str))) (tdCons (tdC (.str ("" : Str))) (tdCons (tdC (.str ("run" : Str))) tdNil)))) tdNil))))
  (tdSeq (tdSetD 2 (tdLst (tdCons (tdC (.str ("fox" : Str))) (tdCons (tdC (.str ("red" : Str))) (tdCons (tdC (.str ("a" : Str))) (tdCons (tdC (.str ("b2" : Str))) (tdCons (tdC (.str ("7" : Str))) (tdCons (tdC (.str ("home" : Str))) (tdCons (tdC (.str ("runs" : Str))) (tdCons (tdC (.str ("foxes" : Str))) (tdCons (tdC (.str ("abcdefghijkl" : Str))) (tdCons (tdC (.str ("the" : Str))) tdNil))))))))))))
  (tdRet ([0], []) (tdLc (tdIt (tdSl (tdCall ([0], []) 2 sp_law_shuffled (tdCons (tdV 0) (tdCons (tdV 2) tdNil))) tdNoPart (tdPart (tdBin rdAdd (tdC (.int 6)) (tdCall ([0], []) 2 sp_law_draw (tdCons (tdV 0) (tdCons (tdC (.int 3)) tdNil))))))) (gcName 3) tdYes (tdSl (tdBin rdAdd (tdV 1) (tdV 3)) tdNoPart (tdPart (tdC (.int 12)))) [3]))))
def t_law_some_words : TDS := (tdRet ([0], []) (tdB rdTuple (tdCons (tdLc (tdRng1 (tdCons (tdCall ([0], []) 2 sp_law_draw (tdCons (tdV 0) (tdCons (tdBin rdAdd (tdV 2) (tdC (.int 1))) tdNil))) tdNil)) (gcName 3) tdYes (tdCall ([0], []) 2 sp_law_pick (tdCons (tdV 0) (tdCons (tdV 1) tdNil))) [3]) tdNil)))
def t_law_b_addresses : TDS := (tdSeq (tdSetD 2 (tdCall ([0], []) 2 sp_law_pick (tdCons (tdV 0) (tdCons (tdLst (tdCons (tdC (.str ("a.b/" : Str))) (tdCons (tdC (.str ("a.b/x" : Str))) (tdCons (tdC (.str ("x-1.org/" : Str))) (tdCons (tdC (.str ("y.net/long_name/a" : Str))) tdNil))))) tdNil))))
  (tdSeq (tdSetD 3 (tdCall ([0], []) 2 sp_law_pick (tdCons (tdV 0) (tdCons (tdLst (tdCons (tdC (.str ("c.d/" : Str))) (tdCons (tdC (.str ("a.b.c/" : Str))) (tdCons (tdC (.str ("a.b/x/" : Str))) (tdCons (tdC (.str ("y.net/" : Str))) tdNil))))) tdNil))))
  (tdSeq (tdSet 4 (tdLst tdNil))
  (tdSeq (tdFor (tdRng1 (tdCons (tdV 1) tdNil)) (gdName 5) (tdSeq (tdSetD 6 (tdCall ([0], []) 2 sp_law_pick (tdCons (tdV 0) (tdCons (tdLst (tdCons (tdC (.str ("" : Str))) (tdCons (tdC (.str ("a" : Str))) (tdCons (tdC (.str ("b" : Str))) (tdCons (tdC (.str ("ab" : Str))) (tdCons (tdC (.str ("a/b" : Str))) (tdCons (tdC (.str ("?q" : Str))) (tdCons (tdC (.str ("x^20" : Str))) (tdCons (tdC (.str ("~0" : Str))) (tdCons (tdC (.str ("b/" : Str))) (tdCons (tdC (.str ("10" : Str))) (tdCons (tdC (.str ("9" : Str))) (tdCons (tdC (.str ("B" : Str))) tdNil))))))))))))) tdNil))))
  (tdSeq (tdIfS (tdTest (tdBin rdEq (tdCall ([0], []) 2 sp_law_draw (tdCons (tdV 0) (tdCons (tdC (.int 3)) tdNil))) (tdC (.int 0)))) (tdSetD 6 (tdBin rdAdd (tdV 6) (tdCall ([0], []) 2 sp_law_pick (tdCons (tdV 0) (tdCons (tdC (.str ("abcdefghijklmnopqrstuvwxyz0123456789" : Str))) tdNil))))) tdNext)
  (tdSeq (tdSetD 7 (tdBin rdAdd (tdCall ([0], []) 2 sp_law_pick (tdCons (tdV 0) (tdCons (tdLst (tdCons (tdV 2) (tdCons (tdV 2) (tdCons (tdV 3) tdNil)))) tdNil))) (tdV 6)))
  (tdIfS (tdTest (tdBin rdNotIn (tdV 7) (tdV 4))) (tdDrop (tdM 4 rdAppend (tdCons (tdV 7) tdNil))) tdNext)))))
  (tdRet ([0], []) (tdB rdSortedS (tdCons (tdV 4) tdNil)))))))
def t_law_b_phrase_question : TDS := (tdSeq (tdSetD 2 (tdBin rdIx (tdBin rdIx (tdCall ([0], []) 2 sp_law_pick (tdCons (tdV 0) (tdCons (tdV 1) tdNil))) (tdC (.int 2))) (tdC (.int 0))))
  (tdSeq (tdSetD 3 (tdCall ([0], []) 2 sp_law_draw (tdCons (tdV 0) (tdCons (tdBin rdAdd (tdB rdLen (tdCons (tdV 2) tdNil)) (tdC (.int 1))) tdNil))))
  (tdSeq (tdSetD 4 (tdC .none))
  (tdSeq (tdIfS (tdTest (tdBin rdEq (tdCall ([0], []) 2 sp_law_draw (tdCons (tdV 0) (tdCons (tdC (.int 3)) tdNil))) (tdC (.int 0)))) (tdSeq (tdSetD 4 (tdCall ([0], []) 2 sp_law_draw (tdCons (tdV 0) (tdCons (tdC (.int 4)) tdNil))))
  (tdIfS (tdAnd (tdTest (tdBin (rdCmp fun i j => decide (i < j)) (tdV 3) (tdB rdLen (tdCons (tdV 2) tdNil)))) (tdTest (tdBin (rdCmp fun i j => decide (j < i)) (tdCall ([0], []) 2 sp_law_draw (tdCons (tdV 0) (tdCons (tdC (.int 3)) tdNil))) (tdC (.int 0))))) (tdSetD 4 (tdBin rdIx (tdBin rdIx (tdV 2) (tdV 3)) (tdC (.int 1)))) tdNext)) tdNext)
  (tdSeq (tdSet 5 (tdLst tdNil))
  (tdSeq (tdSetD 6 (tdCall ([0], []) 2 sp_law_pick (tdCons (tdV 0) (tdCons (tdLst (tdCons (tdC (.int 1)) (tdCons (tdC (.int 1)) (tdCons (tdC (.int 1)) (tdCons (tdC (.int 2)) (tdCons (tdC (.int 2)) (tdCons (tdC (.int 3)) (tdCons (tdC (.int 4)) tdNil)))))))) tdNil))))
  (tdSeq (tdFor (tdRng1 (tdCons (tdV 6) tdNil)) (gdName 7) (tdSeq (tdSetD 8 (tdC (.int 0)))
  (tdSeq (tdIfS (tdTest (tdBin (rdCmp fun i j => decide (j < i)) (tdV 7) (tdC (.int 0)))) (tdSeq (tdSetD 9 (tdCall ([0], []) 2 sp_law_pick (tdCons (tdV 0) (tdCons (tdLst (tdCons (tdC (.int 0)) (tdCons (tdC (.int 0)) (tdCons (tdC (.int 0)) (tdCons (tdC (.int 1)) (tdCons (tdC (.int 2)) (tdCons (tdCall ([0], []) 2 sp_law_draw (tdCons (tdV 0) (tdCons (tdC (.int 10)) tdNil))) tdNil))))))) tdNil))))
  (tdSeq (tdSetD 8 (tdB rdMin2 (tdCons (tdC (.int 9)) (tdCons (tdB rdMax2 (tdCons (tdC (.int 0)) (tdCons (tdBin rdAdd (tdV 9) (tdCall ([0], []) 2 sp_law_pick (tdCons (tdV 0) (tdCons (tdLst (tdCons (tdC (.int 0)) (tdCons (tdC (.int 0)) (tdCons (tdC (.int 1)) (tdCons (tdNeg (tdC (.int 1))) (tdCons (tdC (.int 9)) tdNil)))))) tdNil)))) tdNil))) tdNil))))
  (tdSetD 3 (tdBin rdAdd (tdBin rdAdd (tdV 3) (tdC (.int 1))) (tdV 9))))) tdNext)
  (tdSeq (tdSetD 10 (tdC (.str ("fox" : Str))))
  (tdSeq (tdIfS (tdTest (tdBin (rdCmp fun i j => decide (i < j)) (tdV 3) (tdB rdLen (tdCons (tdV 2) tdNil)))) (tdSetD 10 (tdBin rdIx (tdBin rdIx (tdV 2) (tdV 3)) (tdC (.int 0)))) tdNext)
  (tdSeq (tdSetD 11 (tdBin (rdCmp fun i j => decide (j < i)) (tdCall ([0], []) 2 sp_law_draw (tdCons (tdV 0) (tdCons (tdC (.int 4)) tdNil))) (tdC (.int 0))))
  (tdSeq (tdIfS (tdNot (tdTru (tdV 11))) (tdSetD 10 (tdSl (tdV 10) tdNoPart (tdPart (tdCall ([0], []) 2 sp_law_draw (tdCons (tdV 0) (tdCons (tdBin rdAdd (tdB rdLen (tdCons (tdV 10) tdNil)) (tdC (.int 1))) tdNil)))))) tdNext)
  (tdDrop (tdM 5 rdAppend (tdCons (tdTup (tdCons (tdV 10) (tdCons (tdV 11) (tdCons (tdV 8) tdNil)))) tdNil))))))))))
  (tdRet ([0], []) (tdTup (tdCons (tdC (.str ("words" : Str))) (tdCons (tdV 4) (tdCons (tdB rdTuple (tdCons (tdV 5) tdNil)) (tdCons (tdCall ([0], []) 2 sp_law_pick (tdCons (tdV 0) (tdCons (tdLst (tdCons (tdC (.int 1)) (tdCons (tdC (.int 1)) (tdCons (tdC (.int 0)) (tdCons (tdC (.int 2)) (tdCons (tdC (.int 5)) (tdCons (tdC (.int 20)) tdNil))))))) tdNil))) (tdCons (tdCall ([0], []) 2 sp_law_pick (tdCons (tdV 0) (tdCons (tdLst (tdCons (tdC (.int 1)) (tdCons (tdC (.int 2)) (tdCons (tdC (.int 3)) (tdCons (tdC (.int 20)) tdNil))))) tdNil))) tdNil))))))))))))))
def t_law_turned : TDS := (tdSeq (tdSetD 2 (tdBin rdIx (tdV 1) (tdC (.int 0))))
  (tdSeq (tdIfS (tdTest (tdBin rdIn (tdV 2) (tdLst (tdCons (tdC (.str ("and" : Str))) (tdCons (tdC (.str ("or" : Str))) tdNil))))) (tdSeq (tdSetD 3 (tdBin rdIx (tdLst (tdCons (tdC (.str ("and" : Str))) (tdCons (tdC (.str ("or" : Str))) tdNil))) (tdB rdInt (tdCons (tdBin rdEq (tdV 2) (tdC (.str ("and" : Str)))) tdNil))))
  (tdSeq (tdSetD 4 (tdB rdTuple (tdCons (tdCall ([0], []) 2 sp_law_shuffled (tdCons (tdV 0) (tdCons (tdBin rdIx (tdV 1) (tdC (.int 1))) tdNil))) tdNil)))
  (tdSeq (tdSetD 5 (tdCall ([0], []) 2 sp_law_draw (tdCons (tdV 0) (tdCons (tdC (.int 4)) tdNil))))
  (tdSeq (tdIfS (tdTest (tdBin rdEq (tdV 5) (tdC (.int 0)))) (tdRet ([0], []) (tdTup (tdCons (tdC (.str ("not" : Str))) (tdCons (tdTup (tdCons (tdV 3) (tdCons (tdB rdTuple (tdCons (tdLc (tdIt (tdV 4)) (gcName 6) tdYes (tdTup (tdCons (tdC (.str ("not" : Str))) (tdCons (tdV 6) tdNil))) [6]) tdNil)) tdNil))) tdNil)))) tdNext)
  (tdSeq (tdIfS (tdAnd (tdTest (tdBin rdEq (tdV 5) (tdC (.int 1)))) (tdTest (tdBin (rdCmp fun i j => decide (j < i)) (tdB rdLen (tdCons (tdV 4) tdNil)) (tdC (.int 0))))) (tdSeq (tdSetD 7 (tdCall ([0], []) 2 sp_law_draw (tdCons (tdV 0) (tdCons (tdB rdLen (tdCons (tdV 4) tdNil)) tdNil))))
  (tdRet ([0], []) (tdTup (tdCons (tdV 2) (tdCons (tdBin rdAdd (tdSl (tdV 4) tdNoPart (tdPart (tdV 7))) (tdTup (tdCons (tdTup (tdCons (tdV 2) (tdCons (tdSl (tdV 4) (tdPart (tdV 7)) tdNoPart) tdNil))) tdNil))) tdNil))))) tdNext)
  (tdSeq (tdIfS (tdTest (tdBin rdEq (tdV 5) (tdC (.int 2)))) (tdRet ([0], []) (tdTup (tdCons (tdC (.str ("and" : Str))) (tdCons (tdTup (tdCons (tdTup (tdCons (tdC (.str ("or" : Str))) (tdCons (tdTup (tdCons (tdTup (tdCons (tdV 2) (tdCons (tdV 4) tdNil))) tdNil)) tdNil))) tdNil)) tdNil)))) tdNext)
  (tdRet ([0], []) (tdTup (tdCons (tdV 2) (tdCons (tdV 4) tdNil)))))))))) tdNext)
  (tdRet ([0], []) (tdCall ([0], []) 2 sp_law_pick (tdCons (tdV 0) (tdCons (tdLst (tdCons (tdTup (tdCons (tdC (.str ("or" : Str))) (tdCons (tdTup (tdCons (tdV 1) tdNil)) tdNil))) (tdCons (tdTup (tdCons (tdC (.str ("and" : Str))) (tdCons (tdTup (tdCons (tdV 1) (tdCons (tdTup (tdCons (tdC (.str ("and" : Str))) (tdCons (tdTup tdNil) tdNil))) tdNil))) tdNil))) (tdCons (tdTup (tdCons (tdC (.str ("or" : Str))) (tdCons (tdTup (tdCons (tdV 1) (tdCons (tdTup (tdCons (tdC (.str ("or" : Str))) (tdCons (tdTup tdNil) tdNil))) tdNil))) tdNil))) (tdCons (tdTup (tdCons (tdC (.str ("not" : Str))) (tdCons (tdV 1) tdNil))) tdNil))))) tdNil))))))
def t_law_pages : TDS := (tdSeq (tdSetD 1 (tdCall ([0], []) 1 sp_law_vocabulary (tdCons (tdV 0) tdNil)))
  (tdSeq (tdSetD 2 (tdCall ([0], []) 2 sp_law_b_addresses (tdCons (tdV 0) (tdCons (tdBin rdAdd (tdC (.int 2)) (tdCall ([0], []) 2 sp_law_draw (tdCons (tdV 0) (tdCons (tdC (.int 3)) tdNil)))) tdNil))))
  (tdSeq (tdSet 3 (tdLst tdNil))
  (tdSeq (tdFor (tdIt (tdV 2)) (gdName 4) (tdSeq (tdSetD 5 (tdCall ([0], []) 2 sp_law_pick (tdCons (tdV 0) (tdCons (tdLst (tdCons (tdC (.int 8)) (tdCons (tdC (.int 8)) (tdCons (tdC (.int 5)) (tdCons (tdC (.int 3)) tdNil))))) tdNil))))
  (tdSeq (tdSetD 6 (tdCall ([0], []) 3 sp_law_some_words (tdCons (tdV 0) (tdCons (tdSl (tdV 1) tdNoPart (tdPart (tdCall ([0], []) 2 sp_law_pick (tdCons (tdV 0) (tdCons (tdLst (tdCons (tdC (.int 2)) (tdCons (tdC (.int 3)) (tdCons (tdC (.int 8)) tdNil)))) tdNil))))) (tdCons (tdV 5) tdNil)))))
  (tdSeq (tdIfS (tdTest (tdBin rdEq (tdCall ([0], []) 2 sp_law_draw (tdCons (tdV 0) (tdCons (tdC (.int 8)) tdNil))) (tdC (.int 0)))) (tdSetD 6 (tdB rdTuple (tdCons (tdLc (tdRng1 (tdCons (tdBin rdAdd (tdC (.int 12)) (tdCall ([0], []) 2 sp_law_draw (tdCons (tdV 0) (tdCons (tdC (.int 13)) tdNil)))) tdNil)) (gcName 7) tdYes (tdCall ([0], []) 2 sp_law_pick (tdCons (tdV 0) (tdCons (tdV 1) tdNil))) [7]) tdNil))) tdNext)
  (tdSeq (tdSetD 8 (tdLc (tdRng1 (tdCons (tdCall ([0], []) 2 sp_law_draw (tdCons (tdV 0) (tdCons (tdC (.int 4)) tdNil))) tdNil)) (gcName 7) tdYes (tdCall ([0], []) 2 sp_law_pick (tdCons (tdV 0) (tdCons (tdBin rdAdd (tdV 2) (tdLst (tdCons (tdC (.str ("z.eu/" : Str))) tdNil))) tdNil))) [7]))
  (tdDrop (tdM 3 rdAppend (tdCons (tdTup (tdCons (tdV 4) (tdCons (tdCall ([0], []) 2 sp_law_draw (tdCons (tdV 0) (tdCons (tdC (.int 50)) tdNil))) (tdCons (tdCall ([0], []) 3 sp_law_b_reading (tdCons (tdV 0) (tdCons (tdV 6) (tdCons (tdV 8) tdNil)))) tdNil)))) tdNil))))))))
  (tdRet ([0], []) (tdV 3))))))
def t_law_same (sp_law_same : FD) : TDS := (tdSeq (tdIfS (tdTest (tdIsi "tuple" (tdV 1))) (tdSeq (tdIfS (tdOr (tdNot (tdTest (tdIsi "tuple" (tdV 0)))) (tdTest (tdBin rdNe (tdB rdLen (tdCons (tdV 0) tdNil)) (tdB rdLen (tdCons (tdV 1) tdNil))))) (tdRet ([], []) (tdC (.bool false))) tdNext)
  (tdSeq (tdFor (tdRng1 (tdCons (tdB rdLen (tdCons (tdV 1) tdNil)) tdNil)) (gdName 2) (tdIfS (tdNot (tdTest (tdCall ([], []) 2 sp_law_same (tdCons (tdBin rdIx (tdV 0) (tdV 2)) (tdCons (tdBin rdIx (tdV 1) (tdV 2)) tdNil))))) (tdRet ([], []) (tdC (.bool false))) tdNext))
  (tdRet ([], []) (tdC (.bool true))))) tdNext)
  (tdSeq (tdIfS (tdOr (tdTest (tdIsN (tdV 1))) (tdTest (tdIsN (tdV 0)))) (tdRet ([], []) (tdAndV (tdIsN (tdV 1)) (tdIsN (tdV 0)))) tdNext)
  (tdSeq (tdIfS (tdTest (tdIsi "str" (tdV 1))) (tdRet ([], []) (tdAndV (tdIsi "str" (tdV 0)) (tdBin rdEq (tdV 0) (tdV 1)))) tdNext)
  (tdSeq (tdIfS (tdOr (tdTest (tdBin rdNe (tdIsi "bool" (tdV 0)) (tdIsi "bool" (tdV 1)))) (tdNot (tdTest (tdIsi "int" (tdV 0))))) (tdRet ([], []) (tdC (.bool false))) tdNext)
  (tdRet ([], []) (tdBin rdEq (tdV 0) (tdV 1)))))))
def t_law_b_question (sp_law_b_question : FD) : TDS := (tdSeq (tdSetD 3 (tdCall ([0], []) 2 sp_law_draw (tdCons (tdV 0) (tdCons (tdC (.int 12)) tdNil))))
  (tdSeq (tdIfS (tdAnd (tdTest (tdBin (rdCmp fun i j => decide (j < i)) (tdV 2) (tdC (.int 1)))) (tdTest (tdBin (rdCmp fun i j => decide (i < j)) (tdV 3) (tdC (.int 6))))) (tdSeq (tdIfS (tdTest (tdBin rdEq (tdV 3) (tdC (.int 0)))) (tdRet ([0], []) (tdTup (tdCons (tdC (.str ("not" : Str))) (tdCons (tdCall ([0], []) 3 sp_law_b_question (tdCons (tdV 0) (tdCons (tdV 1) (tdCons (tdBin rdSub (tdV 2) (tdC (.int 1))) tdNil)))) tdNil)))) tdNext)
  (tdSeq (tdSetD 4 (tdLc (tdRng1 (tdCons (tdCall ([0], []) 2 sp_law_pick (tdCons (tdV 0) (tdCons (tdLst (tdCons (tdC (.int 2)) (tdCons (tdC (.int 2)) (tdCons (tdC (.int 1)) (tdCons (tdC (.int 3)) (tdCons (tdC (.int 0)) (tdCons (tdC (.int 2)) (tdCons (tdC (.int 4)) (tdCons (tdC (.int 2)) tdNil))))))))) tdNil))) tdNil)) (gcName 5) tdYes (tdCall ([0], []) 3 sp_law_b_question (tdCons (tdV 0) (tdCons (tdV 1) (tdCons (tdBin rdSub (tdV 2) (tdC (.int 1))) tdNil)))) [5]))
  (tdRet ([0], []) (tdTup (tdCons (tdBin rdIx (tdLst (tdCons (tdC (.str ("and" : Str))) (tdCons (tdC (.str ("or" : Str))) tdNil))) (tdCall ([0], []) 2 sp_law_draw (tdCons (tdV 0) (tdCons (tdC (.int 2)) tdNil)))) (tdCons (tdB rdTuple (tdCons (tdV 4) tdNil)) tdNil)))))) tdNext)
  (tdSeq (tdSetD 6 (tdCall ([0], []) 2 sp_law_pick (tdCons (tdV 0) (tdCons (tdV 1) tdNil))))
  (tdSeq (tdIfS (tdTest (tdBin rdEq (tdV 3) (tdC (.int 9)))) (tdRet ([0], []) (tdTup (tdCons (tdC (.str ("under" : Str))) (tdCons (tdSl (tdBin rdIx (tdV 6) (tdC (.int 0))) tdNoPart (tdPart (tdCall ([0], []) 2 sp_law_draw (tdCons (tdV 0) (tdCons (tdBin rdAdd (tdB rdLen (tdCons (tdBin rdIx (tdV 6) (tdC (.int 0))) tdNil)) (tdC (.int 1))) tdNil))))) tdNil)))) tdNext)
  (tdSeq (tdIfS (tdTest (tdBin rdEq (tdV 3) (tdC (.int 10)))) (tdRet ([0], []) (tdTup (tdCons (tdC (.str ("links" : Str))) (tdCons (tdCall ([0], []) 2 sp_law_pick (tdCons (tdV 0) (tdCons (tdBin rdAdd (tdB rdList (tdCons (tdBin rdIx (tdBin rdIx (tdV 6) (tdC (.int 2))) (tdC (.int 1))) tdNil)) (tdLst (tdCons (tdBin rdIx (tdV 6) (tdC (.int 0))) (tdCons (tdC (.str ("z.eu/" : Str))) tdNil)))) tdNil))) tdNil)))) tdNext)
  (tdSeq (tdIfS (tdTest (tdBin rdEq (tdV 3) (tdC (.int 11)))) (tdRet ([0], []) (tdTup (tdCons (tdC (.str ("since" : Str))) (tdCons (tdBin rdAdd (tdBin rdIx (tdV 6) (tdC (.int 1))) (tdCall ([0], []) 2 sp_law_draw (tdCons (tdV 0) (tdCons (tdC (.int 2)) tdNil)))) tdNil)))) tdNext)
  (tdRet ([0], []) (tdCall ([0], []) 2 sp_law_b_phrase_question (tdCons (tdV 0) (tdCons (tdV 1) tdNil))))))))))
def t_size (sp_size : FD) : TDS := (tdSeq (tdSetD 1 (tdBin rdIx (tdV 0) (tdC (.int 0))))
  (tdSeq (tdIfS (tdTest (tdBin rdEq (tdV 1) (tdC (.str ("words" : Str))))) (tdRet ([], []) (tdBin rdAdd (tdC (.int 1)) (tdB rdLen (tdCons (tdBin rdIx (tdV 0) (tdC (.int 2))) tdNil)))) tdNext)
  (tdSeq (tdIfS (tdOr (tdTest (tdBin rdEq (tdV 1) (tdC (.str ("and" : Str))))) (tdTest (tdBin rdEq (tdV 1) (tdC (.str ("or" : Str)))))) (tdRet ([], []) (tdBin rdAdd (tdC (.int 1)) (tdB rdSum (tdCons (tdLc (tdIt (tdBin rdIx (tdV 0) (tdC (.int 1)))) (gcName 2) tdYes (tdCall ([], []) 1 sp_size (tdCons (tdV 2) tdNil)) [2]) tdNil)))) tdNext)
  (tdSeq (tdIfS (tdTest (tdBin rdEq (tdV 1) (tdC (.str ("not" : Str))))) (tdRet ([], []) (tdBin rdAdd (tdC (.int 1)) (tdCall ([], []) 1 sp_size (tdCons (tdBin rdIx (tdV 0) (tdC (.int 1))) tdNil)))) tdNext)
  (tdRet ([], []) (tdC (.int 1)))))))
def t_questions_of_words (sp_questions_of_words : FD) : TDS := (tdSeq (tdSetD 1 (tdBin rdIx (tdV 0) (tdC (.int 0))))
  (tdSeq (tdIfS (tdTest (tdBin rdEq (tdV 1) (tdC (.str ("words" : Str))))) (tdRet ([], []) (tdLst (tdCons (tdV 0) tdNil))) tdNext)
  (tdSeq (tdIfS (tdTest (tdBin rdEq (tdV 1) (tdC (.str ("not" : Str))))) (tdRet ([], []) (tdCall ([], []) 1 sp_questions_of_words (tdCons (tdBin rdIx (tdV 0) (tdC (.int 1))) tdNil))) tdNext)
  (tdSeq (tdSetD 2 (tdLst tdNil))
  (tdSeq (tdIfS (tdOr (tdTest (tdBin rdEq (tdV 1) (tdC (.str ("and" : Str))))) (tdTest (tdBin rdEq (tdV 1) (tdC (.str ("or" : Str)))))) (tdFor (tdIt (tdBin rdIx (tdV 0) (tdC (.int 1)))) (gdName 3) (tdSetD 2 (tdBin rdAdd (tdV 2) (tdCall ([], []) 1 sp_questions_of_words (tdCons (tdV 3) tdNil))))) tdNext)
  (tdRet ([], []) (tdV 2)))))))
def t_law_s_size (sp_law_s_size : FD) : TDS := (tdSeq (tdIfS (tdTest (tdBin rdEq (tdBin rdIx (tdV 0) (tdC (.int 0))) (tdC (.str ("words" : Str))))) (tdRet ([], []) (tdBin rdAdd (tdC (.int 1)) (tdB rdLen (tdCons (tdBin rdIx (tdV 0) (tdC (.int 2))) tdNil)))) tdNext)
  (tdSeq (tdIfS (tdTest (tdBin rdEq (tdBin rdIx (tdV 0) (tdC (.int 0))) (tdC (.str ("not" : Str))))) (tdRet ([], []) (tdBin rdAdd (tdC (.int 1)) (tdCall ([], []) 1 sp_law_s_size (tdCons (tdBin rdIx (tdV 0) (tdC (.int 1))) tdNil)))) tdNext)
  (tdSeq (tdIfS (tdTest (tdBin rdIn (tdBin rdIx (tdV 0) (tdC (.int 0))) (tdLst (tdCons (tdC (.str ("and" : Str))) (tdCons (tdC (.str ("or" : Str))) tdNil))))) (tdRet ([], []) (tdBin rdAdd (tdC (.int 1)) (tdB rdSum (tdCons (tdLc (tdIt (tdBin rdIx (tdV 0) (tdC (.int 1)))) (gcName 1) tdYes (tdCall ([], []) 1 sp_law_s_size (tdCons (tdV 1) tdNil)) [1]) tdNil)))) tdNext)
  (tdRet ([], []) (tdC (.int 1))))))
def t_law_deep (sp_law_deep : FD) : TDS := (tdSeq (tdIfS (tdTest (tdBin rdEq (tdBin rdIx (tdV 0) (tdC (.int 0))) (tdC (.str ("not" : Str))))) (tdRet ([], []) (tdBin rdAdd (tdC (.int 1)) (tdCall ([], []) 1 sp_law_deep (tdCons (tdBin rdIx (tdV 0) (tdC (.int 1))) tdNil)))) tdNext)
  (tdSeq (tdIfS (tdTest (tdBin rdIn (tdBin rdIx (tdV 0) (tdC (.int 0))) (tdLst (tdCons (tdC (.str ("and" : Str))) (tdCons (tdC (.str ("or" : Str))) tdNil))))) (tdRet ([], []) (tdBin rdAdd (tdC (.int 1)) (tdB rdMaxL (tdCons (tdBin rdAdd (tdLst (tdCons (tdC (.int 0)) tdNil)) (tdLc (tdIt (tdBin rdIx (tdV 0) (tdC (.int 1)))) (gcName 1) tdYes (tdCall ([], []) 1 sp_law_deep (tdCons (tdV 1) tdNil)) [1])) tdNil)))) tdNext)
  (tdRet ([], []) (tdC (.int 1)))))
def t_found : TDS := (tdRet ([], []) (tdB rdTuple (tdCons (tdLc (tdIt (tdCall ([], []) 1 sp_questions_of_words (tdCons (tdV 1) tdNil))) (gcName 2) tdYes (tdCall ([], []) 3 sp_places (tdCons (tdBin rdIx (tdBin rdIx (tdV 0) (tdC (.int 2))) (tdC (.int 0))) (tdCons (tdBin rdIx (tdV 2) (tdC (.int 1))) (tdCons (tdBin rdIx (tdV 2) (tdC (.int 2))) tdNil)))) [2]) tdNil)))
def t_law_b_asked : TDS := (tdSeq (tdSetD 2 (tdCall ([0], []) 3 sp_law_b_question (tdCons (tdV 0) (tdCons (tdV 1) (tdCons (tdCall ([0], []) 2 sp_law_pick (tdCons (tdV 0) (tdCons (tdLst (tdCons (tdC (.int 1)) (tdCons (tdC (.int 2)) (tdCons (tdC (.int 2)) (tdCons (tdC (.int 3)) (tdCons (tdC (.int 3)) tdNil)))))) tdNil))) tdNil)))))
  (tdSeq (tdIfS (tdTest (tdBin rdEq (tdCall ([0], []) 2 sp_law_draw (tdCons (tdV 0) (tdCons (tdC (.int 16)) tdNil))) (tdC (.int 0)))) (tdSetD 2 (tdTup (tdCons (tdC (.str ("not" : Str))) (tdCons (tdTup (tdCons (tdC (.str ("and" : Str))) (tdCons (tdTup (tdCons (tdTup (tdCons (tdC (.str ("or" : Str))) (tdCons (tdTup (tdCons (tdTup (tdCons (tdC (.str ("not" : Str))) (tdCons (tdCall ([0], []) 2 sp_law_b_phrase_question (tdCons (tdV 0) (tdCons (tdV 1) tdNil))) tdNil))) tdNil)) tdNil))) tdNil)) tdNil))) tdNil)))) tdNext)
  (tdSeq (tdIfS (tdTest (tdBin (rdCmp fun i j => decide (j < i)) (tdCall ([], []) 1 sp_law_s_size (tdCons (tdV 2) tdNil)) (tdC (.int 16)))) (tdRet ([0], []) (tdCall ([0], []) 2 sp_law_b_phrase_question (tdCons (tdV 0) (tdCons (tdV 1) tdNil)))) tdNext)
  (tdRet ([0], []) (tdV 2)))))
def t_law_s_score (sp_law_s_score : FD) : TDS := (tdSeq (tdSetD 2 (tdBin rdIx (tdV 1) (tdC (.int 0))))
  (tdSeq (tdIfS (tdTest (tdBin rdEq (tdV 2) (tdC (.str ("words" : Str))))) (tdSeq (tdSetD 3 (tdB rdLen (tdCons (tdCall ([], []) 3 sp_law_s_places (tdCons (tdBin rdIx (tdBin rdIx (tdV 0) (tdC (.int 2))) (tdC (.int 0))) (tdCons (tdBin rdIx (tdV 1) (tdC (.int 1))) (tdCons (tdBin rdIx (tdV 1) (tdC (.int 2))) tdNil)))) tdNil)))
  (tdRet ([], []) (tdIf (tdTest (tdBin rdEq (tdV 3) (tdC (.int 0)))) (tdC .none) (tdBin rdMul (tdBin rdIx (tdV 1) (tdC (.int 3))) (tdB rdMin2 (tdCons (tdV 3) (tdCons (tdBin rdIx (tdV 1) (tdC (.int 4))) tdNil))))))) tdNext)
  (tdSeq (tdIfS (tdTest (tdBin rdEq (tdV 2) (tdC (.str ("under" : Str))))) (tdRet ([], []) (tdIf (tdTest (tdSw (tdBin rdIx (tdV 0) (tdC (.int 0))) (tdBin rdIx (tdV 1) (tdC (.int 1))))) (tdC (.int 0)) (tdC .none))) tdNext)
  (tdSeq (tdIfS (tdTest (tdBin rdEq (tdV 2) (tdC (.str ("links" : Str))))) (tdRet ([], []) (tdIf (tdTest (tdBin rdIn (tdBin rdIx (tdV 1) (tdC (.int 1))) (tdBin rdIx (tdBin rdIx (tdV 0) (tdC (.int 2))) (tdC (.int 1))))) (tdC (.int 0)) (tdC .none))) tdNext)
  (tdSeq (tdIfS (tdTest (tdBin rdEq (tdV 2) (tdC (.str ("since" : Str))))) (tdRet ([], []) (tdIf (tdTest (tdBin (rdCmp fun i j => decide (j ≤ i)) (tdBin rdIx (tdV 0) (tdC (.int 1))) (tdBin rdIx (tdV 1) (tdC (.int 1))))) (tdC (.int 0)) (tdC .none))) tdNext)
  (tdSeq (tdIfS (tdTest (tdBin rdEq (tdV 2) (tdC (.str ("not" : Str))))) (tdRet ([], []) (tdIf (tdTest (tdIsN (tdCall ([], []) 2 sp_law_s_score (tdCons (tdV 0) (tdCons (tdBin rdIx (tdV 1) (tdC (.int 1))) tdNil))))) (tdC (.int 0)) (tdC .none))) tdNext)
  (tdSeq (tdSetD 4 (tdLc (tdIt (tdBin rdIx (tdV 1) (tdC (.int 1)))) (gcName 5) tdYes (tdCall ([], []) 2 sp_law_s_score (tdCons (tdV 0) (tdCons (tdV 5) tdNil))) [5]))
  (tdSeq (tdSetD 6 (tdLc (tdIt (tdV 4)) (gcName 7) (tdTest (tdNotN (tdV 7))) (tdV 7) [7]))
  (tdSeq (tdIfS (tdTest (tdBin rdEq (tdV 2) (tdC (.str ("and" : Str))))) (tdRet ([], []) (tdIf (tdTest (tdBin rdEq (tdB rdLen (tdCons (tdV 6) tdNil)) (tdB rdLen (tdCons (tdV 4) tdNil)))) (tdB rdSum (tdCons (tdV 6) tdNil)) (tdC .none))) tdNext)
  (tdRet ([], []) (tdIf (tdTest (tdBin (rdCmp fun i j => decide (j < i)) (tdB rdLen (tdCons (tdV 6) tdNil)) (tdC (.int 0)))) (tdB rdSum (tdCons (tdV 6) tdNil)) (tdC .none))))))))))))
def t_law_s_found (sp_law_s_found : FD) : TDS := (tdSeq (tdIfS (tdTest (tdBin rdEq (tdBin rdIx (tdV 1) (tdC (.int 0))) (tdC (.str ("words" : Str))))) (tdRet ([], []) (tdTup (tdCons (tdCall ([], []) 3 sp_law_s_places (tdCons (tdBin rdIx (tdBin rdIx (tdV 0) (tdC (.int 2))) (tdC (.int 0))) (tdCons (tdBin rdIx (tdV 1) (tdC (.int 1))) (tdCons (tdBin rdIx (tdV 1) (tdC (.int 2))) tdNil)))) tdNil))) tdNext)
  (tdSeq (tdIfS (tdTest (tdBin rdEq (tdBin rdIx (tdV 1) (tdC (.int 0))) (tdC (.str ("not" : Str))))) (tdRet ([], []) (tdCall ([], []) 2 sp_law_s_found (tdCons (tdV 0) (tdCons (tdBin rdIx (tdV 1) (tdC (.int 1))) tdNil)))) tdNext)
  (tdSeq (tdSetD 2 (tdTup tdNil))
  (tdSeq (tdIfS (tdTest (tdBin rdIn (tdBin rdIx (tdV 1) (tdC (.int 0))) (tdLst (tdCons (tdC (.str ("and" : Str))) (tdCons (tdC (.str ("or" : Str))) tdNil))))) (tdFor (tdIt (tdBin rdIx (tdV 1) (tdC (.int 1)))) (gdName 3) (tdSetD 2 (tdBin rdAdd (tdV 2) (tdCall ([], []) 2 sp_law_s_found (tdCons (tdV 0) (tdCons (tdV 3) tdNil)))))) tdNext)
  (tdRet ([], []) (tdV 2))))))
def t_law_case : TDS := (tdSeq (tdIfS (tdTest (tdBin rdEq (tdV 0) (tdC (.str ("places" : Str))))) (tdRet ([], []) (tdTup (tdCons (tdV 0) (tdCons (tdV 1) (tdCons (tdV 2) (tdCons (tdCall ([], []) 3 sp_law_s_places (tdCons (tdV 1) (tdCons (tdBin rdIx (tdV 2) (tdC (.int 1))) (tdCons (tdBin rdIx (tdV 2) (tdC (.int 2))) tdNil)))) tdNil)))))) tdNext)
  (tdSeq (tdIfS (tdTest (tdBin rdEq (tdV 0) (tdC (.str ("score" : Str))))) (tdRet ([], []) (tdTup (tdCons (tdV 0) (tdCons (tdV 1) (tdCons (tdV 2) (tdCons (tdCall ([], []) 2 sp_law_s_score (tdCons (tdV 1) (tdCons (tdV 2) tdNil))) tdNil)))))) tdNext)
  (tdSeq (tdIfS (tdTest (tdBin rdEq (tdV 0) (tdC (.str ("found" : Str))))) (tdRet ([], []) (tdTup (tdCons (tdV 0) (tdCons (tdV 1) (tdCons (tdV 2) (tdCons (tdCall ([], []) 2 sp_law_s_found (tdCons (tdV 1) (tdCons (tdV 2) tdNil))) tdNil)))))) tdNext)
  (tdRet ([], []) (tdTup (tdCons (tdV 0) (tdCons (tdV 1) (tdCons (tdV 2) (tdCons (tdCall ([], []) 1 sp_law_s_size (tdCons (tdV 2) tdNil)) tdNil)))))))))
def t_score_of_some (sp_score : FD) : TDS := (tdSeq (tdAsg (tdV 1) (gdTup 2 (gdCons (gdName 2) (gdCons (gdName 3) gdNil))))
  (tdSeq (tdSetD 4 (tdLc (tdIt (tdV 3)) (gcName 5) tdYes (tdCall ([], []) 2 sp_score (tdCons (tdV 0) (tdCons (tdV 5) tdNil))) [5]))
  (tdSeq (tdSetD 6 (tdLc (tdIt (tdV 4)) (gcName 7) (tdTest (tdNotN (tdV 7))) (tdV 7) [7]))
  (tdSeq (tdIfS (tdAnd (tdTest (tdBin rdEq (tdV 2) (tdC (.str ("and" : Str))))) (tdTest (tdBin (rdCmp fun i j => decide (i < j)) (tdB rdLen (tdCons (tdV 6) tdNil)) (tdB rdLen (tdCons (tdV 4) tdNil))))) (tdRet ([], []) (tdC .none)) tdNext)
  (tdSeq (tdIfS (tdAnd (tdTest (tdBin rdEq (tdV 2) (tdC (.str ("or" : Str))))) (tdTest (tdBin rdEq (tdB rdLen (tdCons (tdV 6) tdNil)) (tdC (.int 0))))) (tdRet ([], []) (tdC .none)) tdNext)
  (tdRet ([], []) (tdB rdSum (tdCons (tdV 6) tdNil))))))))
def t_score (sp_score_of_some : FD) (sp_score : FD) : TDS := (tdSeq (tdSetD 2 (tdBin rdIx (tdV 1) (tdC (.int 0))))
  (tdSeq (tdIfS (tdTest (tdBin rdEq (tdV 2) (tdC (.str ("words" : Str))))) (tdRet ([], []) (tdCall ([], []) 2 sp_score_of_words (tdCons (tdV 0) (tdCons (tdV 1) tdNil)))) tdNext)
  (tdSeq (tdIfS (tdOr (tdTest (tdBin rdEq (tdV 2) (tdC (.str ("and" : Str))))) (tdTest (tdBin rdEq (tdV 2) (tdC (.str ("or" : Str)))))) (tdRet ([], []) (tdCall ([], []) 2 sp_score_of_some (tdCons (tdV 0) (tdCons (tdV 1) tdNil)))) tdNext)
  (tdSeq (tdIfS (tdTest (tdBin rdEq (tdV 2) (tdC (.str ("not" : Str))))) (tdRet ([], []) (tdCall ([], []) 1 sp_nought_if (tdCons (tdIsN (tdCall ([], []) 2 sp_score (tdCons (tdV 0) (tdCons (tdBin rdIx (tdV 1) (tdC (.int 1))) tdNil)))) tdNil))) tdNext)
  (tdSeq (tdIfS (tdTest (tdBin rdEq (tdV 2) (tdC (.str ("under" : Str))))) (tdRet ([], []) (tdCall ([], []) 1 sp_nought_if (tdCons (tdSw (tdBin rdIx (tdV 0) (tdC (.int 0))) (tdBin rdIx (tdV 1) (tdC (.int 1)))) tdNil))) tdNext)
  (tdSeq (tdIfS (tdTest (tdBin rdEq (tdV 2) (tdC (.str ("links" : Str))))) (tdRet ([], []) (tdCall ([], []) 1 sp_nought_if (tdCons (tdBin rdIn (tdBin rdIx (tdV 1) (tdC (.int 1))) (tdBin rdIx (tdBin rdIx (tdV 0) (tdC (.int 2))) (tdC (.int 1)))) tdNil))) tdNext)
  (tdRet ([], []) (tdCall ([], []) 1 sp_nought_if (tdCons (tdBin (rdCmp fun i j => decide (j ≤ i)) (tdBin rdIx (tdV 0) (tdC (.int 1))) (tdBin rdIx (tdV 1) (tdC (.int 1)))) tdNil)))))))))
def t_law_told : TDS := (tdSeq (tdIfS (tdTest (tdBin rdEq (tdV 0) (tdC (.str ("places" : Str))))) (tdRet ([], []) (tdCall ([], []) 3 sp_places (tdCons (tdV 1) (tdCons (tdBin rdIx (tdV 2) (tdC (.int 1))) (tdCons (tdBin rdIx (tdV 2) (tdC (.int 2))) tdNil))))) tdNext)
  (tdSeq (tdIfS (tdTest (tdBin rdEq (tdV 0) (tdC (.str ("score" : Str))))) (tdRet ([], []) (tdCall ([], []) 2 sp_score (tdCons (tdV 1) (tdCons (tdV 2) tdNil)))) tdNext)
  (tdSeq (tdIfS (tdTest (tdBin rdEq (tdV 0) (tdC (.str ("found" : Str))))) (tdRet ([], []) (tdCall ([], []) 2 sp_found (tdCons (tdV 1) (tdCons (tdV 2) tdNil)))) tdNext)
  (tdRet ([], []) (tdCall ([], []) 1 sp_size (tdCons (tdV 2) tdNil))))))
def t_law_right : TDS := (tdRet ([], []) (tdCall ([], []) 2 sp_law_same (tdCons (tdCall ([], []) 3 sp_law_told (tdCons (tdBin rdIx (tdV 0) (tdC (.int 0))) (tdCons (tdBin rdIx (tdV 0) (tdC (.int 1))) (tdCons (tdBin rdIx (tdV 0) (tdC (.int 2))) tdNil)))) (tdCons (tdBin rdIx (tdV 0) (tdC (.int 3))) tdNil))))
def t_law : TDS := (tdSeq (tdSet 1 (tdCall ([], []) 1 sp_law_tape (tdCons (tdV 0) tdNil)))
  (tdSeq (tdSetD 2 (tdCall ([0], []) 1 sp_law_pages (tdCons (tdV 1) tdNil)))
  (tdSeq (tdSetD 3 (tdCall ([0], []) 2 sp_law_b_phrase_question (tdCons (tdV 1) (tdCons (tdV 2) tdNil))))
  (tdSeq (tdSetD 4 (tdCall ([0], []) 2 sp_law_b_asked (tdCons (tdV 1) (tdCons (tdV 2) tdNil))))
  (tdSeq (tdSetD 5 (tdCall ([0], []) 2 sp_law_turned (tdCons (tdV 1) (tdCons (tdV 4) tdNil))))
  (tdSeq (tdIfS (tdOr (tdTest (tdBin (rdCmp fun i j => decide (j < i)) (tdCall ([], []) 1 sp_law_s_size (tdCons (tdV 5) tdNil)) (tdC (.int 16)))) (tdTest (tdBin (rdCmp fun i j => decide (j < i)) (tdCall ([], []) 1 sp_law_deep (tdCons (tdV 5) tdNil)) (tdC (.int 5))))) (tdSetD 5 (tdCall ([0], []) 2 sp_law_b_phrase_question (tdCons (tdV 1) (tdCons (tdV 2) tdNil)))) tdNext)
  (tdSeq (tdSetD 6 (tdCall ([0], []) 2 sp_law_pick (tdCons (tdV 1) (tdCons (tdV 2) tdNil))))
  (tdSeq (tdSet 7 (tdLst (tdCons (tdCall ([], []) 3 sp_law_case (tdCons (tdC (.str ("places" : Str))) (tdCons (tdBin rdIx (tdBin rdIx (tdV 6) (tdC (.int 2))) (tdC (.int 0))) (tdCons (tdV 3) tdNil)))) (tdCons (tdCall ([], []) 3 sp_law_case (tdCons (tdC (.str ("score" : Str))) (tdCons (tdV 6) (tdCons (tdV 4) tdNil)))) (tdCons (tdCall ([], []) 3 sp_law_case (tdCons (tdC (.str ("found" : Str))) (tdCons (tdV 6) (tdCons (tdV 4) tdNil)))) tdNil)))))
  (tdSeq (tdSet 7 (tdBin rdAdd (tdV 7) (tdLst (tdCons (tdCall ([], []) 3 sp_law_case (tdCons (tdC (.str ("size" : Str))) (tdCons (tdC .none) (tdCons (tdV 4) tdNil)))) (tdCons (tdCall ([], []) 3 sp_law_case (tdCons (tdC (.str ("score" : Str))) (tdCons (tdV 6) (tdCons (tdV 5) tdNil)))) (tdCons (tdCall ([], []) 3 sp_law_case (tdCons (tdC (.str ("score" : Str))) (tdCons (tdV 6) (tdCons (tdV 3) tdNil)))) tdNil))))))
  (tdSeq (tdSetD 8 (tdTup (tdCons (tdC (.str ("words" : Str))) (tdCons (tdCall ([0], []) 2 sp_law_pick (tdCons (tdV 1) (tdCons (tdLst (tdCons (tdC .none) (tdCons (tdC .none) (tdCons (tdC (.int 0)) tdNil)))) tdNil))) (tdCons (tdTup (tdCons (tdTup (tdCons (tdC (.str ("" : Str))) (tdCons (tdC (.bool false)) (tdCons (tdC (.int 0)) tdNil)))) tdNil)) (tdCons (tdCall ([0], []) 2 sp_law_pick (tdCons (tdV 1) (tdCons (tdLst (tdCons (tdC (.int 1)) (tdCons (tdC (.int 3)) (tdCons (tdC (.int 20)) tdNil)))) tdNil))) (tdCons (tdCall ([0], []) 2 sp_law_pick (tdCons (tdV 1) (tdCons (tdLst (tdCons (tdC (.int 20)) (tdCons (tdC (.int 20)) (tdCons (tdC (.int 12)) (tdCons (tdC (.int 1)) tdNil))))) tdNil))) tdNil)))))))
  (tdSeq (tdDrop (tdM 7 rdAppend (tdCons (tdCall ([], []) 3 sp_law_case (tdCons (tdC (.str ("score" : Str))) (tdCons (tdCall ([0], []) 2 sp_law_pick (tdCons (tdV 1) (tdCons (tdV 2) tdNil))) (tdCons (tdV 8) tdNil)))) tdNil)))
  (tdSeq (tdSetD 9 (tdLst (tdCons (tdCall ([], []) 3 sp_law_case (tdCons (tdC (.str ("found" : Str))) (tdCons (tdV 6) (tdCons (tdV 5) tdNil)))) (tdCons (tdCall ([], []) 3 sp_law_case (tdCons (tdC (.str ("size" : Str))) (tdCons (tdC .none) (tdCons (tdV 5) tdNil)))) tdNil))))
  (tdSeq (tdFor (tdIt (tdV 2)) (gdName 10) (tdSetD 9 (tdBin rdAdd (tdV 9) (tdLst (tdCons (tdCall ([], []) 3 sp_law_case (tdCons (tdC (.str ("score" : Str))) (tdCons (tdV 10) (tdCons (tdV 4) tdNil)))) (tdCons (tdCall ([], []) 3 sp_law_case (tdCons (tdC (.str ("places" : Str))) (tdCons (tdBin rdIx (tdBin rdIx (tdV 10) (tdC (.int 2))) (tdC (.int 0))) (tdCons (tdV 3) tdNil)))) (tdCons (tdCall ([], []) 3 sp_law_case (tdCons (tdC (.str ("score" : Str))) (tdCons (tdV 10) (tdCons (tdV 5) tdNil)))) tdNil)))))))
  (tdSeq (tdFor (tdIt (tdCall ([0], []) 2 sp_law_turns (tdCons (tdV 1) (tdCons (tdB rdLen (tdCons (tdV 7) tdNil)) tdNil)))) (gdName 11) (tdIfS (tdNot (tdTest (tdCall ([], []) 1 sp_law_right (tdCons (tdBin rdIx (tdV 7) (tdV 11)) tdNil)))) (tdRet ([], []) (tdC (.bool false))) tdNext))
  (tdSeq (tdFor (tdIt (tdBin rdAdd (tdV 9) (tdV 7))) (gdName 12) (tdIfS (tdNot (tdTest (tdCall ([], []) 1 sp_law_right (tdCons (tdV 12) tdNil)))) (tdRet ([], []) (tdC (.bool false))) tdNext))
  (tdRet ([], []) (tdC (.bool true))))))))))))))))))
end Dlk33

set_option Elab.async false
set_option linter.all false
set_option maxRecDepth 100000
set_option maxHeartbeats 0
set_option autoImplicit false
namespace Dlk33
open PySem PySem.Spec L2 DL
def topS (i : Nat) : Stmt := PySem.Challenge.pw_gatherhouse_k33_what_questions_give.main.body.getD i (.Pass ⟨0, 0, 0, 0⟩)
abbrev s_fits_member : Stmt := topS 1
abbrev n_fits_member : List Str := ["word", "kind", "member", "text", "whole", "slack"]
abbrev p_fits_member : List Str := ["word", "kind", "member"]
theorem sc_fits_member : FnScope n_fits_member p_fits_member (defScope s_fits_member) := ⟨rfl, rfl, rfl, by decide +kernel, rfl, by decide +kernel, by decide +kernel⟩
abbrev s_nought_if : Stmt := topS 5
abbrev n_nought_if : List Str := ["is_so"]
abbrev p_nought_if : List Str := ["is_so"]
theorem sc_nought_if : FnScope n_nought_if p_nought_if (defScope s_nought_if) := ⟨rfl, rfl, rfl, by decide +kernel, rfl, by decide +kernel, by decide +kernel⟩
abbrev s_law_tape : Stmt := topS 12
abbrev n_law_tape : List Str := ["script", "mixed", "cell"]
abbrev p_law_tape : List Str := ["script"]
theorem sc_law_tape : FnScope n_law_tape p_law_tape (defScope s_law_tape) := ⟨rfl, rfl, rfl, by decide +kernel, rfl, by decide +kernel, by decide +kernel⟩
abbrev s_law_draw : Stmt := topS 13
abbrev n_law_draw : List Str := ["tape", "many", "place", "number"]
abbrev p_law_draw : List Str := ["tape", "many"]
theorem sc_law_draw : FnScope n_law_draw p_law_draw (defScope s_law_draw) := ⟨rfl, rfl, rfl, by decide +kernel, rfl, by decide +kernel, by decide +kernel⟩
abbrev s_law_s_fits : Stmt := topS 20
abbrev n_law_s_fits : List Str := ["pair", "kind", "member"]
abbrev p_law_s_fits : List Str := ["pair", "kind", "member"]
theorem sc_law_s_fits : FnScope n_law_s_fits p_law_s_fits (defScope s_law_s_fits) := ⟨rfl, rfl, rfl, by decide +kernel, rfl, by decide +kernel, by decide +kernel⟩
abbrev s_places : Stmt := topS 2
abbrev n_places : List Str := ["words", "kind", "phrase", "stands", "at", "member", "fitting", "word", "reach", "q", "is_there"]
abbrev p_places : List Str := ["words", "kind", "phrase"]
theorem sc_places : FnScope n_places p_places (defScope s_places) := ⟨rfl, rfl, rfl, by decide +kernel, rfl, by decide +kernel, by decide +kernel⟩
abbrev s_law_pick : Stmt := topS 14
abbrev n_law_pick : List Str := ["tape", "menu"]
abbrev p_law_pick : List Str := ["tape", "menu"]
theorem sc_law_pick : FnScope n_law_pick p_law_pick (defScope s_law_pick) := ⟨rfl, rfl, rfl, by decide +kernel, rfl, by decide +kernel, by decide +kernel⟩
abbrev s_law_turns : Stmt := topS 15
abbrev n_law_turns : List Str := ["tape", "many", "held", "turns", "k"]
abbrev p_law_turns : List Str := ["tape", "many"]
theorem sc_law_turns : FnScope n_law_turns p_law_turns (defScope s_law_turns) := ⟨rfl, rfl, rfl, by decide +kernel, rfl, by decide +kernel, by decide +kernel⟩
abbrev s_law_shuffled : Stmt := topS 16
abbrev n_law_shuffled : List Str := ["tape", "menu", "held", "turned", "k"]
abbrev p_law_shuffled : List Str := ["tape", "menu"]
theorem sc_law_shuffled : FnScope n_law_shuffled p_law_shuffled (defScope s_law_shuffled) := ⟨rfl, rfl, rfl, by decide +kernel, rfl, by decide +kernel, by decide +kernel⟩
abbrev s_law_s_places : Stmt := topS 21
abbrev n_law_s_places : List Str := ["words", "kind", "phrase", "stands", "k", "fit", "q", "most", "r"]
abbrev p_law_s_places : List Str := ["words", "kind", "phrase"]
theorem sc_law_s_places : FnScope n_law_s_places p_law_s_places (defScope s_law_s_places) := ⟨rfl, rfl, rfl, by decide +kernel, rfl, by decide +kernel, by decide +kernel⟩
abbrev s_law_b_reading : Stmt := topS 26
abbrev n_law_b_reading : List Str := ["tape", "words", "links", "pairs", "kind", "word"]
abbrev p_law_b_reading : List Str := ["tape", "words", "links"]
theorem sc_law_b_reading : FnScope n_law_b_reading p_law_b_reading (defScope s_law_b_reading) := ⟨rfl, rfl, rfl, by decide +kernel, rfl, by decide +kernel, by decide +kernel⟩
abbrev s_score_of_words : Stmt := topS 6
abbrev n_score_of_words : List Str := ["page", "question", "word", "kind", "phrase", "points", "most", "many"]
abbrev p_score_of_words : List Str := ["page", "question"]
theorem sc_score_of_words : FnScope n_score_of_words p_score_of_words (defScope s_score_of_words) := ⟨rfl, rfl, rfl, by decide +kernel, rfl, by decide +kernel, by decide +kernel⟩
abbrev s_law_vocabulary : Stmt := topS 18
abbrev n_law_vocabulary : List Str := ["tape", "stem", "words", "word"]
abbrev p_law_vocabulary : List Str := ["tape"]
theorem sc_law_vocabulary : FnScope n_law_vocabulary p_law_vocabulary (defScope s_law_vocabulary) := ⟨rfl, rfl, rfl, by decide +kernel, rfl, by decide +kernel, by decide +kernel⟩
abbrev s_law_some_words : Stmt := topS 19
abbrev n_law_some_words : List Str := ["tape", "words", "most", "k"]
abbrev p_law_some_words : List Str := ["tape", "words", "most"]
theorem sc_law_some_words : FnScope n_law_some_words p_law_some_words (defScope s_law_some_words) := ⟨rfl, rfl, rfl, by decide +kernel, rfl, by decide +kernel, by decide +kernel⟩
abbrev s_law_b_addresses : Stmt := topS 25
abbrev n_law_b_addresses : List Str := ["tape", "many", "stem", "other", "names", "k", "tail", "name"]
abbrev p_law_b_addresses : List Str := ["tape", "many"]
theorem sc_law_b_addresses : FnScope n_law_b_addresses p_law_b_addresses (defScope s_law_b_addresses) := ⟨rfl, rfl, rfl, by decide +kernel, rfl, by decide +kernel, by decide +kernel⟩
abbrev s_law_b_phrase_question : Stmt := topS 27
abbrev n_law_b_phrase_question : List Str := ["tape", "pages", "pairs", "q", "kind", "members", "many", "k", "slack", "between", "text", "whole"]
abbrev p_law_b_phrase_question : List Str := ["tape", "pages"]
theorem sc_law_b_phrase_question : FnScope n_law_b_phrase_question p_law_b_phrase_question (defScope s_law_b_phrase_question) := ⟨rfl, rfl, rfl, by decide +kernel, rfl, by decide +kernel, by decide +kernel⟩
abbrev s_law_turned : Stmt := topS 34
abbrev n_law_turned : List Str := ["tape", "question", "word", "other", "inner", "choice", "part", "k"]
abbrev p_law_turned : List Str := ["tape", "question"]
theorem sc_law_turned : FnScope n_law_turned p_law_turned (defScope s_law_turned) := ⟨rfl, rfl, rfl, by decide +kernel, rfl, by decide +kernel, by decide +kernel⟩
abbrev s_law_pages : Stmt := topS 33
abbrev n_law_pages : List Str := ["tape", "pool", "names", "some", "name", "most", "words", "k", "links"]
abbrev p_law_pages : List Str := ["tape"]
theorem sc_law_pages : FnScope n_law_pages p_law_pages (defScope s_law_pages) := ⟨rfl, rfl, rfl, by decide +kernel, rfl, by decide +kernel, by decide +kernel⟩
abbrev s_law_same : Stmt := topS 17
abbrev n_law_same : List Str := ["told", "wanted", "k"]
abbrev p_law_same : List Str := ["told", "wanted"]
theorem sc_law_same : FnScope n_law_same p_law_same (defScope s_law_same) := ⟨rfl, rfl, rfl, by decide +kernel, rfl, by decide +kernel, by decide +kernel⟩
abbrev s_law_b_question : Stmt := topS 28
abbrev n_law_b_question : List Str := ["tape", "pages", "levels", "choice", "inner", "k", "page"]
abbrev p_law_b_question : List Str := ["tape", "pages", "levels"]
theorem sc_law_b_question : FnScope n_law_b_question p_law_b_question (defScope s_law_b_question) := ⟨rfl, rfl, rfl, by decide +kernel, rfl, by decide +kernel, by decide +kernel⟩
abbrev s_size : Stmt := topS 4
abbrev n_size : List Str := ["question", "word", "part"]
abbrev p_size : List Str := ["question"]
theorem sc_size : FnScope n_size p_size (defScope s_size) := ⟨rfl, rfl, rfl, by decide +kernel, rfl, by decide +kernel, by decide +kernel⟩
abbrev s_questions_of_words : Stmt := topS 9
abbrev n_questions_of_words : List Str := ["question", "word", "told", "part"]
abbrev p_questions_of_words : List Str := ["question"]
theorem sc_questions_of_words : FnScope n_questions_of_words p_questions_of_words (defScope s_questions_of_words) := ⟨rfl, rfl, rfl, by decide +kernel, rfl, by decide +kernel, by decide +kernel⟩
abbrev s_law_s_size : Stmt := topS 22
abbrev n_law_s_size : List Str := ["question", "part"]
abbrev p_law_s_size : List Str := ["question"]
theorem sc_law_s_size : FnScope n_law_s_size p_law_s_size (defScope s_law_s_size) := ⟨rfl, rfl, rfl, by decide +kernel, rfl, by decide +kernel, by decide +kernel⟩
abbrev s_law_deep : Stmt := topS 35
abbrev n_law_deep : List Str := ["question", "part"]
abbrev p_law_deep : List Str := ["question"]
theorem sc_law_deep : FnScope n_law_deep p_law_deep (defScope s_law_deep) := ⟨rfl, rfl, rfl, by decide +kernel, rfl, by decide +kernel, by decide +kernel⟩
abbrev s_found : Stmt := topS 10
abbrev n_found : List Str := ["page", "question", "part"]
abbrev p_found : List Str := ["page", "question"]
theorem sc_found : FnScope n_found p_found (defScope s_found) := ⟨rfl, rfl, rfl, by decide +kernel, rfl, by decide +kernel, by decide +kernel⟩
abbrev s_law_b_asked : Stmt := topS 29
abbrev n_law_b_asked : List Str := ["tape", "pages", "question"]
abbrev p_law_b_asked : List Str := ["tape", "pages"]
theorem sc_law_b_asked : FnScope n_law_b_asked p_law_b_asked (defScope s_law_b_asked) := ⟨rfl, rfl, rfl, by decide +kernel, rfl, by decide +kernel, by decide +kernel⟩
abbrev s_law_s_score : Stmt := topS 23
abbrev n_law_s_score : List Str := ["page", "question", "word", "many", "told", "part", "some", "one"]
abbrev p_law_s_score : List Str := ["page", "question"]
theorem sc_law_s_score : FnScope n_law_s_score p_law_s_score (defScope s_law_s_score) := ⟨rfl, rfl, rfl, by decide +kernel, rfl, by decide +kernel, by decide +kernel⟩
abbrev s_law_s_found : Stmt := topS 24
abbrev n_law_s_found : List Str := ["page", "question", "told", "part"]
abbrev p_law_s_found : List Str := ["page", "question"]
theorem sc_law_s_found : FnScope n_law_s_found p_law_s_found (defScope s_law_s_found) := ⟨rfl, rfl, rfl, by decide +kernel, rfl, by decide +kernel, by decide +kernel⟩
abbrev s_law_case : Stmt := topS 31
abbrev n_law_case : List Str := ["word", "thing", "question"]
abbrev p_law_case : List Str := ["word", "thing", "question"]
theorem sc_law_case : FnScope n_law_case p_law_case (defScope s_law_case) := ⟨rfl, rfl, rfl, by decide +kernel, rfl, by decide +kernel, by decide +kernel⟩
abbrev s_score_of_some : Stmt := topS 7
abbrev n_score_of_some : List Str := ["page", "question", "word", "parts", "given", "part", "numbers", "number"]
abbrev p_score_of_some : List Str := ["page", "question"]
theorem sc_score_of_some : FnScope n_score_of_some p_score_of_some (defScope s_score_of_some) := ⟨rfl, rfl, rfl, by decide +kernel, rfl, by decide +kernel, by decide +kernel⟩
abbrev s_score : Stmt := topS 8
abbrev n_score : List Str := ["page", "question", "word"]
abbrev p_score : List Str := ["page", "question"]
theorem sc_score : FnScope n_score p_score (defScope s_score) := ⟨rfl, rfl, rfl, by decide +kernel, rfl, by decide +kernel, by decide +kernel⟩
abbrev s_law_told : Stmt := topS 30
abbrev n_law_told : List Str := ["word", "thing", "question"]
abbrev p_law_told : List Str := ["word", "thing", "question"]
theorem sc_law_told : FnScope n_law_told p_law_told (defScope s_law_told) := ⟨rfl, rfl, rfl, by decide +kernel, rfl, by decide +kernel, by decide +kernel⟩
abbrev s_law_right : Stmt := topS 32
abbrev n_law_right : List Str := ["case"]
abbrev p_law_right : List Str := ["case"]
theorem sc_law_right : FnScope n_law_right p_law_right (defScope s_law_right) := ⟨rfl, rfl, rfl, by decide +kernel, rfl, by decide +kernel, by decide +kernel⟩
abbrev s_law : Stmt := topS 36
abbrev n_law : List Str := ["script", "tape", "some", "phrase", "question", "turned", "page", "cases", "any_word", "later", "other", "k", "case"]
abbrev p_law : List Str := ["script"]
theorem sc_law : FnScope n_law p_law (defScope s_law) := ⟨rfl, rfl, rfl, by decide +kernel, rfl, by decide +kernel, by decide +kernel⟩
structure Tx (K : PySem.W.Frag) (mg : Str → Option Value) where
  f_fits_member : Addr
  d_fits_member : FuncData
  D_fits_member : Fun K "fits_member" "fits_member" s_fits_member f_fits_member d_fits_member
  g_fits_member : mg "fits_member" = some (.ref f_fits_member)
  b_fits_member : Binds K d_fits_member p_fits_member []
  f_nought_if : Addr
  d_nought_if : FuncData
  D_nought_if : Fun K "nought_if" "nought_if" s_nought_if f_nought_if d_nought_if
  g_nought_if : mg "nought_if" = some (.ref f_nought_if)
  b_nought_if : Binds K d_nought_if p_nought_if []
  f_law_tape : Addr
  d_law_tape : FuncData
  D_law_tape : Fun K "_law_tape" "_law_tape" s_law_tape f_law_tape d_law_tape
  g_law_tape : mg "_law_tape" = some (.ref f_law_tape)
  b_law_tape : Binds K d_law_tape p_law_tape []
  f_law_draw : Addr
  d_law_draw : FuncData
  D_law_draw : Fun K "_law_draw" "_law_draw" s_law_draw f_law_draw d_law_draw
  g_law_draw : mg "_law_draw" = some (.ref f_law_draw)
  b_law_draw : Binds K d_law_draw p_law_draw []
  f_law_s_fits : Addr
  d_law_s_fits : FuncData
  D_law_s_fits : Fun K "_law_s_fits" "_law_s_fits" s_law_s_fits f_law_s_fits d_law_s_fits
  g_law_s_fits : mg "_law_s_fits" = some (.ref f_law_s_fits)
  b_law_s_fits : Binds K d_law_s_fits p_law_s_fits []
  f_places : Addr
  d_places : FuncData
  D_places : Fun K "places" "places" s_places f_places d_places
  g_places : mg "places" = some (.ref f_places)
  b_places : Binds K d_places p_places []
  f_law_pick : Addr
  d_law_pick : FuncData
  D_law_pick : Fun K "_law_pick" "_law_pick" s_law_pick f_law_pick d_law_pick
  g_law_pick : mg "_law_pick" = some (.ref f_law_pick)
  b_law_pick : Binds K d_law_pick p_law_pick []
  f_law_turns : Addr
  d_law_turns : FuncData
  D_law_turns : Fun K "_law_turns" "_law_turns" s_law_turns f_law_turns d_law_turns
  g_law_turns : mg "_law_turns" = some (.ref f_law_turns)
  b_law_turns : Binds K d_law_turns p_law_turns []
  f_law_shuffled : Addr
  d_law_shuffled : FuncData
  D_law_shuffled : Fun K "_law_shuffled" "_law_shuffled" s_law_shuffled f_law_shuffled d_law_shuffled
  g_law_shuffled : mg "_law_shuffled" = some (.ref f_law_shuffled)
  b_law_shuffled : Binds K d_law_shuffled p_law_shuffled []
  f_law_s_places : Addr
  d_law_s_places : FuncData
  D_law_s_places : Fun K "_law_s_places" "_law_s_places" s_law_s_places f_law_s_places d_law_s_places
  g_law_s_places : mg "_law_s_places" = some (.ref f_law_s_places)
  b_law_s_places : Binds K d_law_s_places p_law_s_places []
  f_law_b_reading : Addr
  d_law_b_reading : FuncData
  D_law_b_reading : Fun K "_law_b_reading" "_law_b_reading" s_law_b_reading f_law_b_reading d_law_b_reading
  g_law_b_reading : mg "_law_b_reading" = some (.ref f_law_b_reading)
  b_law_b_reading : Binds K d_law_b_reading p_law_b_reading []
  f_score_of_words : Addr
  d_score_of_words : FuncData
  D_score_of_words : Fun K "score_of_words" "score_of_words" s_score_of_words f_score_of_words d_score_of_words
  g_score_of_words : mg "score_of_words" = some (.ref f_score_of_words)
  b_score_of_words : Binds K d_score_of_words p_score_of_words []
  f_law_vocabulary : Addr
  d_law_vocabulary : FuncData
  D_law_vocabulary : Fun K "_law_vocabulary" "_law_vocabulary" s_law_vocabulary f_law_vocabulary d_law_vocabulary
  g_law_vocabulary : mg "_law_vocabulary" = some (.ref f_law_vocabulary)
  b_law_vocabulary : Binds K d_law_vocabulary p_law_vocabulary []
  f_law_some_words : Addr
  d_law_some_words : FuncData
  D_law_some_words : Fun K "_law_some_words" "_law_some_words" s_law_some_words f_law_some_words d_law_some_words
  g_law_some_words : mg "_law_some_words" = some (.ref f_law_some_words)
  b_law_some_words : Binds K d_law_some_words p_law_some_words []
  f_law_b_addresses : Addr
  d_law_b_addresses : FuncData
  D_law_b_addresses : Fun K "_law_b_addresses" "_law_b_addresses" s_law_b_addresses f_law_b_addresses d_law_b_addresses
  g_law_b_addresses : mg "_law_b_addresses" = some (.ref f_law_b_addresses)
  b_law_b_addresses : Binds K d_law_b_addresses p_law_b_addresses []
  f_law_b_phrase_question : Addr
  d_law_b_phrase_question : FuncData
  D_law_b_phrase_question : Fun K "_law_b_phrase_question" "_law_b_phrase_question" s_law_b_phrase_question f_law_b_phrase_question d_law_b_phrase_question
  g_law_b_phrase_question : mg "_law_b_phrase_question" = some (.ref f_law_b_phrase_question)
  b_law_b_phrase_question : Binds K d_law_b_phrase_question p_law_b_phrase_question []
  f_law_turned : Addr
  d_law_turned : FuncData
  D_law_turned : Fun K "_law_turned" "_law_turned" s_law_turned f_law_turned d_law_turned
  g_law_turned : mg "_law_turned" = some (.ref f_law_turned)
  b_law_turned : Binds K d_law_turned p_law_turned []
  f_law_pages : Addr
  d_law_pages : FuncData
  D_law_pages : Fun K "_law_pages" "_law_pages" s_law_pages f_law_pages d_law_pages
  g_law_pages : mg "_law_pages" = some (.ref f_law_pages)
  b_law_pages : Binds K d_law_pages p_law_pages []
  f_law_same : Addr
  d_law_same : FuncData
  D_law_same : Fun K "_law_same" "_law_same" s_law_same f_law_same d_law_same
  g_law_same : mg "_law_same" = some (.ref f_law_same)
  b_law_same : Binds K d_law_same p_law_same []
  f_law_b_question : Addr
  d_law_b_question : FuncData
  D_law_b_question : Fun K "_law_b_question" "_law_b_question" s_law_b_question f_law_b_question d_law_b_question
  g_law_b_question : mg "_law_b_question" = some (.ref f_law_b_question)
  b_law_b_question : Binds K d_law_b_question p_law_b_question []
  f_size : Addr
  d_size : FuncData
  D_size : Fun K "size" "size" s_size f_size d_size
  g_size : mg "size" = some (.ref f_size)
  b_size : Binds K d_size p_size []
  f_questions_of_words : Addr
  d_questions_of_words : FuncData
  D_questions_of_words : Fun K "questions_of_words" "questions_of_words" s_questions_of_words f_questions_of_words d_questions_of_words
  g_questions_of_words : mg "questions_of_words" = some (.ref f_questions_of_words)
  b_questions_of_words : Binds K d_questions_of_words p_questions_of_words []
  f_law_s_size : Addr
  d_law_s_size : FuncData
  D_law_s_size : Fun K "_law_s_size" "_law_s_size" s_law_s_size f_law_s_size d_law_s_size
  g_law_s_size : mg "_law_s_size" = some (.ref f_law_s_size)
  b_law_s_size : Binds K d_law_s_size p_law_s_size []
  f_law_deep : Addr
  d_law_deep : FuncData
  D_law_deep : Fun K "_law_deep" "_law_deep" s_law_deep f_law_deep d_law_deep
  g_law_deep : mg "_law_deep" = some (.ref f_law_deep)
  b_law_deep : Binds K d_law_deep p_law_deep []
  f_found : Addr
  d_found : FuncData
  D_found : Fun K "found" "found" s_found f_found d_found
  g_found : mg "found" = some (.ref f_found)
  b_found : Binds K d_found p_found []
  f_law_b_asked : Addr
  d_law_b_asked : FuncData
  D_law_b_asked : Fun K "_law_b_asked" "_law_b_asked" s_law_b_asked f_law_b_asked d_law_b_asked
  g_law_b_asked : mg "_law_b_asked" = some (.ref f_law_b_asked)
  b_law_b_asked : Binds K d_law_b_asked p_law_b_asked []
  f_law_s_score : Addr
  d_law_s_score : FuncData
  D_law_s_score : Fun K "_law_s_score" "_law_s_score" s_law_s_score f_law_s_score d_law_s_score
  g_law_s_score : mg "_law_s_score" = some (.ref f_law_s_score)
  b_law_s_score : Binds K d_law_s_score p_law_s_score []
  f_law_s_found : Addr
  d_law_s_found : FuncData
  D_law_s_found : Fun K "_law_s_found" "_law_s_found" s_law_s_found f_law_s_found d_law_s_found
  g_law_s_found : mg "_law_s_found" = some (.ref f_law_s_found)
  b_law_s_found : Binds K d_law_s_found p_law_s_found []
  f_law_case : Addr
  d_law_case : FuncData
  D_law_case : Fun K "_law_case" "_law_case" s_law_case f_law_case d_law_case
  g_law_case : mg "_law_case" = some (.ref f_law_case)
  b_law_case : Binds K d_law_case p_law_case []
  f_score_of_some : Addr
  d_score_of_some : FuncData
  D_score_of_some : Fun K "score_of_some" "score_of_some" s_score_of_some f_score_of_some d_score_of_some
  g_score_of_some : mg "score_of_some" = some (.ref f_score_of_some)
  b_score_of_some : Binds K d_score_of_some p_score_of_some []
  f_score : Addr
  d_score : FuncData
  D_score : Fun K "score" "score" s_score f_score d_score
  g_score : mg "score" = some (.ref f_score)
  b_score : Binds K d_score p_score []
  f_law_told : Addr
  d_law_told : FuncData
  D_law_told : Fun K "_law_told" "_law_told" s_law_told f_law_told d_law_told
  g_law_told : mg "_law_told" = some (.ref f_law_told)
  b_law_told : Binds K d_law_told p_law_told []
  f_law_right : Addr
  d_law_right : FuncData
  D_law_right : Fun K "_law_right" "_law_right" s_law_right f_law_right d_law_right
  g_law_right : mg "_law_right" = some (.ref f_law_right)
  b_law_right : Binds K d_law_right p_law_right []
  f_law : Addr
  d_law : FuncData
  D_law : Fun K "law" "law" s_law f_law d_law
  g_law : mg "law" = some (.ref f_law)
  b_law : Binds K d_law p_law []
  n_abs : mg "abs" = none
  n_any : mg "any" = none
  n_bool : mg "bool" = none
  n_enumerate : mg "enumerate" = none
  n_int : mg "int" = none
  n_isinstance : mg "isinstance" = none
  n_len : mg "len" = none
  n_list : mg "list" = none
  n_max : mg "max" = none
  n_min : mg "min" = none
  n_range : mg "range" = none
  n_sorted : mg "sorted" = none
  n_str : mg "str" = none
  n_sum : mg "sum" = none
  n_tuple : mg "tuple" = none
section
variable {P : Program} {w : World} {K : PySem.W.Frag} {mg : Str → Option Value} {base : Heap}
theorem ok_fits_member (T : Tx K mg) (h : ∀ (args : List Sl) (Q : Sl → (Nat → Option Sl) → Prop), args.length = 3 → sp_fits_member args Q → t_fits_member { nx := fun env => Q (.d .none) (osOf env), rt := fun r env => Q r (osOf env) } (startE 6 args)) : FnOk P w K mg base CX0 1 T.f_fits_member T.d_fits_member p_fits_member (spD K ([], []) 3 sp_fits_member) := by
  refine fnd T.D_fits_member sc_fits_member rfl fun cdv A outer s H E hr => ⟨t_fits_member, ?_, h⟩
  have nd := sc_fits_member.nd
  exact (psds_cons (psd_asg (pdv 2) (pdg_tup rfl (pdgs_cons (pdg_name (i := 3) nd rfl (by first | exact Or.inl rfl | exact Or.inr rfl)) (pdgs_cons (pdg_name (i := 4) nd rfl (by first | exact Or.inl rfl | exact Or.inr rfl)) (pdgs_cons (pdg_name (i := 5) nd rfl (by first | exact Or.inl rfl | exact Or.inr rfl)) pdgs_nil)))))
      (psds_cons (psd_if (PDW.pt (pdw_and (pdt_notN (pdv 1)) (pdw_and1 (pdt_cmp (od_ne (u64 hr)) (pd_ix (pdv 0) pd_int) (pdv 1))))) (psds_one (psd_ret pd_bl)) psds_nil)
      (psds_cons (psd_if (pdt_tru (pdv 4)) (psds_one (psd_ret (pd_cmp (od_eq (u64 hr)) (pd_ix (pdv 0) pd_int) (pdv 3)))) psds_nil)
      (psds_one (psd_ret (pd_sw (pd_ix (pdv 0) pd_int) (pdv 3)))))))
theorem ok_nought_if (T : Tx K mg) (h : ∀ (args : List Sl) (Q : Sl → (Nat → Option Sl) → Prop), args.length = 1 → sp_nought_if args Q → t_nought_if { nx := fun env => Q (.d .none) (osOf env), rt := fun r env => Q r (osOf env) } (startE 1 args)) : FnOk P w K mg base CX0 1 T.f_nought_if T.d_nought_if p_nought_if (spD K ([], []) 1 sp_nought_if) := by
  refine fnd T.D_nought_if sc_nought_if rfl fun cdv A outer s H E hr => ⟨t_nought_if, ?_, h⟩
  have nd := sc_nought_if.nd
  exact (psds_cons (psd_if (pdt_tru (pdv 0)) (psds_one (psd_ret pd_int)) psds_nil)
      (psds_one (psd_ret pd_non)))
theorem ok_law_tape (T : Tx K mg) (h : ∀ (args : List Sl) (Q : Sl → (Nat → Option Sl) → Prop), args.length = 1 → sp_law_tape args Q → t_law_tape { nx := fun env => Q (.d .none) (osOf env), rt := fun r env => Q r (osOf env) } (startE 3 args)) : FnOk P w K mg base CX0 1 T.f_law_tape T.d_law_tape p_law_tape (spD K ([], []) 1 sp_law_tape) := by
  refine fnd T.D_law_tape sc_law_tape rfl fun cdv A outer s H E hr => ⟨t_law_tape, ?_, h⟩
  have nd := sc_law_tape.nd
  exact (psds_cons (psd_setD (i := 1) nd rfl (by first | exact Or.inl rfl | exact Or.inr rfl) pd_int)
      (psds_cons (psd_for PassesOwn.never rfl (pdi_seq (pdv 0)) (pdg_name (i := 2) nd rfl (by first | exact Or.inl rfl | exact Or.inr rfl)) (psds_one (psd_setD (i := 1) nd rfl (by first | exact Or.inl rfl | exact Or.inr rfl) (pd_op od_mod (pd_callTy bd_int rfl T.n_int bt_int (pda_cons (pd_op od_add (pd_op od_mul (pdv 1) pd_int) (pd_callB bd_abs rfl T.n_abs bt_abs (pda_cons (pd_callTy bd_int rfl T.n_int bt_int (pda_cons (pdv 2) pda_nil)) pda_nil))) pda_nil)) pd_int))))
      (psds_one (psd_ret (pd_lst (pda_cons (pd_callTy bd_list rfl T.n_list bt_list (pda_cons (pdv 0) pda_nil)) (pda_cons pd_int (pda_cons pd_int (pda_cons (pdv 1) pda_nil)))))))))
theorem ok_law_draw (T : Tx K mg) (h : ∀ (args : List Sl) (Q : Sl → (Nat → Option Sl) → Prop), args.length = 2 → sp_law_draw args Q → t_law_draw { nx := fun env => Q (.d .none) (osOf env), rt := fun r env => Q r (osOf env) } (startE 4 args)) : FnOk P w K mg base CX0 1 T.f_law_draw T.d_law_draw p_law_draw (spD K ([0], []) 2 sp_law_draw) := by
  refine fnd T.D_law_draw sc_law_draw rfl fun cdv A outer s H E hr => ⟨t_law_draw, ?_, h⟩
  have nd := sc_law_draw.nd
  exact (psds_cons (psd_if (pdt_cmp (od_eq (u64 hr)) (pd_ix (pdv 0) pd_int) pd_int) (psds_cons (psd_setD (i := 2) nd rfl (by first | exact Or.inl rfl | exact Or.inr rfl) (pd_ix (pdv 0) pd_int))
      (psds_cons (psd_setD (i := 3) nd rfl (by first | exact Or.inl rfl | exact Or.inr rfl) pd_int)
      (psds_cons (psd_if (pdt_cmp od_lt (pdv 2) (pd_callB bd_len rfl T.n_len bt_len (pda_cons (pd_ix (pdv 0) pd_int) pda_nil))) (psds_one (psd_setD (i := 3) nd rfl (by first | exact Or.inl rfl | exact Or.inr rfl) (pd_callB bd_abs rfl T.n_abs bt_abs (pda_cons (pd_callTy bd_int rfl T.n_int bt_int (pda_cons (pd_ix (pd_ix (pdv 0) pd_int) (pdv 2)) pda_nil)) pda_nil)))) (psds_cons (psd_setIx (pv 0) pd_int (pd_op od_mod (pd_callTy bd_int rfl T.n_int bt_int (pda_cons (pd_op od_add (pd_op od_add (pd_op od_mul (pd_ix (pdv 0) pd_int) pd_int) (pdv 2)) pd_int) pda_nil)) pd_int))
      (psds_one (psd_setD (i := 3) nd rfl (by first | exact Or.inl rfl | exact Or.inr rfl) (pd_ix (pdv 0) pd_int)))))
      (psds_cons (psd_setIx (pv 0) pd_int (pd_op od_add (pdv 2) pd_int))
      (psds_cons (psd_if (pdt_cmp od_lt (pdv 3) (pd_op od_pow pd_int pd_int)) (psds_cons (psd_setD (i := 3) nd rfl (by first | exact Or.inl rfl | exact Or.inr rfl) (pd_op od_mod (pd_callTy bd_int rfl T.n_int bt_int (pda_cons (pd_op od_add (pd_op od_add (pd_op od_mul (pdv 3) pd_int) (pd_op od_mul (pdv 2) pd_int)) pd_int) pda_nil)) pd_int))
      (psds_cons (psd_setD (i := 3) nd rfl (by first | exact Or.inl rfl | exact Or.inr rfl) (pd_op od_mod (pd_callTy bd_int rfl T.n_int bt_int (pda_cons (pd_op od_mul (pdv 3) pd_int) pda_nil)) pd_int))
      (psds_one (psd_ret (pd_op od_mod (pd_callTy bd_int rfl T.n_int bt_int (pda_cons (pdv 3) pda_nil)) (pd_callB (bd_max2 rfl) rfl T.n_max bt_max (pda_cons (pdv 1) (pda_cons pd_int pda_nil)))))))) psds_nil)
      (psds_one (psd_setIx (pv 0) pd_int (pdv 3)))))))) psds_nil)
      (psds_cons (psd_setD (i := 3) nd rfl (by first | exact Or.inl rfl | exact Or.inr rfl) (pd_ix (pdv 0) pd_int))
      (psds_cons (psd_setIx (pv 0) pd_int (pd_op od_div (pdv 3) (pd_callB (bd_max2 rfl) rfl T.n_max bt_max (pda_cons (pdv 1) (pda_cons pd_int pda_nil)))))
      (psds_one (psd_ret (pd_op od_mod (pd_callTy bd_int rfl T.n_int bt_int (pda_cons (pdv 3) pda_nil)) (pd_callB (bd_max2 rfl) rfl T.n_max bt_max (pda_cons (pdv 1) (pda_cons pd_int pda_nil)))))))))
theorem ok_law_s_fits (T : Tx K mg) (h : ∀ (args : List Sl) (Q : Sl → (Nat → Option Sl) → Prop), args.length = 3 → sp_law_s_fits args Q → t_law_s_fits { nx := fun env => Q (.d .none) (osOf env), rt := fun r env => Q r (osOf env) } (startE 3 args)) : FnOk P w K mg base CX0 1 T.f_law_s_fits T.d_law_s_fits p_law_s_fits (spD K ([], []) 3 sp_law_s_fits) := by
  refine fnd T.D_law_s_fits sc_law_s_fits rfl fun cdv A outer s H E hr => ⟨t_law_s_fits, ?_, h⟩
  have nd := sc_law_s_fits.nd
  exact (psds_cons (psd_if (PDW.pt (pdw_and (pdt_notN (pdv 1)) (pdw_and1 (pdt_cmp (od_ne (u64 hr)) (pd_ix (pdv 0) pd_int) (pdv 1))))) (psds_one (psd_ret pd_bl)) psds_nil)
      (psds_cons (psd_if (pdt_tru (pd_ix (pdv 2) pd_int)) (psds_one (psd_ret (pd_cmp (od_eq (u64 hr)) (pd_ix (pdv 0) pd_int) (pd_ix (pdv 2) pd_int)))) psds_nil)
      (psds_one (psd_ret (pd_sw (pd_ix (pdv 0) pd_int) (pd_ix (pdv 2) pd_int))))))
theorem ok_places (T : Tx K mg) (G_fits_member : FnOk P w K mg base CX0 1 T.f_fits_member T.d_fits_member p_fits_member (spD K ([], []) 3 sp_fits_member)) (h : ∀ (args : List Sl) (Q : Sl → (Nat → Option Sl) → Prop), args.length = 3 → sp_places args Q → t_places { nx := fun env => Q (.d .none) (osOf env), rt := fun r env => Q r (osOf env) } (startE 11 args)) : FnOk P w K mg base CX0 2 T.f_places T.d_places p_places (spD K ([], []) 3 sp_places) := by
  refine fnd T.D_places sc_places rfl fun cdv A outer s H E hr => ⟨t_places, ?_, h⟩
  have nd := sc_places.nd
  exact (psds_cons (psd_setD (i := 3) nd rfl (by first | exact Or.inl rfl | exact Or.inr rfl) (pd_repE (pda_cons pd_bl pda_nil) (pd_callB bd_len rfl T.n_len bt_len (pda_cons (pdv 0) pda_nil))))
      (psds_cons (psd_for PassesOwn.never rfl (pdi_enum2 rfl T.n_enumerate (pda_cons (pd_revT (pdv 2)) pda_nil)) (pdg_tup rfl (pdgs_cons (pdg_name (i := 4) nd rfl (by first | exact Or.inl rfl | exact Or.inr rfl)) (pdgs_cons (pdg_name (i := 5) nd rfl (by first | exact Or.inl rfl | exact Or.inr rfl)) pdgs_nil))) (psds_cons (psd_setD (i := 6) nd rfl (by first | exact Or.inl rfl | exact Or.inr rfl) (pd_lcV [("word", 7)] rfl rfl nd (pdi_seq (pdv 0)) (blkOk_by (own := [("word", 7)]) (N := n_places) (sc := defScope s_places) (by decide +kernel)) (fun _ _ _ _ _ => (pdc_name (i := 7) (pg_name nd rfl (by first | exact Or.inl rfl | exact Or.inr rfl)))) (fun _ _ _ _ _ => pdts_nil) (fun _ _ _ _ _ => (pd_call G_fits_member (hr.mono (by decide)) (by rfl) T.g_fits_member T.D_fits_member.kp T.b_fits_member (pda_cons (pdv 7) (pda_cons (pdv 1) (pda_cons (pdv 5) pda_nil)))))))
      (psds_cons (psd_if (pdt_cmp od_gt (pdv 4) pd_int) (psds_cons (psd_setD (i := 8) nd rfl (by first | exact Or.inl rfl | exact Or.inr rfl) (pd_op od_add (pd_ix (pd_ix (pdv 2) (pd_op od_sub (pd_callB bd_len rfl T.n_len bt_len (pda_cons (pdv 2) pda_nil)) (pdv 4))) pd_int) pd_int))
      (psds_one (psd_setD (i := 6) nd rfl (by first | exact Or.inl rfl | exact Or.inr rfl) (pd_lcV [("q", 9)] rfl rfl nd (pdi_rng1 rfl T.n_range (pda_cons (pd_callB bd_len rfl T.n_len bt_len (pda_cons (pdv 0) pda_nil)) pda_nil)) (blkOk_by (own := [("q", 9)]) (N := n_places) (sc := defScope s_places) (by decide +kernel)) (fun _ _ _ _ _ => (pdc_name (i := 9) (pg_name nd rfl (by first | exact Or.inl rfl | exact Or.inr rfl)))) (fun _ _ _ _ _ => pdts_nil) (fun _ _ _ _ _ => (pd_and (pd_ix (pdv 6) (pdv 9)) (pd_one (pd_callB (bd_any rfl) rfl T.n_any bt_any (pda_cons (pd_slice (pdv 3) (pdo_some (pd_op od_add (pdv 9) pd_int)) (pdo_some (pd_op od_add (pd_op od_add (pdv 9) pd_int) (pdv 8)))) pda_nil))))))))) psds_nil)
      (psds_one (psd_setD (i := 3) nd rfl (by first | exact Or.inl rfl | exact Or.inr rfl) (pdv 6))))))
      (psds_one (psd_ret (pd_callTy bd_tuple rfl T.n_tuple bt_tuple (pda_cons (pd_lcV [("q", 9), ("is_there", 10)] rfl rfl nd (pdi_enum2 rfl T.n_enumerate (pda_cons (pdv 3) pda_nil)) (blkOk_by (own := [("q", 9), ("is_there", 10)]) (N := n_places) (sc := defScope s_places) (by decide +kernel)) (fun _ _ _ _ _ => (pdc_tup rfl (pdcs_cons (pdc_name (i := 9) (pg_name nd rfl (by first | exact Or.inl rfl | exact Or.inr rfl))) (pdcs_cons (pdc_name (i := 10) (pg_name nd rfl (by first | exact Or.inl rfl | exact Or.inr rfl))) pdcs_nil)))) (fun _ _ _ _ _ => (pdts_one (pdt_tru (pdv 10)))) (fun _ _ _ _ _ => (pdv 9))) pda_nil))))))
theorem ok_law_pick (T : Tx K mg) (G_law_draw : FnOk P w K mg base CX0 1 T.f_law_draw T.d_law_draw p_law_draw (spD K ([0], []) 2 sp_law_draw)) (h : ∀ (args : List Sl) (Q : Sl → (Nat → Option Sl) → Prop), args.length = 2 → sp_law_pick args Q → t_law_pick { nx := fun env => Q (.d .none) (osOf env), rt := fun r env => Q r (osOf env) } (startE 2 args)) : FnOk P w K mg base CX0 2 T.f_law_pick T.d_law_pick p_law_pick (spD K ([0], []) 2 sp_law_pick) := by
  refine fnd T.D_law_pick sc_law_pick rfl fun cdv A outer s H E hr => ⟨t_law_pick, ?_, h⟩
  have nd := sc_law_pick.nd
  exact (psds_one (psd_ret (pd_ix (pdv 1) (pd_call G_law_draw (hr.mono (by decide)) (by rfl) T.g_law_draw T.D_law_draw.kp T.b_law_draw (pda_cons (pdv 0) (pda_cons (pd_callB bd_len rfl T.n_len bt_len (pda_cons (pdv 1) pda_nil)) pda_nil))))))
theorem ok_law_turns (T : Tx K mg) (G_law_draw : FnOk P w K mg base CX0 1 T.f_law_draw T.d_law_draw p_law_draw (spD K ([0], []) 2 sp_law_draw)) (h : ∀ (args : List Sl) (Q : Sl → (Nat → Option Sl) → Prop), args.length = 2 → sp_law_turns args Q → t_law_turns { nx := fun env => Q (.d .none) (osOf env), rt := fun r env => Q r (osOf env) } (startE 5 args)) : FnOk P w K mg base CX0 2 T.f_law_turns T.d_law_turns p_law_turns (spD K ([0], []) 2 sp_law_turns) := by
  refine fnd T.D_law_turns sc_law_turns rfl fun cdv A outer s H E hr => ⟨t_law_turns, ?_, h⟩
  have nd := sc_law_turns.nd
  exact (psds_cons (psd_set (i := 2) nd rfl (by first | exact Or.inl rfl | exact Or.inr rfl) (pd_listRg rfl rfl T.n_list rfl T.n_range (pdv 1)))
      (psds_cons (psd_set (i := 3) nd rfl (by first | exact Or.inl rfl | exact Or.inr rfl) (pd_lst pda_nil))
      (psds_cons (psd_for PassesOwn.never rfl (pdi_rng1 rfl T.n_range (pda_cons (pdv 1) pda_nil)) (pdg_name (i := 4) nd rfl (by first | exact Or.inl rfl | exact Or.inr rfl)) (psds_one (psd_expr (pd_m PySem.F.plainAttrs_list PySem.F.slot_list_append PySem.F.type_list_append md_append (pv 3) (pda_cons (pd_m PySem.F.plainAttrs_list PySem.F.slot_list_pop PySem.F.type_list_pop md_popAt (pv 2) (pda_cons (pd_call G_law_draw (hr.mono (by decide)) (by rfl) T.g_law_draw T.D_law_draw.kp T.b_law_draw (pda_cons (pdv 0) (pda_cons (pd_callB bd_len rfl T.n_len bt_len (pda_cons (pdv 2) pda_nil)) pda_nil))) pda_nil)) pda_nil)))))
      (psds_one (psd_ret (pd_slice (pdv 3) pdo_none (pdo_some (pd_ix (pd_lst (pda_cons (pdv 1) (pda_cons (pdv 1) (pda_cons pd_int pda_nil)))) (pd_call G_law_draw (hr.mono (by decide)) (by rfl) T.g_law_draw T.D_law_draw.kp T.b_law_draw (pda_cons (pdv 0) (pda_cons pd_int pda_nil)))))))))))
theorem ok_law_shuffled (T : Tx K mg) (G_law_draw : FnOk P w K mg base CX0 1 T.f_law_draw T.d_law_draw p_law_draw (spD K ([0], []) 2 sp_law_draw)) (h : ∀ (args : List Sl) (Q : Sl → (Nat → Option Sl) → Prop), args.length = 2 → sp_law_shuffled args Q → t_law_shuffled { nx := fun env => Q (.d .none) (osOf env), rt := fun r env => Q r (osOf env) } (startE 5 args)) : FnOk P w K mg base CX0 2 T.f_law_shuffled T.d_law_shuffled p_law_shuffled (spD K ([0], []) 2 sp_law_shuffled) := by
  refine fnd T.D_law_shuffled sc_law_shuffled rfl fun cdv A outer s H E hr => ⟨t_law_shuffled, ?_, h⟩
  have nd := sc_law_shuffled.nd
  exact (psds_cons (psd_set (i := 2) nd rfl (by first | exact Or.inl rfl | exact Or.inr rfl) (pd_callTy bd_list rfl T.n_list bt_list (pda_cons (pdv 1) pda_nil)))
      (psds_cons (psd_set (i := 3) nd rfl (by first | exact Or.inl rfl | exact Or.inr rfl) (pd_lst pda_nil))
      (psds_cons (psd_for PassesOwn.never rfl (pdi_rng1 rfl T.n_range (pda_cons (pd_callB bd_len rfl T.n_len bt_len (pda_cons (pdv 1) pda_nil)) pda_nil)) (pdg_name (i := 4) nd rfl (by first | exact Or.inl rfl | exact Or.inr rfl)) (psds_one (psd_expr (pd_m PySem.F.plainAttrs_list PySem.F.slot_list_append PySem.F.type_list_append md_append (pv 3) (pda_cons (pd_m PySem.F.plainAttrs_list PySem.F.slot_list_pop PySem.F.type_list_pop md_popAt (pv 2) (pda_cons (pd_call G_law_draw (hr.mono (by decide)) (by rfl) T.g_law_draw T.D_law_draw.kp T.b_law_draw (pda_cons (pdv 0) (pda_cons (pd_callB bd_len rfl T.n_len bt_len (pda_cons (pdv 2) pda_nil)) pda_nil))) pda_nil)) pda_nil)))))
      (psds_one (psd_ret (pdv 3))))))
theorem ok_law_s_places (T : Tx K mg) (G_law_s_fits : FnOk P w K mg base CX0 1 T.f_law_s_fits T.d_law_s_fits p_law_s_fits (spD K ([], []) 3 sp_law_s_fits)) (h : ∀ (args : List Sl) (Q : Sl → (Nat → Option Sl) → Prop), args.length = 3 → sp_law_s_places args Q → t_law_s_places { nx := fun env => Q (.d .none) (osOf env), rt := fun r env => Q r (osOf env) } (startE 9 args)) : FnOk P w K mg base CX0 2 T.f_law_s_places T.d_law_s_places p_law_s_places (spD K ([], []) 3 sp_law_s_places) := by
  refine fnd T.D_law_s_places sc_law_s_places rfl fun cdv A outer s H E hr => ⟨t_law_s_places, ?_, h⟩
  have nd := sc_law_s_places.nd
  exact (psds_cons (psd_setD (i := 3) nd rfl (by first | exact Or.inl rfl | exact Or.inr rfl) (pd_lst pda_nil))
      (psds_cons (psd_for PassesOwn.never rfl (pdi_rng3 rfl T.n_range (pda_cons (pd_op od_sub (pd_callB bd_len rfl T.n_len bt_len (pda_cons (pdv 2) pda_nil)) pd_int) (pda_cons (pd_neg pd_int) (pda_cons (pd_neg pd_int) pda_nil)))) (pdg_name (i := 4) nd rfl (by first | exact Or.inl rfl | exact Or.inr rfl)) (psds_cons (psd_setLcD (i := 5) [("q", 6)] rfl rfl nd rfl rfl (sw_true rfl rfl rfl (by decide +kernel)) (pdi_rng1 rfl T.n_range (pda_cons (pd_callB bd_len rfl T.n_len bt_len (pda_cons (pdv 0) pda_nil)) pda_nil)) (blkOk_by (own := [("q", 6)]) (N := n_law_s_places) (sc := defScope s_law_s_places) (by decide +kernel)) (fun _ _ _ _ _ => (pdc_name (i := 6) (pg_name nd rfl (by first | exact Or.inl rfl | exact Or.inr rfl)))) (fun _ _ _ _ _ => (pdts_one (pdt_val (pd_call G_law_s_fits (hr.mono (by decide)) (by rfl) T.g_law_s_fits T.D_law_s_fits.kp T.b_law_s_fits (pda_cons (pd_ix (pdv 0) (pdv 6)) (pda_cons (pdv 1) (pda_cons (pd_ix (pdv 2) (pdv 4)) pda_nil))))))) (fun _ _ _ _ _ => (pdv 6)))
      (psds_cons (psd_if (pdt_cmp od_lt (pdv 4) (pd_op od_sub (pd_callB bd_len rfl T.n_len bt_len (pda_cons (pdv 2) pda_nil)) pd_int)) (psds_cons (psd_setD (i := 7) nd rfl (by first | exact Or.inl rfl | exact Or.inr rfl) (pd_op od_add pd_int (pd_ix (pd_ix (pdv 2) (pd_op od_add (pdv 4) pd_int)) pd_int)))
      (psds_one (psd_setLcD (i := 5) [("q", 6)] rfl rfl nd rfl rfl (sw_true rfl rfl rfl (by decide +kernel)) (pdi_seq (pdv 5)) (blkOk_by (own := [("q", 6)]) (N := n_law_s_places) (sc := defScope s_law_s_places) (by decide +kernel)) (fun _ _ _ _ _ => (pdc_name (i := 6) (pg_name nd rfl (by first | exact Or.inl rfl | exact Or.inr rfl)))) (fun _ _ _ _ _ => (pdts_one (pdt_cmp od_gt (pd_callB bd_len rfl T.n_len bt_len (pda_cons (pd_lcV [("r", 8)] rfl rfl nd (pdi_seq (pdv 3)) (blkOk_by (own := [("r", 8)]) (by kernel_rfl)) (fun _ _ _ _ _ => (pdc_name (i := 8) (pg_name nd rfl (by first | exact Or.inl rfl | exact Or.inr rfl)))) (fun _ _ _ _ _ => (pdts_one (PDW.pt (pdw_and (pdt_cmp od_lt (pdv 6) (pdv 8)) (pdw_and1 (pdt_cmp od_le (pd_op od_sub (pdv 8) (pdv 6)) (pdv 7))))))) (fun _ _ _ _ _ => (pdv 8))) pda_nil)) pd_int))) (fun _ _ _ _ _ => (pdv 6))))) psds_nil)
      (psds_one (psd_setD (i := 3) nd rfl (by first | exact Or.inl rfl | exact Or.inr rfl) (pdv 5))))))
      (psds_one (psd_ret (pd_callTy bd_tuple rfl T.n_tuple bt_tuple (pda_cons (pdv 3) pda_nil))))))
theorem ok_law_b_reading (T : Tx K mg) (G_law_draw : FnOk P w K mg base CX0 1 T.f_law_draw T.d_law_draw p_law_draw (spD K ([0], []) 2 sp_law_draw)) (h : ∀ (args : List Sl) (Q : Sl → (Nat → Option Sl) → Prop), args.length = 3 → sp_law_b_reading args Q → t_law_b_reading { nx := fun env => Q (.d .none) (osOf env), rt := fun r env => Q r (osOf env) } (startE 6 args)) : FnOk P w K mg base CX0 2 T.f_law_b_reading T.d_law_b_reading p_law_b_reading (spD K ([0], []) 3 sp_law_b_reading) := by
  refine fnd T.D_law_b_reading sc_law_b_reading rfl fun cdv A outer s H E hr => ⟨t_law_b_reading, ?_, h⟩
  have nd := sc_law_b_reading.nd
  exact (psds_cons (psd_set (i := 3) nd rfl (by first | exact Or.inl rfl | exact Or.inr rfl) (pd_lst pda_nil))
      (psds_cons (psd_setD (i := 4) nd rfl (by first | exact Or.inl rfl | exact Or.inr rfl) pd_int)
      (psds_cons (psd_for PassesOwn.never rfl (pdi_seq (pdv 1)) (pdg_name (i := 5) nd rfl (by first | exact Or.inl rfl | exact Or.inr rfl)) (psds_cons (psd_if (pdt_cmp (od_eq (u64 hr)) (pd_call G_law_draw (hr.mono (by decide)) (by rfl) T.g_law_draw T.D_law_draw.kp T.b_law_draw (pda_cons (pdv 0) (pda_cons pd_int pda_nil))) pd_int) (psds_one (psd_setD (i := 4) nd rfl (by first | exact Or.inl rfl | exact Or.inr rfl) (pd_call G_law_draw (hr.mono (by decide)) (by rfl) T.g_law_draw T.D_law_draw.kp T.b_law_draw (pda_cons (pdv 0) (pda_cons pd_int pda_nil))))) psds_nil)
      (psds_one (psd_expr (pd_m PySem.F.plainAttrs_list PySem.F.slot_list_append PySem.F.type_list_append md_append (pv 3) (pda_cons (pd_tup (pda_cons (pdv 5) (pda_cons (pdv 4) pda_nil))) pda_nil))))))
      (psds_one (psd_ret (pd_tup (pda_cons (pd_callTy bd_tuple rfl T.n_tuple bt_tuple (pda_cons (pdv 3) pda_nil)) (pda_cons (pd_callTy bd_tuple rfl T.n_tuple bt_tuple (pda_cons (pdv 2) pda_nil)) (pda_cons (pd_cmp od_gt (pd_call G_law_draw (hr.mono (by decide)) (by rfl) T.g_law_draw T.D_law_draw.kp T.b_law_draw (pda_cons (pdv 0) (pda_cons pd_int pda_nil))) pd_int) (pda_cons (pd_cmp od_gt (pd_call G_law_draw (hr.mono (by decide)) (by rfl) T.g_law_draw T.D_law_draw.kp T.b_law_draw (pda_cons (pdv 0) (pda_cons pd_int pda_nil))) pd_int) pda_nil))))))))))
theorem ok_score_of_words (T : Tx K mg) (G_places : FnOk P w K mg base CX0 2 T.f_places T.d_places p_places (spD K ([], []) 3 sp_places)) (h : ∀ (args : List Sl) (Q : Sl → (Nat → Option Sl) → Prop), args.length = 2 → sp_score_of_words args Q → t_score_of_words { nx := fun env => Q (.d .none) (osOf env), rt := fun r env => Q r (osOf env) } (startE 8 args)) : FnOk P w K mg base CX0 3 T.f_score_of_words T.d_score_of_words p_score_of_words (spD K ([], []) 2 sp_score_of_words) := by
  refine fnd T.D_score_of_words sc_score_of_words rfl fun cdv A outer s H E hr => ⟨t_score_of_words, ?_, h⟩
  have nd := sc_score_of_words.nd
  exact (psds_cons (psd_asg (pdv 1) (pdg_tup rfl (pdgs_cons (pdg_name (i := 2) nd rfl (by first | exact Or.inl rfl | exact Or.inr rfl)) (pdgs_cons (pdg_name (i := 3) nd rfl (by first | exact Or.inl rfl | exact Or.inr rfl)) (pdgs_cons (pdg_name (i := 4) nd rfl (by first | exact Or.inl rfl | exact Or.inr rfl)) (pdgs_cons (pdg_name (i := 5) nd rfl (by first | exact Or.inl rfl | exact Or.inr rfl)) (pdgs_cons (pdg_name (i := 6) nd rfl (by first | exact Or.inl rfl | exact Or.inr rfl)) pdgs_nil)))))))
      (psds_cons (psd_setD (i := 7) nd rfl (by first | exact Or.inl rfl | exact Or.inr rfl) (pd_callB bd_len rfl T.n_len bt_len (pda_cons (pd_call G_places (hr.mono (by decide)) (by rfl) T.g_places T.D_places.kp T.b_places (pda_cons (pd_ix (pd_ix (pdv 0) pd_int) pd_int) (pda_cons (pdv 3) (pda_cons (pdv 4) pda_nil)))) pda_nil)))
      (psds_cons (psd_if (pdt_cmp (od_eq (u64 hr)) (pdv 7) pd_int) (psds_one (psd_ret pd_non)) psds_nil)
      (psds_one (psd_ret (pd_op od_mul (pdv 5) (pd_callB (bd_min2 rfl) rfl T.n_min bt_min (pda_cons (pdv 7) (pda_cons (pdv 6) pda_nil)))))))))
theorem ok_law_vocabulary (T : Tx K mg) (G_law_draw : FnOk P w K mg base CX0 1 T.f_law_draw T.d_law_draw p_law_draw (spD K ([0], []) 2 sp_law_draw)) (G_law_pick : FnOk P w K mg base CX0 2 T.f_law_pick T.d_law_pick p_law_pick (spD K ([0], []) 2 sp_law_pick)) (G_law_shuffled : FnOk P w K mg base CX0 2 T.f_law_shuffled T.d_law_shuffled p_law_shuffled (spD K ([0], []) 2 sp_law_shuffled)) (h : ∀ (args : List Sl) (Q : Sl → (Nat → Option Sl) → Prop), args.length = 1 → sp_law_vocabulary args Q → t_law_vocabulary { nx := fun env => Q (.d .none) (osOf env), rt := fun r env => Q r (osOf env) } (startE 4 args)) : FnOk P w K mg base CX0 3 T.f_law_vocabulary T.d_law_vocabulary p_law_vocabulary (spD K ([0], []) 1 sp_law_vocabulary) := by
  refine fnd T.D_law_vocabulary sc_law_vocabulary rfl fun cdv A outer s H E hr => ⟨t_law_vocabulary, ?_, h⟩
  have nd := sc_law_vocabulary.nd
  exact (psds_cons (psd_setD (i := 1) nd rfl (by first | exact Or.inl rfl | exact Or.inr rfl) (pd_call G_law_pick (hr.mono (by decide)) (by rfl) T.g_law_pick T.D_law_pick.kp T.b_law_pick (pda_cons (pdv 0) (pda_cons (pd_lst (pda_cons pd_str (pda_cons pd_str (pda_cons pd_str pda_nil)))) pda_nil))))
      (psds_cons (psd_setD (i := 2) nd rfl (by first | exact Or.inl rfl | exact Or.inr rfl) (pd_lst (pda_cons pd_str (pda_cons pd_str (pda_cons pd_str (pda_cons pd_str (pda_cons pd_str (pda_cons pd_str (pda_cons pd_str (pda_cons pd_str (pda_cons pd_str (pda_cons pd_str pda_nil))))))))))))
      (psds_one (psd_ret (pd_lcV [("word", 3)] rfl rfl nd (pdi_seq (pd_slice (pd_call G_law_shuffled (hr.mono (by decide)) (by rfl) T.g_law_shuffled T.D_law_shuffled.kp T.b_law_shuffled (pda_cons (pdv 0) (pda_cons (pdv 2) pda_nil))) pdo_none (pdo_some (pd_op od_add pd_int (pd_call G_law_draw (hr.mono (by decide)) (by rfl) T.g_law_draw T.D_law_draw.kp T.b_law_draw (pda_cons (pdv 0) (pda_cons pd_int pda_nil))))))) (blkOk_by (own := [("word", 3)]) (N := n_law_vocabulary) (sc := defScope s_law_vocabulary) (by decide +kernel)) (fun _ _ _ _ _ => (pdc_name (i := 3) (pg_name nd rfl (by first | exact Or.inl rfl | exact Or.inr rfl)))) (fun _ _ _ _ _ => pdts_nil) (fun _ _ _ _ _ => (pd_slice (pd_op od_add (pdv 1) (pdv 3)) pdo_none (pdo_some pd_int))))))))
theorem ok_law_some_words (T : Tx K mg) (G_law_draw : FnOk P w K mg base CX0 1 T.f_law_draw T.d_law_draw p_law_draw (spD K ([0], []) 2 sp_law_draw)) (G_law_pick : FnOk P w K mg base CX0 2 T.f_law_pick T.d_law_pick p_law_pick (spD K ([0], []) 2 sp_law_pick)) (h : ∀ (args : List Sl) (Q : Sl → (Nat → Option Sl) → Prop), args.length = 3 → sp_law_some_words args Q → t_law_some_words { nx := fun env => Q (.d .none) (osOf env), rt := fun r env => Q r (osOf env) } (startE 4 args)) : FnOk P w K mg base CX0 3 T.f_law_some_words T.d_law_some_words p_law_some_words (spD K ([0], []) 3 sp_law_some_words) := by
  refine fnd T.D_law_some_words sc_law_some_words rfl fun cdv A outer s H E hr => ⟨t_law_some_words, ?_, h⟩
  have nd := sc_law_some_words.nd
  exact (psds_one (psd_ret (pd_callTy bd_tuple rfl T.n_tuple bt_tuple (pda_cons (pd_lcV [("k", 3)] rfl rfl nd (pdi_rng1 rfl T.n_range (pda_cons (pd_call G_law_draw (hr.mono (by decide)) (by rfl) T.g_law_draw T.D_law_draw.kp T.b_law_draw (pda_cons (pdv 0) (pda_cons (pd_op od_add (pdv 2) pd_int) pda_nil))) pda_nil)) (blkOk_by (own := [("k", 3)]) (N := n_law_some_words) (sc := defScope s_law_some_words) (by decide +kernel)) (fun _ _ _ _ _ => (pdc_name (i := 3) (pg_name nd rfl (by first | exact Or.inl rfl | exact Or.inr rfl)))) (fun _ _ _ _ _ => pdts_nil) (fun _ _ _ _ _ => (pd_call G_law_pick (hr.mono (by decide)) (by rfl) T.g_law_pick T.D_law_pick.kp T.b_law_pick (pda_cons (pdv 0) (pda_cons (pdv 1) pda_nil))))) pda_nil))))
theorem ok_law_b_addresses (T : Tx K mg) (G_law_draw : FnOk P w K mg base CX0 1 T.f_law_draw T.d_law_draw p_law_draw (spD K ([0], []) 2 sp_law_draw)) (G_law_pick : FnOk P w K mg base CX0 2 T.f_law_pick T.d_law_pick p_law_pick (spD K ([0], []) 2 sp_law_pick)) (h : ∀ (args : List Sl) (Q : Sl → (Nat → Option Sl) → Prop), args.length = 2 → sp_law_b_addresses args Q → t_law_b_addresses { nx := fun env => Q (.d .none) (osOf env), rt := fun r env => Q r (osOf env) } (startE 8 args)) : FnOk P w K mg base CX0 3 T.f_law_b_addresses T.d_law_b_addresses p_law_b_addresses (spD K ([0], []) 2 sp_law_b_addresses) := by
  refine fnd T.D_law_b_addresses sc_law_b_addresses rfl fun cdv A outer s H E hr => ⟨t_law_b_addresses, ?_, h⟩
  have nd := sc_law_b_addresses.nd
  exact (psds_cons (psd_setD (i := 2) nd rfl (by first | exact Or.inl rfl | exact Or.inr rfl) (pd_call G_law_pick (hr.mono (by decide)) (by rfl) T.g_law_pick T.D_law_pick.kp T.b_law_pick (pda_cons (pdv 0) (pda_cons (pd_lst (pda_cons pd_str (pda_cons pd_str (pda_cons pd_str (pda_cons pd_str pda_nil))))) pda_nil))))
      (psds_cons (psd_setD (i := 3) nd rfl (by first | exact Or.inl rfl | exact Or.inr rfl) (pd_call G_law_pick (hr.mono (by decide)) (by rfl) T.g_law_pick T.D_law_pick.kp T.b_law_pick (pda_cons (pdv 0) (pda_cons (pd_lst (pda_cons pd_str (pda_cons pd_str (pda_cons pd_str (pda_cons pd_str pda_nil))))) pda_nil))))
      (psds_cons (psd_set (i := 4) nd rfl (by first | exact Or.inl rfl | exact Or.inr rfl) (pd_lst pda_nil))
      (psds_cons (psd_for PassesOwn.never rfl (pdi_rng1 rfl T.n_range (pda_cons (pdv 1) pda_nil)) (pdg_name (i := 5) nd rfl (by first | exact Or.inl rfl | exact Or.inr rfl)) (psds_cons (psd_setD (i := 6) nd rfl (by first | exact Or.inl rfl | exact Or.inr rfl) (pd_call G_law_pick (hr.mono (by decide)) (by rfl) T.g_law_pick T.D_law_pick.kp T.b_law_pick (pda_cons (pdv 0) (pda_cons (pd_lst (pda_cons pd_str (pda_cons pd_str (pda_cons pd_str (pda_cons pd_str (pda_cons pd_str (pda_cons pd_str (pda_cons pd_str (pda_cons pd_str (pda_cons pd_str (pda_cons pd_str (pda_cons pd_str (pda_cons pd_str pda_nil))))))))))))) pda_nil))))
      (psds_cons (psd_if (pdt_cmp (od_eq (u64 hr)) (pd_call G_law_draw (hr.mono (by decide)) (by rfl) T.g_law_draw T.D_law_draw.kp T.b_law_draw (pda_cons (pdv 0) (pda_cons pd_int pda_nil))) pd_int) (psds_one (psd_setD (i := 6) nd rfl (by first | exact Or.inl rfl | exact Or.inr rfl) (pd_op od_add (pdv 6) (pd_call G_law_pick (hr.mono (by decide)) (by rfl) T.g_law_pick T.D_law_pick.kp T.b_law_pick (pda_cons (pdv 0) (pda_cons pd_str pda_nil)))))) psds_nil)
      (psds_cons (psd_setD (i := 7) nd rfl (by first | exact Or.inl rfl | exact Or.inr rfl) (pd_op od_add (pd_call G_law_pick (hr.mono (by decide)) (by rfl) T.g_law_pick T.D_law_pick.kp T.b_law_pick (pda_cons (pdv 0) (pda_cons (pd_lst (pda_cons (pdv 2) (pda_cons (pdv 2) (pda_cons (pdv 3) pda_nil)))) pda_nil))) (pdv 6)))
      (psds_one (psd_if (pdt_cmp (od_notIn (u65 hr)) (pdv 7) (pdv 4)) (psds_one (psd_expr (pd_m PySem.F.plainAttrs_list PySem.F.slot_list_append PySem.F.type_list_append md_append (pv 4) (pda_cons (pdv 7) pda_nil)))) psds_nil))))))
      (psds_one (psd_ret (pd_callB bd_sortedS rfl T.n_sorted bt_sorted (pda_cons (pdv 4) pda_nil))))))))
theorem ok_law_b_phrase_question (T : Tx K mg) (G_law_draw : FnOk P w K mg base CX0 1 T.f_law_draw T.d_law_draw p_law_draw (spD K ([0], []) 2 sp_law_draw)) (G_law_pick : FnOk P w K mg base CX0 2 T.f_law_pick T.d_law_pick p_law_pick (spD K ([0], []) 2 sp_law_pick)) (h : ∀ (args : List Sl) (Q : Sl → (Nat → Option Sl) → Prop), args.length = 2 → sp_law_b_phrase_question args Q → t_law_b_phrase_question { nx := fun env => Q (.d .none) (osOf env), rt := fun r env => Q r (osOf env) } (startE 12 args)) : FnOk P w K mg base CX0 3 T.f_law_b_phrase_question T.d_law_b_phrase_question p_law_b_phrase_question (spD K ([0], []) 2 sp_law_b_phrase_question) := by
  refine fnd T.D_law_b_phrase_question sc_law_b_phrase_question rfl fun cdv A outer s H E hr => ⟨t_law_b_phrase_question, ?_, h⟩
  have nd := sc_law_b_phrase_question.nd
  exact (psds_cons (psd_setD (i := 2) nd rfl (by first | exact Or.inl rfl | exact Or.inr rfl) (pd_ix (pd_ix (pd_call G_law_pick (hr.mono (by decide)) (by rfl) T.g_law_pick T.D_law_pick.kp T.b_law_pick (pda_cons (pdv 0) (pda_cons (pdv 1) pda_nil))) pd_int) pd_int))
      (psds_cons (psd_setD (i := 3) nd rfl (by first | exact Or.inl rfl | exact Or.inr rfl) (pd_call G_law_draw (hr.mono (by decide)) (by rfl) T.g_law_draw T.D_law_draw.kp T.b_law_draw (pda_cons (pdv 0) (pda_cons (pd_op od_add (pd_callB bd_len rfl T.n_len bt_len (pda_cons (pdv 2) pda_nil)) pd_int) pda_nil))))
      (psds_cons (psd_setD (i := 4) nd rfl (by first | exact Or.inl rfl | exact Or.inr rfl) pd_non)
      (psds_cons (psd_if (pdt_cmp (od_eq (u64 hr)) (pd_call G_law_draw (hr.mono (by decide)) (by rfl) T.g_law_draw T.D_law_draw.kp T.b_law_draw (pda_cons (pdv 0) (pda_cons pd_int pda_nil))) pd_int) (psds_cons (psd_setD (i := 4) nd rfl (by first | exact Or.inl rfl | exact Or.inr rfl) (pd_call G_law_draw (hr.mono (by decide)) (by rfl) T.g_law_draw T.D_law_draw.kp T.b_law_draw (pda_cons (pdv 0) (pda_cons pd_int pda_nil))))
      (psds_one (psd_if (PDW.pt (pdw_and (pdt_cmp od_lt (pdv 3) (pd_callB bd_len rfl T.n_len bt_len (pda_cons (pdv 2) pda_nil))) (pdw_and1 (pdt_cmp od_gt (pd_call G_law_draw (hr.mono (by decide)) (by rfl) T.g_law_draw T.D_law_draw.kp T.b_law_draw (pda_cons (pdv 0) (pda_cons pd_int pda_nil))) pd_int)))) (psds_one (psd_setD (i := 4) nd rfl (by first | exact Or.inl rfl | exact Or.inr rfl) (pd_ix (pd_ix (pdv 2) (pdv 3)) pd_int))) psds_nil))) psds_nil)
      (psds_cons (psd_set (i := 5) nd rfl (by first | exact Or.inl rfl | exact Or.inr rfl) (pd_lst pda_nil))
      (psds_cons (psd_setD (i := 6) nd rfl (by first | exact Or.inl rfl | exact Or.inr rfl) (pd_call G_law_pick (hr.mono (by decide)) (by rfl) T.g_law_pick T.D_law_pick.kp T.b_law_pick (pda_cons (pdv 0) (pda_cons (pd_lst (pda_cons pd_int (pda_cons pd_int (pda_cons pd_int (pda_cons pd_int (pda_cons pd_int (pda_cons pd_int (pda_cons pd_int pda_nil)))))))) pda_nil))))
      (psds_cons (psd_for PassesOwn.never rfl (pdi_rng1 rfl T.n_range (pda_cons (pdv 6) pda_nil)) (pdg_name (i := 7) nd rfl (by first | exact Or.inl rfl | exact Or.inr rfl)) (psds_cons (psd_setD (i := 8) nd rfl (by first | exact Or.inl rfl | exact Or.inr rfl) pd_int)
      (psds_cons (psd_if (pdt_cmp od_gt (pdv 7) pd_int) (psds_cons (psd_setD (i := 9) nd rfl (by first | exact Or.inl rfl | exact Or.inr rfl) (pd_call G_law_pick (hr.mono (by decide)) (by rfl) T.g_law_pick T.D_law_pick.kp T.b_law_pick (pda_cons (pdv 0) (pda_cons (pd_lst (pda_cons pd_int (pda_cons pd_int (pda_cons pd_int (pda_cons pd_int (pda_cons pd_int (pda_cons (pd_call G_law_draw (hr.mono (by decide)) (by rfl) T.g_law_draw T.D_law_draw.kp T.b_law_draw (pda_cons (pdv 0) (pda_cons pd_int pda_nil))) pda_nil))))))) pda_nil))))
      (psds_cons (psd_setD (i := 8) nd rfl (by first | exact Or.inl rfl | exact Or.inr rfl) (pd_callB (bd_min2 rfl) rfl T.n_min bt_min (pda_cons pd_int (pda_cons (pd_callB (bd_max2 rfl) rfl T.n_max bt_max (pda_cons pd_int (pda_cons (pd_op od_add (pdv 9) (pd_call G_law_pick (hr.mono (by decide)) (by rfl) T.g_law_pick T.D_law_pick.kp T.b_law_pick (pda_cons (pdv 0) (pda_cons (pd_lst (pda_cons pd_int (pda_cons pd_int (pda_cons pd_int (pda_cons (pd_neg pd_int) (pda_cons pd_int pda_nil)))))) pda_nil)))) pda_nil))) pda_nil))))
      (psds_one (psd_setD (i := 3) nd rfl (by first | exact Or.inl rfl | exact Or.inr rfl) (pd_op od_add (pd_op od_add (pdv 3) pd_int) (pdv 9)))))) psds_nil)
      (psds_cons (psd_setD (i := 10) nd rfl (by first | exact Or.inl rfl | exact Or.inr rfl) pd_str)
      (psds_cons (psd_if (pdt_cmp od_lt (pdv 3) (pd_callB bd_len rfl T.n_len bt_len (pda_cons (pdv 2) pda_nil))) (psds_one (psd_setD (i := 10) nd rfl (by first | exact Or.inl rfl | exact Or.inr rfl) (pd_ix (pd_ix (pdv 2) (pdv 3)) pd_int))) psds_nil)
      (psds_cons (psd_setD (i := 11) nd rfl (by first | exact Or.inl rfl | exact Or.inr rfl) (pd_cmp od_gt (pd_call G_law_draw (hr.mono (by decide)) (by rfl) T.g_law_draw T.D_law_draw.kp T.b_law_draw (pda_cons (pdv 0) (pda_cons pd_int pda_nil))) pd_int))
      (psds_cons (psd_if (pdt_not (pdt_tru (pdv 11))) (psds_one (psd_setD (i := 10) nd rfl (by first | exact Or.inl rfl | exact Or.inr rfl) (pd_slice (pdv 10) pdo_none (pdo_some (pd_call G_law_draw (hr.mono (by decide)) (by rfl) T.g_law_draw T.D_law_draw.kp T.b_law_draw (pda_cons (pdv 0) (pda_cons (pd_op od_add (pd_callB bd_len rfl T.n_len bt_len (pda_cons (pdv 10) pda_nil)) pd_int) pda_nil))))))) psds_nil)
      (psds_one (psd_expr (pd_m PySem.F.plainAttrs_list PySem.F.slot_list_append PySem.F.type_list_append md_append (pv 5) (pda_cons (pd_tup (pda_cons (pdv 10) (pda_cons (pdv 11) (pda_cons (pdv 8) pda_nil)))) pda_nil)))))))))))
      (psds_one (psd_ret (pd_tup (pda_cons pd_str (pda_cons (pdv 4) (pda_cons (pd_callTy bd_tuple rfl T.n_tuple bt_tuple (pda_cons (pdv 5) pda_nil)) (pda_cons (pd_call G_law_pick (hr.mono (by decide)) (by rfl) T.g_law_pick T.D_law_pick.kp T.b_law_pick (pda_cons (pdv 0) (pda_cons (pd_lst (pda_cons pd_int (pda_cons pd_int (pda_cons pd_int (pda_cons pd_int (pda_cons pd_int (pda_cons pd_int pda_nil))))))) pda_nil))) (pda_cons (pd_call G_law_pick (hr.mono (by decide)) (by rfl) T.g_law_pick T.D_law_pick.kp T.b_law_pick (pda_cons (pdv 0) (pda_cons (pd_lst (pda_cons pd_int (pda_cons pd_int (pda_cons pd_int (pda_cons pd_int pda_nil))))) pda_nil))) pda_nil)))))))))))))))
theorem ok_law_turned (T : Tx K mg) (G_law_draw : FnOk P w K mg base CX0 1 T.f_law_draw T.d_law_draw p_law_draw (spD K ([0], []) 2 sp_law_draw)) (G_law_pick : FnOk P w K mg base CX0 2 T.f_law_pick T.d_law_pick p_law_pick (spD K ([0], []) 2 sp_law_pick)) (G_law_shuffled : FnOk P w K mg base CX0 2 T.f_law_shuffled T.d_law_shuffled p_law_shuffled (spD K ([0], []) 2 sp_law_shuffled)) (h : ∀ (args : List Sl) (Q : Sl → (Nat → Option Sl) → Prop), args.length = 2 → sp_law_turned args Q → t_law_turned { nx := fun env => Q (.d .none) (osOf env), rt := fun r env => Q r (osOf env) } (startE 8 args)) : FnOk P w K mg base CX0 3 T.f_law_turned T.d_law_turned p_law_turned (spD K ([0], []) 2 sp_law_turned) := by
  refine fnd T.D_law_turned sc_law_turned rfl fun cdv A outer s H E hr => ⟨t_law_turned, ?_, h⟩
  have nd := sc_law_turned.nd
  exact (psds_cons (psd_setD (i := 2) nd rfl (by first | exact Or.inl rfl | exact Or.inr rfl) (pd_ix (pdv 1) pd_int))
      (psds_cons (psd_if (pdt_cmp (od_in (u65 hr)) (pdv 2) (pd_lst (pda_cons pd_str (pda_cons pd_str pda_nil)))) (psds_cons (psd_setD (i := 3) nd rfl (by first | exact Or.inl rfl | exact Or.inr rfl) (pd_ix (pd_lst (pda_cons pd_str (pda_cons pd_str pda_nil))) (pd_callTy bd_int rfl T.n_int bt_int (pda_cons (pd_cmp (od_eq (u64 hr)) (pdv 2) pd_str) pda_nil))))
      (psds_cons (psd_setD (i := 4) nd rfl (by first | exact Or.inl rfl | exact Or.inr rfl) (pd_callTy bd_tuple rfl T.n_tuple bt_tuple (pda_cons (pd_call G_law_shuffled (hr.mono (by decide)) (by rfl) T.g_law_shuffled T.D_law_shuffled.kp T.b_law_shuffled (pda_cons (pdv 0) (pda_cons (pd_ix (pdv 1) pd_int) pda_nil))) pda_nil)))
      (psds_cons (psd_setD (i := 5) nd rfl (by first | exact Or.inl rfl | exact Or.inr rfl) (pd_call G_law_draw (hr.mono (by decide)) (by rfl) T.g_law_draw T.D_law_draw.kp T.b_law_draw (pda_cons (pdv 0) (pda_cons pd_int pda_nil))))
      (psds_cons (psd_if (pdt_cmp (od_eq (u64 hr)) (pdv 5) pd_int) (psds_one (psd_ret (pd_tup (pda_cons pd_str (pda_cons (pd_tup (pda_cons (pdv 3) (pda_cons (pd_callTy bd_tuple rfl T.n_tuple bt_tuple (pda_cons (pd_lcV [("part", 6)] rfl rfl nd (pdi_seq (pdv 4)) (blkOk_by (own := [("part", 6)]) (N := n_law_turned) (sc := defScope s_law_turned) (by decide +kernel)) (fun _ _ _ _ _ => (pdc_name (i := 6) (pg_name nd rfl (by first | exact Or.inl rfl | exact Or.inr rfl)))) (fun _ _ _ _ _ => pdts_nil) (fun _ _ _ _ _ => (pd_tup (pda_cons pd_str (pda_cons (pdv 6) pda_nil))))) pda_nil)) pda_nil))) pda_nil))))) psds_nil)
      (psds_cons (psd_if (PDW.pt (pdw_and (pdt_cmp (od_eq (u64 hr)) (pdv 5) pd_int) (pdw_and1 (pdt_cmp od_gt (pd_callB bd_len rfl T.n_len bt_len (pda_cons (pdv 4) pda_nil)) pd_int)))) (psds_cons (psd_setD (i := 7) nd rfl (by first | exact Or.inl rfl | exact Or.inr rfl) (pd_call G_law_draw (hr.mono (by decide)) (by rfl) T.g_law_draw T.D_law_draw.kp T.b_law_draw (pda_cons (pdv 0) (pda_cons (pd_callB bd_len rfl T.n_len bt_len (pda_cons (pdv 4) pda_nil)) pda_nil))))
      (psds_one (psd_ret (pd_tup (pda_cons (pdv 2) (pda_cons (pd_op od_add (pd_slice (pdv 4) pdo_none (pdo_some (pdv 7))) (pd_tup (pda_cons (pd_tup (pda_cons (pdv 2) (pda_cons (pd_slice (pdv 4) (pdo_some (pdv 7)) pdo_none) pda_nil))) pda_nil))) pda_nil)))))) psds_nil)
      (psds_cons (psd_if (pdt_cmp (od_eq (u64 hr)) (pdv 5) pd_int) (psds_one (psd_ret (pd_tup (pda_cons pd_str (pda_cons (pd_tup (pda_cons (pd_tup (pda_cons pd_str (pda_cons (pd_tup (pda_cons (pd_tup (pda_cons (pdv 2) (pda_cons (pdv 4) pda_nil))) pda_nil)) pda_nil))) pda_nil)) pda_nil))))) psds_nil)
      (psds_one (psd_ret (pd_tup (pda_cons (pdv 2) (pda_cons (pdv 4) pda_nil))))))))))) psds_nil)
      (psds_one (psd_ret (pd_call G_law_pick (hr.mono (by decide)) (by rfl) T.g_law_pick T.D_law_pick.kp T.b_law_pick (pda_cons (pdv 0) (pda_cons (pd_lst (pda_cons (pd_tup (pda_cons pd_str (pda_cons (pd_tup (pda_cons (pdv 1) pda_nil)) pda_nil))) (pda_cons (pd_tup (pda_cons pd_str (pda_cons (pd_tup (pda_cons (pdv 1) (pda_cons (pd_tup (pda_cons pd_str (pda_cons (pd_tup pda_nil) pda_nil))) pda_nil))) pda_nil))) (pda_cons (pd_tup (pda_cons pd_str (pda_cons (pd_tup (pda_cons (pdv 1) (pda_cons (pd_tup (pda_cons pd_str (pda_cons (pd_tup pda_nil) pda_nil))) pda_nil))) pda_nil))) (pda_cons (pd_tup (pda_cons pd_str (pda_cons (pdv 1) pda_nil))) pda_nil))))) pda_nil)))))))
theorem ok_law_pages (T : Tx K mg) (G_law_draw : FnOk P w K mg base CX0 1 T.f_law_draw T.d_law_draw p_law_draw (spD K ([0], []) 2 sp_law_draw)) (G_law_pick : FnOk P w K mg base CX0 2 T.f_law_pick T.d_law_pick p_law_pick (spD K ([0], []) 2 sp_law_pick)) (G_law_vocabulary : FnOk P w K mg base CX0 3 T.f_law_vocabulary T.d_law_vocabulary p_law_vocabulary (spD K ([0], []) 1 sp_law_vocabulary)) (G_law_some_words : FnOk P w K mg base CX0 3 T.f_law_some_words T.d_law_some_words p_law_some_words (spD K ([0], []) 3 sp_law_some_words)) (G_law_b_addresses : FnOk P w K mg base CX0 3 T.f_law_b_addresses T.d_law_b_addresses p_law_b_addresses (spD K ([0], []) 2 sp_law_b_addresses)) (G_law_b_reading : FnOk P w K mg base CX0 2 T.f_law_b_reading T.d_law_b_reading p_law_b_reading (spD K ([0], []) 3 sp_law_b_reading)) (h : ∀ (args : List Sl) (Q : Sl → (Nat → Option Sl) → Prop), args.length = 1 → sp_law_pages args Q → t_law_pages { nx := fun env => Q (.d .none) (osOf env), rt := fun r env => Q r (osOf env) } (startE 9 args)) : FnOk P w K mg base CX0 4 T.f_law_pages T.d_law_pages p_law_pages (spD K ([0], []) 1 sp_law_pages) := by
  refine fnd T.D_law_pages sc_law_pages rfl fun cdv A outer s H E hr => ⟨t_law_pages, ?_, h⟩
  have nd := sc_law_pages.nd
  exact (psds_cons (psd_setD (i := 1) nd rfl (by first | exact Or.inl rfl | exact Or.inr rfl) (pd_call G_law_vocabulary (hr.mono (by decide)) (by rfl) T.g_law_vocabulary T.D_law_vocabulary.kp T.b_law_vocabulary (pda_cons (pdv 0) pda_nil)))
      (psds_cons (psd_setD (i := 2) nd rfl (by first | exact Or.inl rfl | exact Or.inr rfl) (pd_call G_law_b_addresses (hr.mono (by decide)) (by rfl) T.g_law_b_addresses T.D_law_b_addresses.kp T.b_law_b_addresses (pda_cons (pdv 0) (pda_cons (pd_op od_add pd_int (pd_call G_law_draw (hr.mono (by decide)) (by rfl) T.g_law_draw T.D_law_draw.kp T.b_law_draw (pda_cons (pdv 0) (pda_cons pd_int pda_nil)))) pda_nil))))
      (psds_cons (psd_set (i := 3) nd rfl (by first | exact Or.inl rfl | exact Or.inr rfl) (pd_lst pda_nil))
      (psds_cons (psd_for PassesOwn.never rfl (pdi_seq (pdv 2)) (pdg_name (i := 4) nd rfl (by first | exact Or.inl rfl | exact Or.inr rfl)) (psds_cons (psd_setD (i := 5) nd rfl (by first | exact Or.inl rfl | exact Or.inr rfl) (pd_call G_law_pick (hr.mono (by decide)) (by rfl) T.g_law_pick T.D_law_pick.kp T.b_law_pick (pda_cons (pdv 0) (pda_cons (pd_lst (pda_cons pd_int (pda_cons pd_int (pda_cons pd_int (pda_cons pd_int pda_nil))))) pda_nil))))
      (psds_cons (psd_setD (i := 6) nd rfl (by first | exact Or.inl rfl | exact Or.inr rfl) (pd_call G_law_some_words (hr.mono (by decide)) (by rfl) T.g_law_some_words T.D_law_some_words.kp T.b_law_some_words (pda_cons (pdv 0) (pda_cons (pd_slice (pdv 1) pdo_none (pdo_some (pd_call G_law_pick (hr.mono (by decide)) (by rfl) T.g_law_pick T.D_law_pick.kp T.b_law_pick (pda_cons (pdv 0) (pda_cons (pd_lst (pda_cons pd_int (pda_cons pd_int (pda_cons pd_int pda_nil)))) pda_nil))))) (pda_cons (pdv 5) pda_nil)))))
      (psds_cons (psd_if (pdt_cmp (od_eq (u64 hr)) (pd_call G_law_draw (hr.mono (by decide)) (by rfl) T.g_law_draw T.D_law_draw.kp T.b_law_draw (pda_cons (pdv 0) (pda_cons pd_int pda_nil))) pd_int) (psds_one (psd_setD (i := 6) nd rfl (by first | exact Or.inl rfl | exact Or.inr rfl) (pd_callTy bd_tuple rfl T.n_tuple bt_tuple (pda_cons (pd_lcV [("k", 7)] rfl rfl nd (pdi_rng1 rfl T.n_range (pda_cons (pd_op od_add pd_int (pd_call G_law_draw (hr.mono (by decide)) (by rfl) T.g_law_draw T.D_law_draw.kp T.b_law_draw (pda_cons (pdv 0) (pda_cons pd_int pda_nil)))) pda_nil)) (blkOk_by (own := [("k", 7)]) (N := n_law_pages) (sc := defScope s_law_pages) (by decide +kernel)) (fun _ _ _ _ _ => (pdc_name (i := 7) (pg_name nd rfl (by first | exact Or.inl rfl | exact Or.inr rfl)))) (fun _ _ _ _ _ => pdts_nil) (fun _ _ _ _ _ => (pd_call G_law_pick (hr.mono (by decide)) (by rfl) T.g_law_pick T.D_law_pick.kp T.b_law_pick (pda_cons (pdv 0) (pda_cons (pdv 1) pda_nil))))) pda_nil)))) psds_nil)
      (psds_cons (psd_setLcD (i := 8) [("k", 7)] rfl rfl nd rfl rfl (sw_true rfl rfl rfl (by decide +kernel)) (pdi_rng1 rfl T.n_range (pda_cons (pd_call G_law_draw (hr.mono (by decide)) (by rfl) T.g_law_draw T.D_law_draw.kp T.b_law_draw (pda_cons (pdv 0) (pda_cons pd_int pda_nil))) pda_nil)) (blkOk_by (own := [("k", 7)]) (N := n_law_pages) (sc := defScope s_law_pages) (by decide +kernel)) (fun _ _ _ _ _ => (pdc_name (i := 7) (pg_name nd rfl (by first | exact Or.inl rfl | exact Or.inr rfl)))) (fun _ _ _ _ _ => pdts_nil) (fun _ _ _ _ _ => (pd_call G_law_pick (hr.mono (by decide)) (by rfl) T.g_law_pick T.D_law_pick.kp T.b_law_pick (pda_cons (pdv 0) (pda_cons (pd_op od_add (pdv 2) (pd_lst (pda_cons pd_str pda_nil))) pda_nil)))))
      (psds_one (psd_expr (pd_m PySem.F.plainAttrs_list PySem.F.slot_list_append PySem.F.type_list_append md_append (pv 3) (pda_cons (pd_tup (pda_cons (pdv 4) (pda_cons (pd_call G_law_draw (hr.mono (by decide)) (by rfl) T.g_law_draw T.D_law_draw.kp T.b_law_draw (pda_cons (pdv 0) (pda_cons pd_int pda_nil))) (pda_cons (pd_call G_law_b_reading (hr.mono (by decide)) (by rfl) T.g_law_b_reading T.D_law_b_reading.kp T.b_law_b_reading (pda_cons (pdv 0) (pda_cons (pdv 6) (pda_cons (pdv 8) pda_nil)))) pda_nil)))) pda_nil)))))))))
      (psds_one (psd_ret (pdv 3)))))))
theorem ok_law_same (T : Tx K mg) {j : Nat} {sp_law_same sp : FD} (G_law_same : FnOk P w K mg base CX0 j T.f_law_same T.d_law_same p_law_same (spD K ([], []) 2 sp_law_same)) (h : ∀ (args : List Sl) (Q : Sl → (Nat → Option Sl) → Prop), args.length = 2 → sp args Q → t_law_same sp_law_same { nx := fun env => Q (.d .none) (osOf env), rt := fun r env => Q r (osOf env) } (startE 3 args)) : FnOk P w K mg base CX0 (j + 1) T.f_law_same T.d_law_same p_law_same (spD K ([], []) 2 sp) := by
  refine fnd T.D_law_same sc_law_same rfl fun cdv A outer s H E hr => ⟨t_law_same sp_law_same, ?_, h⟩
  have nd := sc_law_same.nd
  exact (psds_cons (psd_if (pdt_val (pd_isi isTy_tuple rfl T.n_isinstance rfl T.n_tuple bt_tuple (pdv 1))) (psds_cons (psd_if (PDW.pt (pdw_or (pdt_not (pdt_val (pd_isi isTy_tuple rfl T.n_isinstance rfl T.n_tuple bt_tuple (pdv 0)))) (pdw_or1 (pdt_cmp (od_ne (u64 hr)) (pd_callB bd_len rfl T.n_len bt_len (pda_cons (pdv 0) pda_nil)) (pd_callB bd_len rfl T.n_len bt_len (pda_cons (pdv 1) pda_nil)))))) (psds_one (psd_ret pd_bl)) psds_nil)
      (psds_cons (psd_for PassesOwn.never rfl (pdi_rng1 rfl T.n_range (pda_cons (pd_callB bd_len rfl T.n_len bt_len (pda_cons (pdv 1) pda_nil)) pda_nil)) (pdg_name (i := 2) nd rfl (by first | exact Or.inl rfl | exact Or.inr rfl)) (psds_one (psd_if (pdt_not (pdt_val (pd_call G_law_same (hr.mono (by omega)) (by rfl) T.g_law_same T.D_law_same.kp T.b_law_same (pda_cons (pd_ix (pdv 0) (pdv 2)) (pda_cons (pd_ix (pdv 1) (pdv 2)) pda_nil))))) (psds_one (psd_ret pd_bl)) psds_nil)))
      (psds_one (psd_ret pd_bl)))) psds_nil)
      (psds_cons (psd_if (PDW.pt (pdw_or (pdt_isN (pdv 1)) (pdw_or1 (pdt_isN (pdv 0))))) (psds_one (psd_ret (pd_and (pd_isN (pdv 1)) (pd_one (pd_isN (pdv 0)))))) psds_nil)
      (psds_cons (psd_if (pdt_val (pd_isi isTy_str rfl T.n_isinstance rfl T.n_str bt_str (pdv 1))) (psds_one (psd_ret (pd_and (pd_isi isTy_str rfl T.n_isinstance rfl T.n_str bt_str (pdv 0)) (pd_one (pd_cmp (od_eq (u64 hr)) (pdv 0) (pdv 1)))))) psds_nil)
      (psds_cons (psd_if (PDW.pt (pdw_or (pdt_cmp (od_ne (u64 hr)) (pd_isi isTy_bool rfl T.n_isinstance rfl T.n_bool bt_bool (pdv 0)) (pd_isi isTy_bool rfl T.n_isinstance rfl T.n_bool bt_bool (pdv 1))) (pdw_or1 (pdt_not (pdt_val (pd_isi isTy_int rfl T.n_isinstance rfl T.n_int bt_int (pdv 0))))))) (psds_one (psd_ret pd_bl)) psds_nil)
      (psds_one (psd_ret (pd_cmp (od_eq (u64 hr)) (pdv 0) (pdv 1))))))))
theorem ok_law_b_question (T : Tx K mg) {j : Nat} {sp_law_b_question sp : FD} (G_law_draw : FnOk P w K mg base CX0 1 T.f_law_draw T.d_law_draw p_law_draw (spD K ([0], []) 2 sp_law_draw)) (G_law_pick : FnOk P w K mg base CX0 2 T.f_law_pick T.d_law_pick p_law_pick (spD K ([0], []) 2 sp_law_pick)) (G_law_b_phrase_question : FnOk P w K mg base CX0 3 T.f_law_b_phrase_question T.d_law_b_phrase_question p_law_b_phrase_question (spD K ([0], []) 2 sp_law_b_phrase_question)) (G_law_b_question : FnOk P w K mg base CX0 (3 + j) T.f_law_b_question T.d_law_b_question p_law_b_question (spD K ([0], []) 3 sp_law_b_question)) (h : ∀ (args : List Sl) (Q : Sl → (Nat → Option Sl) → Prop), args.length = 3 → sp args Q → t_law_b_question sp_law_b_question { nx := fun env => Q (.d .none) (osOf env), rt := fun r env => Q r (osOf env) } (startE 7 args)) : FnOk P w K mg base CX0 (3 + j + 1) T.f_law_b_question T.d_law_b_question p_law_b_question (spD K ([0], []) 3 sp) := by
  refine fnd T.D_law_b_question sc_law_b_question rfl fun cdv A outer s H E hr => ⟨t_law_b_question sp_law_b_question, ?_, h⟩
  have nd := sc_law_b_question.nd
  exact (psds_cons (psd_setD (i := 3) nd rfl (by first | exact Or.inl rfl | exact Or.inr rfl) (pd_call G_law_draw (hr.mono (by omega)) (by rfl) T.g_law_draw T.D_law_draw.kp T.b_law_draw (pda_cons (pdv 0) (pda_cons pd_int pda_nil))))
      (psds_cons (psd_if (PDW.pt (pdw_and (pdt_cmp od_gt (pdv 2) pd_int) (pdw_and1 (pdt_cmp od_lt (pdv 3) pd_int)))) (psds_cons (psd_if (pdt_cmp (od_eq (u64 hr)) (pdv 3) pd_int) (psds_one (psd_ret (pd_tup (pda_cons pd_str (pda_cons (pd_call G_law_b_question (hr.mono (by omega)) (by rfl) T.g_law_b_question T.D_law_b_question.kp T.b_law_b_question (pda_cons (pdv 0) (pda_cons (pdv 1) (pda_cons (pd_op od_sub (pdv 2) pd_int) pda_nil)))) pda_nil))))) psds_nil)
      (psds_cons (psd_setLcD (i := 4) [("k", 5)] rfl rfl nd rfl rfl (sw_true rfl rfl rfl (by decide +kernel)) (pdi_rng1 rfl T.n_range (pda_cons (pd_call G_law_pick (hr.mono (by omega)) (by rfl) T.g_law_pick T.D_law_pick.kp T.b_law_pick (pda_cons (pdv 0) (pda_cons (pd_lst (pda_cons pd_int (pda_cons pd_int (pda_cons pd_int (pda_cons pd_int (pda_cons pd_int (pda_cons pd_int (pda_cons pd_int (pda_cons pd_int pda_nil))))))))) pda_nil))) pda_nil)) (blkOk_by (own := [("k", 5)]) (N := n_law_b_question) (sc := defScope s_law_b_question) (by decide +kernel)) (fun _ _ _ _ _ => (pdc_name (i := 5) (pg_name nd rfl (by first | exact Or.inl rfl | exact Or.inr rfl)))) (fun _ _ _ _ _ => pdts_nil) (fun _ _ _ _ _ => (pd_call G_law_b_question (hr.mono (by omega)) (by rfl) T.g_law_b_question T.D_law_b_question.kp T.b_law_b_question (pda_cons (pdv 0) (pda_cons (pdv 1) (pda_cons (pd_op od_sub (pdv 2) pd_int) pda_nil))))))
      (psds_one (psd_ret (pd_tup (pda_cons (pd_ix (pd_lst (pda_cons pd_str (pda_cons pd_str pda_nil))) (pd_call G_law_draw (hr.mono (by omega)) (by rfl) T.g_law_draw T.D_law_draw.kp T.b_law_draw (pda_cons (pdv 0) (pda_cons pd_int pda_nil)))) (pda_cons (pd_callTy bd_tuple rfl T.n_tuple bt_tuple (pda_cons (pdv 4) pda_nil)) pda_nil))))))) psds_nil)
      (psds_cons (psd_setD (i := 6) nd rfl (by first | exact Or.inl rfl | exact Or.inr rfl) (pd_call G_law_pick (hr.mono (by omega)) (by rfl) T.g_law_pick T.D_law_pick.kp T.b_law_pick (pda_cons (pdv 0) (pda_cons (pdv 1) pda_nil))))
      (psds_cons (psd_if (pdt_cmp (od_eq (u64 hr)) (pdv 3) pd_int) (psds_one (psd_ret (pd_tup (pda_cons pd_str (pda_cons (pd_slice (pd_ix (pdv 6) pd_int) pdo_none (pdo_some (pd_call G_law_draw (hr.mono (by omega)) (by rfl) T.g_law_draw T.D_law_draw.kp T.b_law_draw (pda_cons (pdv 0) (pda_cons (pd_op od_add (pd_callB bd_len rfl T.n_len bt_len (pda_cons (pd_ix (pdv 6) pd_int) pda_nil)) pd_int) pda_nil))))) pda_nil))))) psds_nil)
      (psds_cons (psd_if (pdt_cmp (od_eq (u64 hr)) (pdv 3) pd_int) (psds_one (psd_ret (pd_tup (pda_cons pd_str (pda_cons (pd_call G_law_pick (hr.mono (by omega)) (by rfl) T.g_law_pick T.D_law_pick.kp T.b_law_pick (pda_cons (pdv 0) (pda_cons (pd_op od_add (pd_callTy bd_list rfl T.n_list bt_list (pda_cons (pd_ix (pd_ix (pdv 6) pd_int) pd_int) pda_nil)) (pd_lst (pda_cons (pd_ix (pdv 6) pd_int) (pda_cons pd_str pda_nil)))) pda_nil))) pda_nil))))) psds_nil)
      (psds_cons (psd_if (pdt_cmp (od_eq (u64 hr)) (pdv 3) pd_int) (psds_one (psd_ret (pd_tup (pda_cons pd_str (pda_cons (pd_op od_add (pd_ix (pdv 6) pd_int) (pd_call G_law_draw (hr.mono (by omega)) (by rfl) T.g_law_draw T.D_law_draw.kp T.b_law_draw (pda_cons (pdv 0) (pda_cons pd_int pda_nil)))) pda_nil))))) psds_nil)
      (psds_one (psd_ret (pd_call G_law_b_phrase_question (hr.mono (by omega)) (by rfl) T.g_law_b_phrase_question T.D_law_b_phrase_question.kp T.b_law_b_phrase_question (pda_cons (pdv 0) (pda_cons (pdv 1) pda_nil)))))))))))
theorem ok_size (T : Tx K mg) {j : Nat} {sp_size sp : FD} (G_size : FnOk P w K mg base CX0 (0 + j) T.f_size T.d_size p_size (spD K ([], []) 1 sp_size)) (h : ∀ (args : List Sl) (Q : Sl → (Nat → Option Sl) → Prop), args.length = 1 → sp args Q → t_size sp_size { nx := fun env => Q (.d .none) (osOf env), rt := fun r env => Q r (osOf env) } (startE 3 args)) : FnOk P w K mg base CX0 (0 + j + 1) T.f_size T.d_size p_size (spD K ([], []) 1 sp) := by
  refine fnd T.D_size sc_size rfl fun cdv A outer s H E hr => ⟨t_size sp_size, ?_, h⟩
  have nd := sc_size.nd
  exact (psds_cons (psd_setD (i := 1) nd rfl (by first | exact Or.inl rfl | exact Or.inr rfl) (pd_ix (pdv 0) pd_int))
      (psds_cons (psd_if (pdt_cmp (od_eq (u64 hr)) (pdv 1) pd_str) (psds_one (psd_ret (pd_op od_add pd_int (pd_callB bd_len rfl T.n_len bt_len (pda_cons (pd_ix (pdv 0) pd_int) pda_nil))))) psds_nil)
      (psds_cons (psd_if (PDW.pt (pdw_or (pdt_cmp (od_eq (u64 hr)) (pdv 1) pd_str) (pdw_or1 (pdt_cmp (od_eq (u64 hr)) (pdv 1) pd_str)))) (psds_one (psd_ret (pd_op od_add pd_int (pd_callB (bd_sum rfl) rfl T.n_sum bt_sum (pda_cons (pd_lcV [("part", 2)] rfl rfl nd (pdi_seq (pd_ix (pdv 0) pd_int)) (blkOk_by (own := [("part", 2)]) (N := n_size) (sc := defScope s_size) (by decide +kernel)) (fun _ _ _ _ _ => (pdc_name (i := 2) (pg_name nd rfl (by first | exact Or.inl rfl | exact Or.inr rfl)))) (fun _ _ _ _ _ => pdts_nil) (fun _ _ _ _ _ => (pd_call G_size (hr.mono (by omega)) (by rfl) T.g_size T.D_size.kp T.b_size (pda_cons (pdv 2) pda_nil)))) pda_nil))))) psds_nil)
      (psds_cons (psd_if (pdt_cmp (od_eq (u64 hr)) (pdv 1) pd_str) (psds_one (psd_ret (pd_op od_add pd_int (pd_call G_size (hr.mono (by omega)) (by rfl) T.g_size T.D_size.kp T.b_size (pda_cons (pd_ix (pdv 0) pd_int) pda_nil))))) psds_nil)
      (psds_one (psd_ret pd_int))))))
theorem ok_questions_of_words (T : Tx K mg) {j : Nat} {sp_questions_of_words sp : FD} (G_questions_of_words : FnOk P w K mg base CX0 (0 + j) T.f_questions_of_words T.d_questions_of_words p_questions_of_words (spD K ([], []) 1 sp_questions_of_words)) (h : ∀ (args : List Sl) (Q : Sl → (Nat → Option Sl) → Prop), args.length = 1 → sp args Q → t_questions_of_words sp_questions_of_words { nx := fun env => Q (.d .none) (osOf env), rt := fun r env => Q r (osOf env) } (startE 4 args)) : FnOk P w K mg base CX0 (0 + j + 1) T.f_questions_of_words T.d_questions_of_words p_questions_of_words (spD K ([], []) 1 sp) := by
  refine fnd T.D_questions_of_words sc_questions_of_words rfl fun cdv A outer s H E hr => ⟨t_questions_of_words sp_questions_of_words, ?_, h⟩
  have nd := sc_questions_of_words.nd
  exact (psds_cons (psd_setD (i := 1) nd rfl (by first | exact Or.inl rfl | exact Or.inr rfl) (pd_ix (pdv 0) pd_int))
      (psds_cons (psd_if (pdt_cmp (od_eq (u64 hr)) (pdv 1) pd_str) (psds_one (psd_ret (pd_lst (pda_cons (pdv 0) pda_nil)))) psds_nil)
      (psds_cons (psd_if (pdt_cmp (od_eq (u64 hr)) (pdv 1) pd_str) (psds_one (psd_ret (pd_call G_questions_of_words (hr.mono (by omega)) (by rfl) T.g_questions_of_words T.D_questions_of_words.kp T.b_questions_of_words (pda_cons (pd_ix (pdv 0) pd_int) pda_nil)))) psds_nil)
      (psds_cons (psd_setD (i := 2) nd rfl (by first | exact Or.inl rfl | exact Or.inr rfl) (pd_lst pda_nil))
      (psds_cons (psd_if (PDW.pt (pdw_or (pdt_cmp (od_eq (u64 hr)) (pdv 1) pd_str) (pdw_or1 (pdt_cmp (od_eq (u64 hr)) (pdv 1) pd_str)))) (psds_one (psd_for PassesOwn.never rfl (pdi_seq (pd_ix (pdv 0) pd_int)) (pdg_name (i := 3) nd rfl (by first | exact Or.inl rfl | exact Or.inr rfl)) (psds_one (psd_setD (i := 2) nd rfl (by first | exact Or.inl rfl | exact Or.inr rfl) (pd_op od_add (pdv 2) (pd_call G_questions_of_words (hr.mono (by omega)) (by rfl) T.g_questions_of_words T.D_questions_of_words.kp T.b_questions_of_words (pda_cons (pdv 3) pda_nil))))))) psds_nil)
      (psds_one (psd_ret (pdv 2))))))))
theorem ok_law_s_size (T : Tx K mg) {j : Nat} {sp_law_s_size sp : FD} (G_law_s_size : FnOk P w K mg base CX0 (0 + j) T.f_law_s_size T.d_law_s_size p_law_s_size (spD K ([], []) 1 sp_law_s_size)) (h : ∀ (args : List Sl) (Q : Sl → (Nat → Option Sl) → Prop), args.length = 1 → sp args Q → t_law_s_size sp_law_s_size { nx := fun env => Q (.d .none) (osOf env), rt := fun r env => Q r (osOf env) } (startE 2 args)) : FnOk P w K mg base CX0 (0 + j + 1) T.f_law_s_size T.d_law_s_size p_law_s_size (spD K ([], []) 1 sp) := by
  refine fnd T.D_law_s_size sc_law_s_size rfl fun cdv A outer s H E hr => ⟨t_law_s_size sp_law_s_size, ?_, h⟩
  have nd := sc_law_s_size.nd
  exact (psds_cons (psd_if (pdt_cmp (od_eq (u64 hr)) (pd_ix (pdv 0) pd_int) pd_str) (psds_one (psd_ret (pd_op od_add pd_int (pd_callB bd_len rfl T.n_len bt_len (pda_cons (pd_ix (pdv 0) pd_int) pda_nil))))) psds_nil)
      (psds_cons (psd_if (pdt_cmp (od_eq (u64 hr)) (pd_ix (pdv 0) pd_int) pd_str) (psds_one (psd_ret (pd_op od_add pd_int (pd_call G_law_s_size (hr.mono (by omega)) (by rfl) T.g_law_s_size T.D_law_s_size.kp T.b_law_s_size (pda_cons (pd_ix (pdv 0) pd_int) pda_nil))))) psds_nil)
      (psds_cons (psd_if (pdt_cmp (od_in (u65 hr)) (pd_ix (pdv 0) pd_int) (pd_lst (pda_cons pd_str (pda_cons pd_str pda_nil)))) (psds_one (psd_ret (pd_op od_add pd_int (pd_callB (bd_sum rfl) rfl T.n_sum bt_sum (pda_cons (pd_lcV [("part", 1)] rfl rfl nd (pdi_seq (pd_ix (pdv 0) pd_int)) (blkOk_by (own := [("part", 1)]) (N := n_law_s_size) (sc := defScope s_law_s_size) (by decide +kernel)) (fun _ _ _ _ _ => (pdc_name (i := 1) (pg_name nd rfl (by first | exact Or.inl rfl | exact Or.inr rfl)))) (fun _ _ _ _ _ => pdts_nil) (fun _ _ _ _ _ => (pd_call G_law_s_size (hr.mono (by omega)) (by rfl) T.g_law_s_size T.D_law_s_size.kp T.b_law_s_size (pda_cons (pdv 1) pda_nil)))) pda_nil))))) psds_nil)
      (psds_one (psd_ret pd_int)))))
theorem ok_law_deep (T : Tx K mg) {j : Nat} {sp_law_deep sp : FD} (G_law_deep : FnOk P w K mg base CX0 (0 + j) T.f_law_deep T.d_law_deep p_law_deep (spD K ([], []) 1 sp_law_deep)) (h : ∀ (args : List Sl) (Q : Sl → (Nat → Option Sl) → Prop), args.length = 1 → sp args Q → t_law_deep sp_law_deep { nx := fun env => Q (.d .none) (osOf env), rt := fun r env => Q r (osOf env) } (startE 2 args)) : FnOk P w K mg base CX0 (0 + j + 1) T.f_law_deep T.d_law_deep p_law_deep (spD K ([], []) 1 sp) := by
  refine fnd T.D_law_deep sc_law_deep rfl fun cdv A outer s H E hr => ⟨t_law_deep sp_law_deep, ?_, h⟩
  have nd := sc_law_deep.nd
  exact (psds_cons (psd_if (pdt_cmp (od_eq (u64 hr)) (pd_ix (pdv 0) pd_int) pd_str) (psds_one (psd_ret (pd_op od_add pd_int (pd_call G_law_deep (hr.mono (by omega)) (by rfl) T.g_law_deep T.D_law_deep.kp T.b_law_deep (pda_cons (pd_ix (pdv 0) pd_int) pda_nil))))) psds_nil)
      (psds_cons (psd_if (pdt_cmp (od_in (u65 hr)) (pd_ix (pdv 0) pd_int) (pd_lst (pda_cons pd_str (pda_cons pd_str pda_nil)))) (psds_one (psd_ret (pd_op od_add pd_int (pd_callB (bd_maxL rfl) rfl T.n_max bt_max (pda_cons (pd_op od_add (pd_lst (pda_cons pd_int pda_nil)) (pd_lcV [("part", 1)] rfl rfl nd (pdi_seq (pd_ix (pdv 0) pd_int)) (blkOk_by (own := [("part", 1)]) (N := n_law_deep) (sc := defScope s_law_deep) (by decide +kernel)) (fun _ _ _ _ _ => (pdc_name (i := 1) (pg_name nd rfl (by first | exact Or.inl rfl | exact Or.inr rfl)))) (fun _ _ _ _ _ => pdts_nil) (fun _ _ _ _ _ => (pd_call G_law_deep (hr.mono (by omega)) (by rfl) T.g_law_deep T.D_law_deep.kp T.b_law_deep (pda_cons (pdv 1) pda_nil))))) pda_nil))))) psds_nil)
      (psds_one (psd_ret pd_int))))
theorem ok_found (T : Tx K mg) (G_places : FnOk P w K mg base CX0 2 T.f_places T.d_places p_places (spD K ([], []) 3 sp_places)) (G_questions_of_words : FnOk P w K mg base CX0 9 T.f_questions_of_words T.d_questions_of_words p_questions_of_words (spD K ([], []) 1 sp_questions_of_words)) (h : ∀ (args : List Sl) (Q : Sl → (Nat → Option Sl) → Prop), args.length = 2 → sp_found args Q → t_found { nx := fun env => Q (.d .none) (osOf env), rt := fun r env => Q r (osOf env) } (startE 3 args)) : FnOk P w K mg base CX0 10 T.f_found T.d_found p_found (spD K ([], []) 2 sp_found) := by
  refine fnd T.D_found sc_found rfl fun cdv A outer s H E hr => ⟨t_found, ?_, h⟩
  have nd := sc_found.nd
  exact (psds_one (psd_ret (pd_callTy bd_tuple rfl T.n_tuple bt_tuple (pda_cons (pd_lcV [("part", 2)] rfl rfl nd (pdi_seq (pd_call G_questions_of_words (hr.mono (by decide)) (by rfl) T.g_questions_of_words T.D_questions_of_words.kp T.b_questions_of_words (pda_cons (pdv 1) pda_nil))) (blkOk_by (own := [("part", 2)]) (N := n_found) (sc := defScope s_found) (by decide +kernel)) (fun _ _ _ _ _ => (pdc_name (i := 2) (pg_name nd rfl (by first | exact Or.inl rfl | exact Or.inr rfl)))) (fun _ _ _ _ _ => pdts_nil) (fun _ _ _ _ _ => (pd_call G_places (hr.mono (by decide)) (by rfl) T.g_places T.D_places.kp T.b_places (pda_cons (pd_ix (pd_ix (pdv 0) pd_int) pd_int) (pda_cons (pd_ix (pdv 2) pd_int) (pda_cons (pd_ix (pdv 2) pd_int) pda_nil)))))) pda_nil))))
theorem ok_law_b_asked (T : Tx K mg) (G_law_draw : FnOk P w K mg base CX0 1 T.f_law_draw T.d_law_draw p_law_draw (spD K ([0], []) 2 sp_law_draw)) (G_law_pick : FnOk P w K mg base CX0 2 T.f_law_pick T.d_law_pick p_law_pick (spD K ([0], []) 2 sp_law_pick)) (G_law_s_size : FnOk P w K mg base CX0 9 T.f_law_s_size T.d_law_s_size p_law_s_size (spD K ([], []) 1 sp_law_s_size)) (G_law_b_phrase_question : FnOk P w K mg base CX0 3 T.f_law_b_phrase_question T.d_law_b_phrase_question p_law_b_phrase_question (spD K ([0], []) 2 sp_law_b_phrase_question)) (G_law_b_question : FnOk P w K mg base CX0 6 T.f_law_b_question T.d_law_b_question p_law_b_question (spD K ([0], []) 3 sp_law_b_question)) (h : ∀ (args : List Sl) (Q : Sl → (Nat → Option Sl) → Prop), args.length = 2 → sp_law_b_asked args Q → t_law_b_asked { nx := fun env => Q (.d .none) (osOf env), rt := fun r env => Q r (osOf env) } (startE 3 args)) : FnOk P w K mg base CX0 10 T.f_law_b_asked T.d_law_b_asked p_law_b_asked (spD K ([0], []) 2 sp_law_b_asked) := by
  refine fnd T.D_law_b_asked sc_law_b_asked rfl fun cdv A outer s H E hr => ⟨t_law_b_asked, ?_, h⟩
  have nd := sc_law_b_asked.nd
  exact (psds_cons (psd_setD (i := 2) nd rfl (by first | exact Or.inl rfl | exact Or.inr rfl) (pd_call G_law_b_question (hr.mono (by decide)) (by rfl) T.g_law_b_question T.D_law_b_question.kp T.b_law_b_question (pda_cons (pdv 0) (pda_cons (pdv 1) (pda_cons (pd_call G_law_pick (hr.mono (by decide)) (by rfl) T.g_law_pick T.D_law_pick.kp T.b_law_pick (pda_cons (pdv 0) (pda_cons (pd_lst (pda_cons pd_int (pda_cons pd_int (pda_cons pd_int (pda_cons pd_int (pda_cons pd_int pda_nil)))))) pda_nil))) pda_nil)))))
      (psds_cons (psd_if (pdt_cmp (od_eq (u64 hr)) (pd_call G_law_draw (hr.mono (by decide)) (by rfl) T.g_law_draw T.D_law_draw.kp T.b_law_draw (pda_cons (pdv 0) (pda_cons pd_int pda_nil))) pd_int) (psds_one (psd_setD (i := 2) nd rfl (by first | exact Or.inl rfl | exact Or.inr rfl) (pd_tup (pda_cons pd_str (pda_cons (pd_tup (pda_cons pd_str (pda_cons (pd_tup (pda_cons (pd_tup (pda_cons pd_str (pda_cons (pd_tup (pda_cons (pd_tup (pda_cons pd_str (pda_cons (pd_call G_law_b_phrase_question (hr.mono (by decide)) (by rfl) T.g_law_b_phrase_question T.D_law_b_phrase_question.kp T.b_law_b_phrase_question (pda_cons (pdv 0) (pda_cons (pdv 1) pda_nil))) pda_nil))) pda_nil)) pda_nil))) pda_nil)) pda_nil))) pda_nil))))) psds_nil)
      (psds_cons (psd_if (pdt_cmp od_gt (pd_call G_law_s_size (hr.mono (by decide)) (by rfl) T.g_law_s_size T.D_law_s_size.kp T.b_law_s_size (pda_cons (pdv 2) pda_nil)) pd_int) (psds_one (psd_ret (pd_call G_law_b_phrase_question (hr.mono (by decide)) (by rfl) T.g_law_b_phrase_question T.D_law_b_phrase_question.kp T.b_law_b_phrase_question (pda_cons (pdv 0) (pda_cons (pdv 1) pda_nil))))) psds_nil)
      (psds_one (psd_ret (pdv 2))))))
theorem ok_law_s_score (T : Tx K mg) {j : Nat} {sp_law_s_score sp : FD} (G_law_s_places : FnOk P w K mg base CX0 2 T.f_law_s_places T.d_law_s_places p_law_s_places (spD K ([], []) 3 sp_law_s_places)) (G_law_s_score : FnOk P w K mg base CX0 (2 + j) T.f_law_s_score T.d_law_s_score p_law_s_score (spD K ([], []) 2 sp_law_s_score)) (h : ∀ (args : List Sl) (Q : Sl → (Nat → Option Sl) → Prop), args.length = 2 → sp args Q → t_law_s_score sp_law_s_score { nx := fun env => Q (.d .none) (osOf env), rt := fun r env => Q r (osOf env) } (startE 8 args)) : FnOk P w K mg base CX0 (2 + j + 1) T.f_law_s_score T.d_law_s_score p_law_s_score (spD K ([], []) 2 sp) := by
  refine fnd T.D_law_s_score sc_law_s_score rfl fun cdv A outer s H E hr => ⟨t_law_s_score sp_law_s_score, ?_, h⟩
  have nd := sc_law_s_score.nd
  exact (psds_cons (psd_setD (i := 2) nd rfl (by first | exact Or.inl rfl | exact Or.inr rfl) (pd_ix (pdv 1) pd_int))
      (psds_cons (psd_if (pdt_cmp (od_eq (u64 hr)) (pdv 2) pd_str) (psds_cons (psd_setD (i := 3) nd rfl (by first | exact Or.inl rfl | exact Or.inr rfl) (pd_callB bd_len rfl T.n_len bt_len (pda_cons (pd_call G_law_s_places (hr.mono (by omega)) (by rfl) T.g_law_s_places T.D_law_s_places.kp T.b_law_s_places (pda_cons (pd_ix (pd_ix (pdv 0) pd_int) pd_int) (pda_cons (pd_ix (pdv 1) pd_int) (pda_cons (pd_ix (pdv 1) pd_int) pda_nil)))) pda_nil)))
      (psds_one (psd_ret (pd_ifExp (pdt_cmp (od_eq (u64 hr)) (pdv 3) pd_int) pd_non (pd_op od_mul (pd_ix (pdv 1) pd_int) (pd_callB (bd_min2 rfl) rfl T.n_min bt_min (pda_cons (pdv 3) (pda_cons (pd_ix (pdv 1) pd_int) pda_nil)))))))) psds_nil)
      (psds_cons (psd_if (pdt_cmp (od_eq (u64 hr)) (pdv 2) pd_str) (psds_one (psd_ret (pd_ifExp (pdt_val (pd_sw (pd_ix (pdv 0) pd_int) (pd_ix (pdv 1) pd_int))) pd_int pd_non))) psds_nil)
      (psds_cons (psd_if (pdt_cmp (od_eq (u64 hr)) (pdv 2) pd_str) (psds_one (psd_ret (pd_ifExp (pdt_cmp (od_in (u65 hr)) (pd_ix (pdv 1) pd_int) (pd_ix (pd_ix (pdv 0) pd_int) pd_int)) pd_int pd_non))) psds_nil)
      (psds_cons (psd_if (pdt_cmp (od_eq (u64 hr)) (pdv 2) pd_str) (psds_one (psd_ret (pd_ifExp (pdt_cmp od_ge (pd_ix (pdv 0) pd_int) (pd_ix (pdv 1) pd_int)) pd_int pd_non))) psds_nil)
      (psds_cons (psd_if (pdt_cmp (od_eq (u64 hr)) (pdv 2) pd_str) (psds_one (psd_ret (pd_ifExp (pdt_isN (pd_call G_law_s_score (hr.mono (by omega)) (by rfl) T.g_law_s_score T.D_law_s_score.kp T.b_law_s_score (pda_cons (pdv 0) (pda_cons (pd_ix (pdv 1) pd_int) pda_nil)))) pd_int pd_non))) psds_nil)
      (psds_cons (psd_setLcD (i := 4) [("part", 5)] rfl rfl nd rfl rfl (sw_true rfl rfl rfl (by decide +kernel)) (pdi_seq (pd_ix (pdv 1) pd_int)) (blkOk_by (own := [("part", 5)]) (N := n_law_s_score) (sc := defScope s_law_s_score) (by decide +kernel)) (fun _ _ _ _ _ => (pdc_name (i := 5) (pg_name nd rfl (by first | exact Or.inl rfl | exact Or.inr rfl)))) (fun _ _ _ _ _ => pdts_nil) (fun _ _ _ _ _ => (pd_call G_law_s_score (hr.mono (by omega)) (by rfl) T.g_law_s_score T.D_law_s_score.kp T.b_law_s_score (pda_cons (pdv 0) (pda_cons (pdv 5) pda_nil)))))
      (psds_cons (psd_setLcD (i := 6) [("one", 7)] rfl rfl nd rfl rfl (sw_true rfl rfl rfl (by decide +kernel)) (pdi_seq (pdv 4)) (blkOk_by (own := [("one", 7)]) (N := n_law_s_score) (sc := defScope s_law_s_score) (by decide +kernel)) (fun _ _ _ _ _ => (pdc_name (i := 7) (pg_name nd rfl (by first | exact Or.inl rfl | exact Or.inr rfl)))) (fun _ _ _ _ _ => (pdts_one (pdt_notN (pdv 7)))) (fun _ _ _ _ _ => (pdv 7)))
      (psds_cons (psd_if (pdt_cmp (od_eq (u64 hr)) (pdv 2) pd_str) (psds_one (psd_ret (pd_ifExp (pdt_cmp (od_eq (u64 hr)) (pd_callB bd_len rfl T.n_len bt_len (pda_cons (pdv 6) pda_nil)) (pd_callB bd_len rfl T.n_len bt_len (pda_cons (pdv 4) pda_nil))) (pd_callB (bd_sum rfl) rfl T.n_sum bt_sum (pda_cons (pdv 6) pda_nil)) pd_non))) psds_nil)
      (psds_one (psd_ret (pd_ifExp (pdt_cmp od_gt (pd_callB bd_len rfl T.n_len bt_len (pda_cons (pdv 6) pda_nil)) pd_int) (pd_callB (bd_sum rfl) rfl T.n_sum bt_sum (pda_cons (pdv 6) pda_nil)) pd_non))))))))))))
theorem ok_law_s_found (T : Tx K mg) {j : Nat} {sp_law_s_found sp : FD} (G_law_s_places : FnOk P w K mg base CX0 2 T.f_law_s_places T.d_law_s_places p_law_s_places (spD K ([], []) 3 sp_law_s_places)) (G_law_s_found : FnOk P w K mg base CX0 (2 + j) T.f_law_s_found T.d_law_s_found p_law_s_found (spD K ([], []) 2 sp_law_s_found)) (h : ∀ (args : List Sl) (Q : Sl → (Nat → Option Sl) → Prop), args.length = 2 → sp args Q → t_law_s_found sp_law_s_found { nx := fun env => Q (.d .none) (osOf env), rt := fun r env => Q r (osOf env) } (startE 4 args)) : FnOk P w K mg base CX0 (2 + j + 1) T.f_law_s_found T.d_law_s_found p_law_s_found (spD K ([], []) 2 sp) := by
  refine fnd T.D_law_s_found sc_law_s_found rfl fun cdv A outer s H E hr => ⟨t_law_s_found sp_law_s_found, ?_, h⟩
  have nd := sc_law_s_found.nd
  exact (psds_cons (psd_if (pdt_cmp (od_eq (u64 hr)) (pd_ix (pdv 1) pd_int) pd_str) (psds_one (psd_ret (pd_tup (pda_cons (pd_call G_law_s_places (hr.mono (by omega)) (by rfl) T.g_law_s_places T.D_law_s_places.kp T.b_law_s_places (pda_cons (pd_ix (pd_ix (pdv 0) pd_int) pd_int) (pda_cons (pd_ix (pdv 1) pd_int) (pda_cons (pd_ix (pdv 1) pd_int) pda_nil)))) pda_nil)))) psds_nil)
      (psds_cons (psd_if (pdt_cmp (od_eq (u64 hr)) (pd_ix (pdv 1) pd_int) pd_str) (psds_one (psd_ret (pd_call G_law_s_found (hr.mono (by omega)) (by rfl) T.g_law_s_found T.D_law_s_found.kp T.b_law_s_found (pda_cons (pdv 0) (pda_cons (pd_ix (pdv 1) pd_int) pda_nil))))) psds_nil)
      (psds_cons (psd_setD (i := 2) nd rfl (by first | exact Or.inl rfl | exact Or.inr rfl) (pd_tup pda_nil))
      (psds_cons (psd_if (pdt_cmp (od_in (u65 hr)) (pd_ix (pdv 1) pd_int) (pd_lst (pda_cons pd_str (pda_cons pd_str pda_nil)))) (psds_one (psd_for PassesOwn.never rfl (pdi_seq (pd_ix (pdv 1) pd_int)) (pdg_name (i := 3) nd rfl (by first | exact Or.inl rfl | exact Or.inr rfl)) (psds_one (psd_setD (i := 2) nd rfl (by first | exact Or.inl rfl | exact Or.inr rfl) (pd_op od_add (pdv 2) (pd_call G_law_s_found (hr.mono (by omega)) (by rfl) T.g_law_s_found T.D_law_s_found.kp T.b_law_s_found (pda_cons (pdv 0) (pda_cons (pdv 3) pda_nil)))))))) psds_nil)
      (psds_one (psd_ret (pdv 2)))))))
theorem ok_law_case (T : Tx K mg) (G_law_s_places : FnOk P w K mg base CX0 2 T.f_law_s_places T.d_law_s_places p_law_s_places (spD K ([], []) 3 sp_law_s_places)) (G_law_s_size : FnOk P w K mg base CX0 9 T.f_law_s_size T.d_law_s_size p_law_s_size (spD K ([], []) 1 sp_law_s_size)) (G_law_s_score : FnOk P w K mg base CX0 11 T.f_law_s_score T.d_law_s_score p_law_s_score (spD K ([], []) 2 sp_law_s_score)) (G_law_s_found : FnOk P w K mg base CX0 11 T.f_law_s_found T.d_law_s_found p_law_s_found (spD K ([], []) 2 sp_law_s_found)) (h : ∀ (args : List Sl) (Q : Sl → (Nat → Option Sl) → Prop), args.length = 3 → sp_law_case args Q → t_law_case { nx := fun env => Q (.d .none) (osOf env), rt := fun r env => Q r (osOf env) } (startE 3 args)) : FnOk P w K mg base CX0 12 T.f_law_case T.d_law_case p_law_case (spD K ([], []) 3 sp_law_case) := by
  refine fnd T.D_law_case sc_law_case rfl fun cdv A outer s H E hr => ⟨t_law_case, ?_, h⟩
  have nd := sc_law_case.nd
  exact (psds_cons (psd_if (pdt_cmp (od_eq (u64 hr)) (pdv 0) pd_str) (psds_one (psd_ret (pd_tup (pda_cons (pdv 0) (pda_cons (pdv 1) (pda_cons (pdv 2) (pda_cons (pd_call G_law_s_places (hr.mono (by decide)) (by rfl) T.g_law_s_places T.D_law_s_places.kp T.b_law_s_places (pda_cons (pdv 1) (pda_cons (pd_ix (pdv 2) pd_int) (pda_cons (pd_ix (pdv 2) pd_int) pda_nil)))) pda_nil))))))) psds_nil)
      (psds_cons (psd_if (pdt_cmp (od_eq (u64 hr)) (pdv 0) pd_str) (psds_one (psd_ret (pd_tup (pda_cons (pdv 0) (pda_cons (pdv 1) (pda_cons (pdv 2) (pda_cons (pd_call G_law_s_score (hr.mono (by decide)) (by rfl) T.g_law_s_score T.D_law_s_score.kp T.b_law_s_score (pda_cons (pdv 1) (pda_cons (pdv 2) pda_nil))) pda_nil))))))) psds_nil)
      (psds_cons (psd_if (pdt_cmp (od_eq (u64 hr)) (pdv 0) pd_str) (psds_one (psd_ret (pd_tup (pda_cons (pdv 0) (pda_cons (pdv 1) (pda_cons (pdv 2) (pda_cons (pd_call G_law_s_found (hr.mono (by decide)) (by rfl) T.g_law_s_found T.D_law_s_found.kp T.b_law_s_found (pda_cons (pdv 1) (pda_cons (pdv 2) pda_nil))) pda_nil))))))) psds_nil)
      (psds_one (psd_ret (pd_tup (pda_cons (pdv 0) (pda_cons (pdv 1) (pda_cons (pdv 2) (pda_cons (pd_call G_law_s_size (hr.mono (by decide)) (by rfl) T.g_law_s_size T.D_law_s_size.kp T.b_law_s_size (pda_cons (pdv 2) pda_nil)) pda_nil))))))))))
theorem ok_score_of_some (T : Tx K mg) {j : Nat} {sp_score sp : FD} (G_score : FnOk P w K mg base CX0 (3 + j) T.f_score T.d_score p_score (spD K ([], []) 2 sp_score)) (h : ∀ (args : List Sl) (Q : Sl → (Nat → Option Sl) → Prop), args.length = 2 → sp args Q → t_score_of_some sp_score { nx := fun env => Q (.d .none) (osOf env), rt := fun r env => Q r (osOf env) } (startE 8 args)) : FnOk P w K mg base CX0 (3 + j + 1) T.f_score_of_some T.d_score_of_some p_score_of_some (spD K ([], []) 2 sp) := by
  refine fnd T.D_score_of_some sc_score_of_some rfl fun cdv A outer s H E hr => ⟨t_score_of_some sp_score, ?_, h⟩
  have nd := sc_score_of_some.nd
  exact (psds_cons (psd_asg (pdv 1) (pdg_tup rfl (pdgs_cons (pdg_name (i := 2) nd rfl (by first | exact Or.inl rfl | exact Or.inr rfl)) (pdgs_cons (pdg_name (i := 3) nd rfl (by first | exact Or.inl rfl | exact Or.inr rfl)) pdgs_nil))))
      (psds_cons (psd_setLcD (i := 4) [("part", 5)] rfl rfl nd rfl rfl (sw_true rfl rfl rfl (by decide +kernel)) (pdi_seq (pdv 3)) (blkOk_by (own := [("part", 5)]) (N := n_score_of_some) (sc := defScope s_score_of_some) (by decide +kernel)) (fun _ _ _ _ _ => (pdc_name (i := 5) (pg_name nd rfl (by first | exact Or.inl rfl | exact Or.inr rfl)))) (fun _ _ _ _ _ => pdts_nil) (fun _ _ _ _ _ => (pd_call G_score (hr.mono (by omega)) (by rfl) T.g_score T.D_score.kp T.b_score (pda_cons (pdv 0) (pda_cons (pdv 5) pda_nil)))))
      (psds_cons (psd_setLcD (i := 6) [("number", 7)] rfl rfl nd rfl rfl (sw_true rfl rfl rfl (by decide +kernel)) (pdi_seq (pdv 4)) (blkOk_by (own := [("number", 7)]) (N := n_score_of_some) (sc := defScope s_score_of_some) (by decide +kernel)) (fun _ _ _ _ _ => (pdc_name (i := 7) (pg_name nd rfl (by first | exact Or.inl rfl | exact Or.inr rfl)))) (fun _ _ _ _ _ => (pdts_one (pdt_notN (pdv 7)))) (fun _ _ _ _ _ => (pdv 7)))
      (psds_cons (psd_if (PDW.pt (pdw_and (pdt_cmp (od_eq (u64 hr)) (pdv 2) pd_str) (pdw_and1 (pdt_cmp od_lt (pd_callB bd_len rfl T.n_len bt_len (pda_cons (pdv 6) pda_nil)) (pd_callB bd_len rfl T.n_len bt_len (pda_cons (pdv 4) pda_nil)))))) (psds_one (psd_ret pd_non)) psds_nil)
      (psds_cons (psd_if (PDW.pt (pdw_and (pdt_cmp (od_eq (u64 hr)) (pdv 2) pd_str) (pdw_and1 (pdt_cmp (od_eq (u64 hr)) (pd_callB bd_len rfl T.n_len bt_len (pda_cons (pdv 6) pda_nil)) pd_int)))) (psds_one (psd_ret pd_non)) psds_nil)
      (psds_one (psd_ret (pd_callB (bd_sum rfl) rfl T.n_sum bt_sum (pda_cons (pdv 6) pda_nil)))))))))
theorem ok_score (T : Tx K mg) {j : Nat} {sp_score_of_some sp_score sp : FD} (G_nought_if : FnOk P w K mg base CX0 1 T.f_nought_if T.d_nought_if p_nought_if (spD K ([], []) 1 sp_nought_if)) (G_score_of_words : FnOk P w K mg base CX0 3 T.f_score_of_words T.d_score_of_words p_score_of_words (spD K ([], []) 2 sp_score_of_words)) (G_score_of_some : FnOk P w K mg base CX0 (3 + j) T.f_score_of_some T.d_score_of_some p_score_of_some (spD K ([], []) 2 sp_score_of_some)) (G_score : FnOk P w K mg base CX0 (3 + j) T.f_score T.d_score p_score (spD K ([], []) 2 sp_score)) (h : ∀ (args : List Sl) (Q : Sl → (Nat → Option Sl) → Prop), args.length = 2 → sp args Q → t_score sp_score_of_some sp_score { nx := fun env => Q (.d .none) (osOf env), rt := fun r env => Q r (osOf env) } (startE 3 args)) : FnOk P w K mg base CX0 (3 + j + 1) T.f_score T.d_score p_score (spD K ([], []) 2 sp) := by
  refine fnd T.D_score sc_score rfl fun cdv A outer s H E hr => ⟨t_score sp_score_of_some sp_score, ?_, h⟩
  have nd := sc_score.nd
  exact (psds_cons (psd_setD (i := 2) nd rfl (by first | exact Or.inl rfl | exact Or.inr rfl) (pd_ix (pdv 1) pd_int))
      (psds_cons (psd_if (pdt_cmp (od_eq (u64 hr)) (pdv 2) pd_str) (psds_one (psd_ret (pd_call G_score_of_words (hr.mono (by omega)) (by rfl) T.g_score_of_words T.D_score_of_words.kp T.b_score_of_words (pda_cons (pdv 0) (pda_cons (pdv 1) pda_nil))))) psds_nil)
      (psds_cons (psd_if (PDW.pt (pdw_or (pdt_cmp (od_eq (u64 hr)) (pdv 2) pd_str) (pdw_or1 (pdt_cmp (od_eq (u64 hr)) (pdv 2) pd_str)))) (psds_one (psd_ret (pd_call G_score_of_some (hr.mono (by omega)) (by rfl) T.g_score_of_some T.D_score_of_some.kp T.b_score_of_some (pda_cons (pdv 0) (pda_cons (pdv 1) pda_nil))))) psds_nil)
      (psds_cons (psd_if (pdt_cmp (od_eq (u64 hr)) (pdv 2) pd_str) (psds_one (psd_ret (pd_call G_nought_if (hr.mono (by omega)) (by rfl) T.g_nought_if T.D_nought_if.kp T.b_nought_if (pda_cons (pd_isN (pd_call G_score (hr.mono (by omega)) (by rfl) T.g_score T.D_score.kp T.b_score (pda_cons (pdv 0) (pda_cons (pd_ix (pdv 1) pd_int) pda_nil)))) pda_nil)))) psds_nil)
      (psds_cons (psd_if (pdt_cmp (od_eq (u64 hr)) (pdv 2) pd_str) (psds_one (psd_ret (pd_call G_nought_if (hr.mono (by omega)) (by rfl) T.g_nought_if T.D_nought_if.kp T.b_nought_if (pda_cons (pd_sw (pd_ix (pdv 0) pd_int) (pd_ix (pdv 1) pd_int)) pda_nil)))) psds_nil)
      (psds_cons (psd_if (pdt_cmp (od_eq (u64 hr)) (pdv 2) pd_str) (psds_one (psd_ret (pd_call G_nought_if (hr.mono (by omega)) (by rfl) T.g_nought_if T.D_nought_if.kp T.b_nought_if (pda_cons (pd_cmp (od_in (u65 hr)) (pd_ix (pdv 1) pd_int) (pd_ix (pd_ix (pdv 0) pd_int) pd_int)) pda_nil)))) psds_nil)
      (psds_one (psd_ret (pd_call G_nought_if (hr.mono (by omega)) (by rfl) T.g_nought_if T.D_nought_if.kp T.b_nought_if (pda_cons (pd_cmp od_ge (pd_ix (pdv 0) pd_int) (pd_ix (pdv 1) pd_int)) pda_nil))))))))))
theorem ok_law_told (T : Tx K mg) (G_places : FnOk P w K mg base CX0 2 T.f_places T.d_places p_places (spD K ([], []) 3 sp_places)) (G_size : FnOk P w K mg base CX0 9 T.f_size T.d_size p_size (spD K ([], []) 1 sp_size)) (G_score : FnOk P w K mg base CX0 21 T.f_score T.d_score p_score (spD K ([], []) 2 sp_score)) (G_found : FnOk P w K mg base CX0 10 T.f_found T.d_found p_found (spD K ([], []) 2 sp_found)) (h : ∀ (args : List Sl) (Q : Sl → (Nat → Option Sl) → Prop), args.length = 3 → sp_law_told args Q → t_law_told { nx := fun env => Q (.d .none) (osOf env), rt := fun r env => Q r (osOf env) } (startE 3 args)) : FnOk P w K mg base CX0 22 T.f_law_told T.d_law_told p_law_told (spD K ([], []) 3 sp_law_told) := by
  refine fnd T.D_law_told sc_law_told rfl fun cdv A outer s H E hr => ⟨t_law_told, ?_, h⟩
  have nd := sc_law_told.nd
  exact (psds_cons (psd_if (pdt_cmp (od_eq (u64 hr)) (pdv 0) pd_str) (psds_one (psd_ret (pd_call G_places (hr.mono (by decide)) (by rfl) T.g_places T.D_places.kp T.b_places (pda_cons (pdv 1) (pda_cons (pd_ix (pdv 2) pd_int) (pda_cons (pd_ix (pdv 2) pd_int) pda_nil)))))) psds_nil)
      (psds_cons (psd_if (pdt_cmp (od_eq (u64 hr)) (pdv 0) pd_str) (psds_one (psd_ret (pd_call G_score (hr.mono (by decide)) (by rfl) T.g_score T.D_score.kp T.b_score (pda_cons (pdv 1) (pda_cons (pdv 2) pda_nil))))) psds_nil)
      (psds_cons (psd_if (pdt_cmp (od_eq (u64 hr)) (pdv 0) pd_str) (psds_one (psd_ret (pd_call G_found (hr.mono (by decide)) (by rfl) T.g_found T.D_found.kp T.b_found (pda_cons (pdv 1) (pda_cons (pdv 2) pda_nil))))) psds_nil)
      (psds_one (psd_ret (pd_call G_size (hr.mono (by decide)) (by rfl) T.g_size T.D_size.kp T.b_size (pda_cons (pdv 2) pda_nil)))))))
theorem ok_law_right (T : Tx K mg) (G_law_same : FnOk P w K mg base CX0 6 T.f_law_same T.d_law_same p_law_same (spD K ([], []) 2 sp_law_same)) (G_law_told : FnOk P w K mg base CX0 22 T.f_law_told T.d_law_told p_law_told (spD K ([], []) 3 sp_law_told)) (h : ∀ (args : List Sl) (Q : Sl → (Nat → Option Sl) → Prop), args.length = 1 → sp_law_right args Q → t_law_right { nx := fun env => Q (.d .none) (osOf env), rt := fun r env => Q r (osOf env) } (startE 1 args)) : FnOk P w K mg base CX0 23 T.f_law_right T.d_law_right p_law_right (spD K ([], []) 1 sp_law_right) := by
  refine fnd T.D_law_right sc_law_right rfl fun cdv A outer s H E hr => ⟨t_law_right, ?_, h⟩
  have nd := sc_law_right.nd
  exact (psds_one (psd_ret (pd_call G_law_same (hr.mono (by decide)) (by rfl) T.g_law_same T.D_law_same.kp T.b_law_same (pda_cons (pd_call G_law_told (hr.mono (by decide)) (by rfl) T.g_law_told T.D_law_told.kp T.b_law_told (pda_cons (pd_ix (pdv 0) pd_int) (pda_cons (pd_ix (pdv 0) pd_int) (pda_cons (pd_ix (pdv 0) pd_int) pda_nil)))) (pda_cons (pd_ix (pdv 0) pd_int) pda_nil)))))
theorem ok_law (T : Tx K mg) (G_law_tape : FnOk P w K mg base CX0 1 T.f_law_tape T.d_law_tape p_law_tape (spD K ([], []) 1 sp_law_tape)) (G_law_pick : FnOk P w K mg base CX0 2 T.f_law_pick T.d_law_pick p_law_pick (spD K ([0], []) 2 sp_law_pick)) (G_law_turns : FnOk P w K mg base CX0 2 T.f_law_turns T.d_law_turns p_law_turns (spD K ([0], []) 2 sp_law_turns)) (G_law_s_size : FnOk P w K mg base CX0 9 T.f_law_s_size T.d_law_s_size p_law_s_size (spD K ([], []) 1 sp_law_s_size)) (G_law_b_phrase_question : FnOk P w K mg base CX0 3 T.f_law_b_phrase_question T.d_law_b_phrase_question p_law_b_phrase_question (spD K ([0], []) 2 sp_law_b_phrase_question)) (G_law_b_asked : FnOk P w K mg base CX0 10 T.f_law_b_asked T.d_law_b_asked p_law_b_asked (spD K ([0], []) 2 sp_law_b_asked)) (G_law_case : FnOk P w K mg base CX0 12 T.f_law_case T.d_law_case p_law_case (spD K ([], []) 3 sp_law_case)) (G_law_right : FnOk P w K mg base CX0 23 T.f_law_right T.d_law_right p_law_right (spD K ([], []) 1 sp_law_right)) (G_law_pages : FnOk P w K mg base CX0 4 T.f_law_pages T.d_law_pages p_law_pages (spD K ([0], []) 1 sp_law_pages)) (G_law_turned : FnOk P w K mg base CX0 3 T.f_law_turned T.d_law_turned p_law_turned (spD K ([0], []) 2 sp_law_turned)) (G_law_deep : FnOk P w K mg base CX0 9 T.f_law_deep T.d_law_deep p_law_deep (spD K ([], []) 1 sp_law_deep)) (h : ∀ (args : List Sl) (Q : Sl → (Nat → Option Sl) → Prop), args.length = 1 → sp_law args Q → t_law { nx := fun env => Q (.d .none) (osOf env), rt := fun r env => Q r (osOf env) } (startE 13 args)) : FnOk P w K mg base CX0 24 T.f_law T.d_law p_law (spD K ([], []) 1 sp_law) := by
  refine fnd T.D_law sc_law rfl fun cdv A outer s H E hr => ⟨t_law, ?_, h⟩
  have nd := sc_law.nd
  exact (psds_cons (psd_set (i := 1) nd rfl (by first | exact Or.inl rfl | exact Or.inr rfl) (pd_call G_law_tape (hr.mono (by decide)) (by rfl) T.g_law_tape T.D_law_tape.kp T.b_law_tape (pda_cons (pdv 0) pda_nil)))
      (psds_cons (psd_setD (i := 2) nd rfl (by first | exact Or.inl rfl | exact Or.inr rfl) (pd_call G_law_pages (hr.mono (by decide)) (by rfl) T.g_law_pages T.D_law_pages.kp T.b_law_pages (pda_cons (pdv 1) pda_nil)))
      (psds_cons (psd_setD (i := 3) nd rfl (by first | exact Or.inl rfl | exact Or.inr rfl) (pd_call G_law_b_phrase_question (hr.mono (by decide)) (by rfl) T.g_law_b_phrase_question T.D_law_b_phrase_question.kp T.b_law_b_phrase_question (pda_cons (pdv 1) (pda_cons (pdv 2) pda_nil))))
      (psds_cons (psd_setD (i := 4) nd rfl (by first | exact Or.inl rfl | exact Or.inr rfl) (pd_call G_law_b_asked (hr.mono (by decide)) (by rfl) T.g_law_b_asked T.D_law_b_asked.kp T.b_law_b_asked (pda_cons (pdv 1) (pda_cons (pdv 2) pda_nil))))
      (psds_cons (psd_setD (i := 5) nd rfl (by first | exact Or.inl rfl | exact Or.inr rfl) (pd_call G_law_turned (hr.mono (by decide)) (by rfl) T.g_law_turned T.D_law_turned.kp T.b_law_turned (pda_cons (pdv 1) (pda_cons (pdv 4) pda_nil))))
      (psds_cons (psd_if (PDW.pt (pdw_or (pdt_cmp od_gt (pd_call G_law_s_size (hr.mono (by decide)) (by rfl) T.g_law_s_size T.D_law_s_size.kp T.b_law_s_size (pda_cons (pdv 5) pda_nil)) pd_int) (pdw_or1 (pdt_cmp od_gt (pd_call G_law_deep (hr.mono (by decide)) (by rfl) T.g_law_deep T.D_law_deep.kp T.b_law_deep (pda_cons (pdv 5) pda_nil)) pd_int)))) (psds_one (psd_setD (i := 5) nd rfl (by first | exact Or.inl rfl | exact Or.inr rfl) (pd_call G_law_b_phrase_question (hr.mono (by decide)) (by rfl) T.g_law_b_phrase_question T.D_law_b_phrase_question.kp T.b_law_b_phrase_question (pda_cons (pdv 1) (pda_cons (pdv 2) pda_nil))))) psds_nil)
      (psds_cons (psd_setD (i := 6) nd rfl (by first | exact Or.inl rfl | exact Or.inr rfl) (pd_call G_law_pick (hr.mono (by decide)) (by rfl) T.g_law_pick T.D_law_pick.kp T.b_law_pick (pda_cons (pdv 1) (pda_cons (pdv 2) pda_nil))))
      (psds_cons (psd_set (i := 7) nd rfl (by first | exact Or.inl rfl | exact Or.inr rfl) (pd_lst (pda_cons (pd_call G_law_case (hr.mono (by decide)) (by rfl) T.g_law_case T.D_law_case.kp T.b_law_case (pda_cons pd_str (pda_cons (pd_ix (pd_ix (pdv 6) pd_int) pd_int) (pda_cons (pdv 3) pda_nil)))) (pda_cons (pd_call G_law_case (hr.mono (by decide)) (by rfl) T.g_law_case T.D_law_case.kp T.b_law_case (pda_cons pd_str (pda_cons (pdv 6) (pda_cons (pdv 4) pda_nil)))) (pda_cons (pd_call G_law_case (hr.mono (by decide)) (by rfl) T.g_law_case T.D_law_case.kp T.b_law_case (pda_cons pd_str (pda_cons (pdv 6) (pda_cons (pdv 4) pda_nil)))) pda_nil)))))
      (psds_cons (psd_set (i := 7) nd rfl (by first | exact Or.inl rfl | exact Or.inr rfl) (pd_op od_add (pdv 7) (pd_lst (pda_cons (pd_call G_law_case (hr.mono (by decide)) (by rfl) T.g_law_case T.D_law_case.kp T.b_law_case (pda_cons pd_str (pda_cons pd_non (pda_cons (pdv 4) pda_nil)))) (pda_cons (pd_call G_law_case (hr.mono (by decide)) (by rfl) T.g_law_case T.D_law_case.kp T.b_law_case (pda_cons pd_str (pda_cons (pdv 6) (pda_cons (pdv 5) pda_nil)))) (pda_cons (pd_call G_law_case (hr.mono (by decide)) (by rfl) T.g_law_case T.D_law_case.kp T.b_law_case (pda_cons pd_str (pda_cons (pdv 6) (pda_cons (pdv 3) pda_nil)))) pda_nil))))))
      (psds_cons (psd_setD (i := 8) nd rfl (by first | exact Or.inl rfl | exact Or.inr rfl) (pd_tup (pda_cons pd_str (pda_cons (pd_call G_law_pick (hr.mono (by decide)) (by rfl) T.g_law_pick T.D_law_pick.kp T.b_law_pick (pda_cons (pdv 1) (pda_cons (pd_lst (pda_cons pd_non (pda_cons pd_non (pda_cons pd_int pda_nil)))) pda_nil))) (pda_cons (pd_tup (pda_cons (pd_tup (pda_cons pd_str (pda_cons pd_bl (pda_cons pd_int pda_nil)))) pda_nil)) (pda_cons (pd_call G_law_pick (hr.mono (by decide)) (by rfl) T.g_law_pick T.D_law_pick.kp T.b_law_pick (pda_cons (pdv 1) (pda_cons (pd_lst (pda_cons pd_int (pda_cons pd_int (pda_cons pd_int pda_nil)))) pda_nil))) (pda_cons (pd_call G_law_pick (hr.mono (by decide)) (by rfl) T.g_law_pick T.D_law_pick.kp T.b_law_pick (pda_cons (pdv 1) (pda_cons (pd_lst (pda_cons pd_int (pda_cons pd_int (pda_cons pd_int (pda_cons pd_int pda_nil))))) pda_nil))) pda_nil)))))))
      (psds_cons (psd_expr (pd_m PySem.F.plainAttrs_list PySem.F.slot_list_append PySem.F.type_list_append md_append (pv 7) (pda_cons (pd_call G_law_case (hr.mono (by decide)) (by rfl) T.g_law_case T.D_law_case.kp T.b_law_case (pda_cons pd_str (pda_cons (pd_call G_law_pick (hr.mono (by decide)) (by rfl) T.g_law_pick T.D_law_pick.kp T.b_law_pick (pda_cons (pdv 1) (pda_cons (pdv 2) pda_nil))) (pda_cons (pdv 8) pda_nil)))) pda_nil)))
      (psds_cons (psd_setD (i := 9) nd rfl (by first | exact Or.inl rfl | exact Or.inr rfl) (pd_lst (pda_cons (pd_call G_law_case (hr.mono (by decide)) (by rfl) T.g_law_case T.D_law_case.kp T.b_law_case (pda_cons pd_str (pda_cons (pdv 6) (pda_cons (pdv 5) pda_nil)))) (pda_cons (pd_call G_law_case (hr.mono (by decide)) (by rfl) T.g_law_case T.D_law_case.kp T.b_law_case (pda_cons pd_str (pda_cons pd_non (pda_cons (pdv 5) pda_nil)))) pda_nil))))
      (psds_cons (psd_for PassesOwn.never rfl (pdi_seq (pdv 2)) (pdg_name (i := 10) nd rfl (by first | exact Or.inl rfl | exact Or.inr rfl)) (psds_one (psd_setD (i := 9) nd rfl (by first | exact Or.inl rfl | exact Or.inr rfl) (pd_op od_add (pdv 9) (pd_lst (pda_cons (pd_call G_law_case (hr.mono (by decide)) (by rfl) T.g_law_case T.D_law_case.kp T.b_law_case (pda_cons pd_str (pda_cons (pdv 10) (pda_cons (pdv 4) pda_nil)))) (pda_cons (pd_call G_law_case (hr.mono (by decide)) (by rfl) T.g_law_case T.D_law_case.kp T.b_law_case (pda_cons pd_str (pda_cons (pd_ix (pd_ix (pdv 10) pd_int) pd_int) (pda_cons (pdv 3) pda_nil)))) (pda_cons (pd_call G_law_case (hr.mono (by decide)) (by rfl) T.g_law_case T.D_law_case.kp T.b_law_case (pda_cons pd_str (pda_cons (pdv 10) (pda_cons (pdv 5) pda_nil)))) pda_nil))))))))
      (psds_cons (psd_for PassesOwn.never rfl (pdi_seq (pd_call G_law_turns (hr.mono (by decide)) (by rfl) T.g_law_turns T.D_law_turns.kp T.b_law_turns (pda_cons (pdv 1) (pda_cons (pd_callB bd_len rfl T.n_len bt_len (pda_cons (pdv 7) pda_nil)) pda_nil)))) (pdg_name (i := 11) nd rfl (by first | exact Or.inl rfl | exact Or.inr rfl)) (psds_one (psd_if (pdt_not (pdt_val (pd_call G_law_right (hr.mono (by decide)) (by rfl) T.g_law_right T.D_law_right.kp T.b_law_right (pda_cons (pd_ix (pdv 7) (pdv 11)) pda_nil)))) (psds_one (psd_ret pd_bl)) psds_nil)))
      (psds_cons (psd_for PassesOwn.never rfl (pdi_seq (pd_op od_add (pdv 9) (pdv 7))) (pdg_name (i := 12) nd rfl (by first | exact Or.inl rfl | exact Or.inr rfl)) (psds_one (psd_if (pdt_not (pdt_val (pd_call G_law_right (hr.mono (by decide)) (by rfl) T.g_law_right T.D_law_right.kp T.b_law_right (pda_cons (pdv 12) pda_nil)))) (psds_one (psd_ret pd_bl)) psds_nil)))
      (psds_one (psd_ret pd_bl)))))))))))))))))
end
end Dlk33

set_option Elab.async false
set_option linter.all false
set_option maxRecDepth 100000
set_option maxHeartbeats 4000000
set_option autoImplicit false
namespace Dlk33
open PySem PySem.Spec L2 DL
local macro_rules | `(tactic| walk_at "go") => `(tactic| simp only [outE_i, outE_n, sz0, sz1, sz2, sz3, sz4, sz5, sz6, sz7, sz8, sz9, sz10, sz11, sz12, sz13, sz14, sz15, sz16, ↓tdFr, ↓frE, ↓rdDivmod, ↓rdNotIn, ↓tdTru, ↓rdMulW, ↓rdGcd, ↓rdRgV, ↓tdRgI, ↓tdEnum2, ↓tdZip2, ↓tdPar, ↓tdRevA, ↓tdRevR, ↓rdDivP, ↓tdTupRg, ↓tdSortSet, ↓tdRepV, ↓tdSwap, ↓rdLcm, ↓tdRepE, ↓rdSortedA, ↓rdMaxA, ↓rdInsert, ↓tdSw, ↓tdRevT, ↓rdSortedS, ↓startE, ↓tdSeq, ↓tdSet, ↓tdSetD, ↓tdDrop, ↓tdRet, ↓tdIfS, ↓tdNext, ↓tdAsg, ↓tdV, ↓tdC, ↓tdBin, ↓tdB, ↓tdCons, ↓tdNil, ↓tdTup, ↓tdLst, ↓tdTest, ↓tdAnd, ↓tdOr, ↓tdNot, ↓tdIf, ↓tdAndV, ↓tdOrV, ↓tdNotV, ↓tdNeg, ↓tdIsN, ↓tdNotN, ↓tdSl, ↓tdPart, ↓tdNoPart, ↓tdM, ↓tdSetIx, ↓tdAug, ↓tdPut, ↓tdGet2, ↓tdIsi, ↓tdListRg, ↓gdName, ↓gdNil, ↓gdCons, ↓gdTup, ↓tdIt, ↓tdRng1, ↓tdRng2, ↓tdCall, ↓tdNew, ↓tdJoin, ↓gcName, ↓gcNil, ↓gcCons, ↓gcTup, ↓tdYes, ↓res, ↓resR, ↓resAll, ↓rvD, ↓rdLen, ↓rdInt, ↓rdAbs, ↓rdMax2, ↓rdMin2, ↓rdOrd, ↓rdTuple, ↓rdList, ↓rdIx, ↓rdAdd, ↓rdSub, ↓rdMul, ↓rdMod, ↓rdDiv, ↓rdPow, ↓rdCmp, ↓rdEq, ↓rdNe, ↓rdIadd, ↓rdIn, ↓rdSorted, ↓rdSl, ↓isT, ↓rdAppend, ↓itemsOf, ↓rvOf, ↓argsOf, ↓argOf, Nat.reduceAdd, Nat.reduceLT, Nat.reduceSub, Int.reduceLT, Int.reduceLE, Int.reduceAdd, Int.reduceEq, Int.reduceNeg, Nat.reduceLeDiff, Nat.zero_add, Nat.reduceEqDiff, Nat.reduceBEq, ix41, ix42, ix43, ix40, List.length_cons, List.length_nil, List.map_cons, List.map_nil, List.replicate, List.cons_append, List.nil_append, List.getElem?_cons_zero, List.getElem?_cons_succ, List.set_cons_zero, List.set_cons_succ, Option.map_some, at0, at1, at2, at3, ix0, ix1, ix2, ix3, sh_int, sh_bl, sh_non, eqv_int, eqv_bl, eqv_str, decide_eq_true_eq, Bool.not_eq_true, Bool.not_true, Bool.not_false, Bool.false_eq_true, true_and, and_true, if_true, if_false, ite_true, ite_false, List.length_map, List.length_set, Sl.isD, List.mem_singleton, List.mem_cons, List.not_mem_nil, not_true_eq_false, not_false_eq_true, or_false])
local macro_rules | `(tactic| nomatch $xs,*) => `(tactic| simp only [$[$xs:term],*, outE_i, outE_n, sz0, sz1, sz2, sz3, sz4, sz5, sz6, sz7, sz8, sz9, sz10, sz11, sz12, sz13, sz14, sz15, sz16, ↓tdFr, ↓frE, ↓rdDivmod, ↓rdNotIn, ↓tdTru, ↓rdMulW, ↓rdGcd, ↓rdRgV, ↓tdRgI, ↓tdEnum2, ↓tdZip2, ↓tdPar, ↓tdRevA, ↓tdRevR, ↓rdDivP, ↓tdTupRg, ↓tdSortSet, ↓tdRepV, ↓tdSwap, ↓rdLcm, ↓tdRepE, ↓rdSortedA, ↓rdMaxA, ↓rdInsert, ↓tdSw, ↓tdRevT, ↓rdSortedS, ↓startE, ↓tdSeq, ↓tdSet, ↓tdSetD, ↓tdDrop, ↓tdRet, ↓tdIfS, ↓tdNext, ↓tdAsg, ↓tdV, ↓tdC, ↓tdBin, ↓tdB, ↓tdCons, ↓tdNil, ↓tdTup, ↓tdLst, ↓tdTest, ↓tdAnd, ↓tdOr, ↓tdNot, ↓tdIf, ↓tdAndV, ↓tdOrV, ↓tdNotV, ↓tdNeg, ↓tdIsN, ↓tdNotN, ↓tdSl, ↓tdPart, ↓tdNoPart, ↓tdM, ↓tdSetIx, ↓tdAug, ↓tdPut, ↓tdGet2, ↓tdIsi, ↓tdListRg, ↓gdName, ↓gdNil, ↓gdCons, ↓gdTup, ↓tdIt, ↓tdRng1, ↓tdRng2, ↓tdCall, ↓tdNew, ↓tdJoin, ↓gcName, ↓gcNil, ↓gcCons, ↓gcTup, ↓tdYes, ↓res, ↓resR, ↓resAll, ↓rvD, ↓rdLen, ↓rdInt, ↓rdAbs, ↓rdMax2, ↓rdMin2, ↓rdOrd, ↓rdTuple, ↓rdList, ↓rdIx, ↓rdAdd, ↓rdSub, ↓rdMul, ↓rdMod, ↓rdDiv, ↓rdPow, ↓rdCmp, ↓rdEq, ↓rdNe, ↓rdIadd, ↓rdIn, ↓rdSorted, ↓rdSl, ↓isT, ↓rdAppend, ↓itemsOf, ↓rvOf, ↓argsOf, ↓argOf, Nat.reduceAdd, Nat.reduceLT, Nat.reduceSub, Int.reduceLT, Int.reduceLE, Int.reduceAdd, Int.reduceEq, Int.reduceNeg, Nat.reduceLeDiff, Nat.zero_add, Nat.reduceEqDiff, Nat.reduceBEq, ix41, ix42, ix43, ix40, List.length_cons, List.length_nil, List.map_cons, List.map_nil, List.replicate, List.cons_append, List.nil_append, List.getElem?_cons_zero, List.getElem?_cons_succ, List.set_cons_zero, List.set_cons_succ, Option.map_some, at0, at1, at2, at3, ix0, ix1, ix2, ix3, sh_int, sh_bl, sh_non, eqv_int, eqv_bl, eqv_str, decide_eq_true_eq, Bool.not_eq_true, Bool.not_true, Bool.not_false, Bool.false_eq_true, true_and, and_true, if_true, if_false, ite_true, ite_false, List.length_map, List.length_set, Sl.isD, List.mem_singleton, List.mem_cons, List.not_mem_nil, not_true_eq_false, not_false_eq_true, or_false])
theorem few {α : Type} {l : List α} (h : l.length ≤ 1000) : l.length < sizeLine := Nat.lt_of_lt_of_le (show l.length < 1001 by omega) (by decide)
theorem qDs_map : ∀ qs : List Qn, qDs qs = qs.map qD
  | [] => rfl
  | q :: r => by rw [qDs, qDs_map r]; rfl
theorem sizesN_map : ∀ qs : List Qn, sizesN qs = qs.map sizeN
  | [] => rfl
  | q :: r => by rw [sizesN, sizesN_map r]; rfl
theorem scoresO_map (p : Pg) : ∀ qs : List Qn, scoresO p qs = qs.map (scoreO p)
  | [] => rfl
  | q :: r => by rw [scoresO, scoresO_map p r]; rfl
theorem QsOk_all {d : Nat} : ∀ {qs : List Qn}, QsOk d qs ↔ ∀ q ∈ qs, QOk d q
  | [] => by simp [QsOk]
  | q :: r => by
    rw [QsOk, QsOk_all (qs := r)]
    simp
mutual
theorem QOk_mono {d e : Nat} (h : d ≤ e) : ∀ {q : Qn}, QOk d q → QOk e q
  | .words .., hq => by rw [QOk] at *; exact ⟨by omega, hq.2⟩
  | .all _ qs, hq => by
    rw [QOk] at *
    exact ⟨by omega, hq.2.1, QsOk_mono (show d - 1 ≤ e - 1 by omega) hq.2.2⟩
  | .neg q, hq => by
    rw [QOk] at *
    exact ⟨by omega, QOk_mono (show d - 1 ≤ e - 1 by omega) hq.2⟩
  | .under _, hq => by rw [QOk] at *; exact ⟨by omega, hq.2⟩
  | .links _, hq => by rw [QOk] at *; exact ⟨by omega, hq.2⟩
  | .since _, hq => by rw [QOk] at *; omega
theorem QsOk_mono {d e : Nat} (h : d ≤ e) : ∀ {qs : List Qn}, QsOk d qs → QsOk e qs
  | [], _ => by rw [QsOk]; trivial
  | q :: r, hq => by
    rw [QsOk] at *
    exact ⟨QOk_mono h hq.1, QsOk_mono h hq.2⟩
end
theorem QOk_all {d : Nat} {b : Bool} {qs : List Qn} : QOk (d + 1) (.all b qs) ↔ qs.length ≤ 8 ∧ ∀ q ∈ qs, QOk d q := by
  rw [QOk, QsOk_all]
  simp
theorem QOk_neg {d : Nat} {q : Qn} : QOk (d + 1) (.neg q) ↔ QOk d q := by
  rw [QOk]
  simp
theorem shq_words : SeqAt.shaped (.str "words") = true := by decide +kernel
theorem shq_and : SeqAt.shaped (.str "and") = true := by decide +kernel
theorem shq_or : SeqAt.shaped (.str "or") = true := by decide +kernel
theorem shq_not : SeqAt.shaped (.str "not") = true := by decide +kernel
theorem shq_under : SeqAt.shaped (.str "under") = true := by decide +kernel
theorem shq_links : SeqAt.shaped (.str "links") = true := by decide +kernel
theorem shq_since : SeqAt.shaped (.str "since") = true := by decide +kernel
theorem shl_ao : SeqAt.shaped (.list [.str "and", .str "or"]) = true := by decide +kernel
theorem q_all (b : Bool) (qs : List Qn) : qD (.all b qs) = .tuple [.str (wordB b), .tuple (qs.map qD)] := by rw [qD, qDs_map]
theorem nq_words_and : (("words" : Str) = "and") = False := eq_false (by decide +kernel)
theorem nq_words_or : (("words" : Str) = "or") = False := eq_false (by decide +kernel)
theorem nq_words_not : (("words" : Str) = "not") = False := eq_false (by decide +kernel)
theorem nq_words_under : (("words" : Str) = "under") = False := eq_false (by decide +kernel)
theorem nq_words_links : (("words" : Str) = "links") = False := eq_false (by decide +kernel)
theorem nq_words_since : (("words" : Str) = "since") = False := eq_false (by decide +kernel)
theorem ao_words : ([PyData.str "and", .str "or"].any fun z => PyData.eqv z (.str "words")) = false := by simp only [List.any_cons, List.any_nil, eqv_str, Bool.or_false]; decide +kernel
theorem nq_and_words : (("and" : Str) = "words") = False := eq_false (by decide +kernel)
theorem nq_and_or : (("and" : Str) = "or") = False := eq_false (by decide +kernel)
theorem nq_and_not : (("and" : Str) = "not") = False := eq_false (by decide +kernel)
theorem nq_and_under : (("and" : Str) = "under") = False := eq_false (by decide +kernel)
theorem nq_and_links : (("and" : Str) = "links") = False := eq_false (by decide +kernel)
theorem nq_and_since : (("and" : Str) = "since") = False := eq_false (by decide +kernel)
theorem ao_and : ([PyData.str "and", .str "or"].any fun z => PyData.eqv z (.str "and")) = true := by simp only [List.any_cons, List.any_nil, eqv_str, Bool.or_false]; decide +kernel
theorem nq_or_words : (("or" : Str) = "words") = False := eq_false (by decide +kernel)
theorem nq_or_and : (("or" : Str) = "and") = False := eq_false (by decide +kernel)
theorem nq_or_not : (("or" : Str) = "not") = False := eq_false (by decide +kernel)
theorem nq_or_under : (("or" : Str) = "under") = False := eq_false (by decide +kernel)
theorem nq_or_links : (("or" : Str) = "links") = False := eq_false (by decide +kernel)
theorem nq_or_since : (("or" : Str) = "since") = False := eq_false (by decide +kernel)
theorem ao_or : ([PyData.str "and", .str "or"].any fun z => PyData.eqv z (.str "or")) = true := by simp only [List.any_cons, List.any_nil, eqv_str, Bool.or_false]; decide +kernel
theorem nq_not_words : (("not" : Str) = "words") = False := eq_false (by decide +kernel)
theorem nq_not_and : (("not" : Str) = "and") = False := eq_false (by decide +kernel)
theorem nq_not_or : (("not" : Str) = "or") = False := eq_false (by decide +kernel)
theorem nq_not_under : (("not" : Str) = "under") = False := eq_false (by decide +kernel)
theorem nq_not_links : (("not" : Str) = "links") = False := eq_false (by decide +kernel)
theorem nq_not_since : (("not" : Str) = "since") = False := eq_false (by decide +kernel)
theorem ao_not : ([PyData.str "and", .str "or"].any fun z => PyData.eqv z (.str "not")) = false := by simp only [List.any_cons, List.any_nil, eqv_str, Bool.or_false]; decide +kernel
theorem nq_under_words : (("under" : Str) = "words") = False := eq_false (by decide +kernel)
theorem nq_under_and : (("under" : Str) = "and") = False := eq_false (by decide +kernel)
theorem nq_under_or : (("under" : Str) = "or") = False := eq_false (by decide +kernel)
theorem nq_under_not : (("under" : Str) = "not") = False := eq_false (by decide +kernel)
theorem nq_under_links : (("under" : Str) = "links") = False := eq_false (by decide +kernel)
theorem nq_under_since : (("under" : Str) = "since") = False := eq_false (by decide +kernel)
theorem ao_under : ([PyData.str "and", .str "or"].any fun z => PyData.eqv z (.str "under")) = false := by simp only [List.any_cons, List.any_nil, eqv_str, Bool.or_false]; decide +kernel
theorem nq_links_words : (("links" : Str) = "words") = False := eq_false (by decide +kernel)
theorem nq_links_and : (("links" : Str) = "and") = False := eq_false (by decide +kernel)
theorem nq_links_or : (("links" : Str) = "or") = False := eq_false (by decide +kernel)
theorem nq_links_not : (("links" : Str) = "not") = False := eq_false (by decide +kernel)
theorem nq_links_under : (("links" : Str) = "under") = False := eq_false (by decide +kernel)
theorem nq_links_since : (("links" : Str) = "since") = False := eq_false (by decide +kernel)
theorem ao_links : ([PyData.str "and", .str "or"].any fun z => PyData.eqv z (.str "links")) = false := by simp only [List.any_cons, List.any_nil, eqv_str, Bool.or_false]; decide +kernel
theorem nq_since_words : (("since" : Str) = "words") = False := eq_false (by decide +kernel)
theorem nq_since_and : (("since" : Str) = "and") = False := eq_false (by decide +kernel)
theorem nq_since_or : (("since" : Str) = "or") = False := eq_false (by decide +kernel)
theorem nq_since_not : (("since" : Str) = "not") = False := eq_false (by decide +kernel)
theorem nq_since_under : (("since" : Str) = "under") = False := eq_false (by decide +kernel)
theorem nq_since_links : (("since" : Str) = "links") = False := eq_false (by decide +kernel)
theorem ao_since : ([PyData.str "and", .str "or"].any fun z => PyData.eqv z (.str "since")) = false := by simp only [List.any_cons, List.any_nil, eqv_str, Bool.or_false]; decide +kernel
section
variable {args : List Sl} {Q : Sl → (Nat → Option Sl) → Prop}
theorem h_nought_if (hl : args.length = 1) (h : sp_nought_if args Q) : t_nought_if (KD Q) (startE 1 args) := by
  obtain ⟨b, rfl, k⟩ := h
  unfold t_nought_if
  cases b with
  | true =>
    refine seq_i fun Kc hK => ?_
    walk_at "go"
    exact k _
  | false =>
    refine seq_i fun Kc hK => ?_
    walk_at "go"
    subst hK
    walk_at "go"
    exact k _
theorem h_law_tape (hl : args.length = 1) (h : sp_law_tape args Q) : t_law_tape (KD Q) (startE 3 args) := hTape args Q hl h
theorem h_law_draw (hl : args.length = 2) (h : sp_law_draw args Q) : t_law_draw (KD Q) (startE 4 args) := hDraw args Q hl h
theorem h_law_pick (hl : args.length = 2) (h : sp_law_pick args Q) : t_law_pick (KD Q) (startE 2 args) := hPick args Q hl h
theorem h_law_turns (hl : args.length = 2) (h : sp_law_turns args Q) : t_law_turns (KD Q) (startE 5 args) := hTurns args Q hl h
theorem h_law_shuffled (hl : args.length = 2) (h : sp_law_shuffled args Q) : t_law_shuffled (KD Q) (startE 5 args) := hShuf args Q hl h
theorem h_fits_member (hl : args.length = 3) (h : sp_fits_member args Q) : t_fits_member (KD Q) (startE 6 args) := by
  obtain ⟨w, kind, m, rfl, hw, hm, k⟩ := h
  have s1 := sh_str hw.2
  have s2 := sh_str hm.2
  unfold t_fits_member
  rw [wpD, mmD]
  refine seq_i fun Kc hK => ?_
  walk_at "go"
  subst hK
  have fin : fitsB none w m = fitsB none w m → True := fun _ => trivial
  cases kind with
  | none =>
    unfold fitsB at k
    dsimp only at k
    refine seq_i fun Kc hK => ?_
    nomatch kD
    subst hK
    refine seq_i fun Kc hK => ?_
    by_cases c : m.2.1 = true
    · rw [if_pos c] at k
      nomatch c, s1, s2
      exact k _
    · rw [if_neg c] at k
      have c2 : m.2.1 = false := by simpa using c
      nomatch c2
      subst hK
      walk_at "go"
      exact k _
  | some kk =>
    unfold fitsB at k
    dsimp only at k
    refine seq_i fun Kc hK => ?_
    by_cases c0 : w.2 = kk
    · rw [if_neg (by simp [c0])] at k
      nomatch kD, c0, decide_true, Bool.not_true
      subst hK
      refine seq_i fun Kc hK => ?_
      by_cases c : m.2.1 = true
      · rw [if_pos c] at k
        nomatch c, s1, s2
        exact k _
      · rw [if_neg c] at k
        have c2 : m.2.1 = false := by simpa using c
        nomatch c2
        subst hK
        walk_at "go"
        exact k _
    · rw [if_pos (by simpa using c0)] at k
      nomatch kD, c0, decide_false, Bool.not_false
      exact k _
end
end Dlk33

set_option Elab.async false
set_option linter.all false
set_option maxRecDepth 100000
set_option maxHeartbeats 4000000
set_option autoImplicit false
namespace Dlk33
open PySem PySem.Spec L2 DL
local macro_rules | `(tactic| walk_at "go") => `(tactic| simp only [outE_i, outE_n, sz0, sz1, sz2, sz3, sz4, sz5, sz6, sz7, sz8, sz9, sz10, sz11, sz12, sz13, sz14, sz15, sz16, ↓tdFr, ↓frE, ↓rdDivmod, ↓rdNotIn, ↓tdTru, ↓rdMulW, ↓rdGcd, ↓rdRgV, ↓tdRgI, ↓tdEnum2, ↓tdZip2, ↓tdPar, ↓tdRevA, ↓tdRevR, ↓rdDivP, ↓tdTupRg, ↓tdSortSet, ↓tdRepV, ↓tdSwap, ↓rdLcm, ↓tdRepE, ↓rdSortedA, ↓rdMaxA, ↓rdInsert, ↓tdSw, ↓tdRevT, ↓rdSortedS, ↓startE, ↓tdSeq, ↓tdSet, ↓tdSetD, ↓tdDrop, ↓tdRet, ↓tdIfS, ↓tdNext, ↓tdAsg, ↓tdV, ↓tdC, ↓tdBin, ↓tdB, ↓tdCons, ↓tdNil, ↓tdTup, ↓tdLst, ↓tdTest, ↓tdAnd, ↓tdOr, ↓tdNot, ↓tdIf, ↓tdAndV, ↓tdOrV, ↓tdNotV, ↓tdNeg, ↓tdIsN, ↓tdNotN, ↓tdSl, ↓tdPart, ↓tdNoPart, ↓tdM, ↓tdSetIx, ↓tdAug, ↓tdPut, ↓tdGet2, ↓tdIsi, ↓tdListRg, ↓gdName, ↓gdNil, ↓gdCons, ↓gdTup, ↓tdIt, ↓tdRng1, ↓tdRng2, ↓tdCall, ↓tdNew, ↓tdJoin, ↓gcName, ↓gcNil, ↓gcCons, ↓gcTup, ↓tdYes, ↓res, ↓resR, ↓resAll, ↓rvD, ↓rdLen, ↓rdInt, ↓rdAbs, ↓rdMax2, ↓rdMin2, ↓rdOrd, ↓rdTuple, ↓rdList, ↓rdIx, ↓rdAdd, ↓rdSub, ↓rdMul, ↓rdMod, ↓rdDiv, ↓rdPow, ↓rdCmp, ↓rdEq, ↓rdNe, ↓rdIadd, ↓rdIn, ↓rdSorted, ↓rdSl, ↓isT, ↓rdAppend, ↓itemsOf, ↓rvOf, ↓argsOf, ↓argOf, Nat.reduceAdd, Nat.reduceLT, Nat.reduceSub, Int.reduceLT, Int.reduceLE, Int.reduceAdd, Int.reduceEq, Int.reduceNeg, Nat.reduceLeDiff, Nat.zero_add, Nat.reduceEqDiff, Nat.reduceBEq, ix41, ix42, ix43, ix40, List.length_cons, List.length_nil, List.map_cons, List.map_nil, List.replicate, List.cons_append, List.nil_append, List.getElem?_cons_zero, List.getElem?_cons_succ, List.set_cons_zero, List.set_cons_succ, Option.map_some, at0, at1, at2, at3, ix0, ix1, ix2, ix3, sh_int, sh_bl, sh_non, eqv_int, eqv_bl, eqv_str, decide_eq_true_eq, Bool.not_eq_true, Bool.not_true, Bool.not_false, Bool.false_eq_true, true_and, and_true, if_true, if_false, ite_true, ite_false, List.length_map, List.length_set, Sl.isD, List.mem_singleton, List.mem_cons, List.not_mem_nil, not_true_eq_false, not_false_eq_true, or_false])
local macro_rules | `(tactic| nomatch $xs,*) => `(tactic| simp only [$[$xs:term],*, outE_i, outE_n, sz0, sz1, sz2, sz3, sz4, sz5, sz6, sz7, sz8, sz9, sz10, sz11, sz12, sz13, sz14, sz15, sz16, ↓tdFr, ↓frE, ↓rdDivmod, ↓rdNotIn, ↓tdTru, ↓rdMulW, ↓rdGcd, ↓rdRgV, ↓tdRgI, ↓tdEnum2, ↓tdZip2, ↓tdPar, ↓tdRevA, ↓tdRevR, ↓rdDivP, ↓tdTupRg, ↓tdSortSet, ↓tdRepV, ↓tdSwap, ↓rdLcm, ↓tdRepE, ↓rdSortedA, ↓rdMaxA, ↓rdInsert, ↓tdSw, ↓tdRevT, ↓rdSortedS, ↓startE, ↓tdSeq, ↓tdSet, ↓tdSetD, ↓tdDrop, ↓tdRet, ↓tdIfS, ↓tdNext, ↓tdAsg, ↓tdV, ↓tdC, ↓tdBin, ↓tdB, ↓tdCons, ↓tdNil, ↓tdTup, ↓tdLst, ↓tdTest, ↓tdAnd, ↓tdOr, ↓tdNot, ↓tdIf, ↓tdAndV, ↓tdOrV, ↓tdNotV, ↓tdNeg, ↓tdIsN, ↓tdNotN, ↓tdSl, ↓tdPart, ↓tdNoPart, ↓tdM, ↓tdSetIx, ↓tdAug, ↓tdPut, ↓tdGet2, ↓tdIsi, ↓tdListRg, ↓gdName, ↓gdNil, ↓gdCons, ↓gdTup, ↓tdIt, ↓tdRng1, ↓tdRng2, ↓tdCall, ↓tdNew, ↓tdJoin, ↓gcName, ↓gcNil, ↓gcCons, ↓gcTup, ↓tdYes, ↓res, ↓resR, ↓resAll, ↓rvD, ↓rdLen, ↓rdInt, ↓rdAbs, ↓rdMax2, ↓rdMin2, ↓rdOrd, ↓rdTuple, ↓rdList, ↓rdIx, ↓rdAdd, ↓rdSub, ↓rdMul, ↓rdMod, ↓rdDiv, ↓rdPow, ↓rdCmp, ↓rdEq, ↓rdNe, ↓rdIadd, ↓rdIn, ↓rdSorted, ↓rdSl, ↓isT, ↓rdAppend, ↓itemsOf, ↓rvOf, ↓argsOf, ↓argOf, Nat.reduceAdd, Nat.reduceLT, Nat.reduceSub, Int.reduceLT, Int.reduceLE, Int.reduceAdd, Int.reduceEq, Int.reduceNeg, Nat.reduceLeDiff, Nat.zero_add, Nat.reduceEqDiff, Nat.reduceBEq, ix41, ix42, ix43, ix40, List.length_cons, List.length_nil, List.map_cons, List.map_nil, List.replicate, List.cons_append, List.nil_append, List.getElem?_cons_zero, List.getElem?_cons_succ, List.set_cons_zero, List.set_cons_succ, Option.map_some, at0, at1, at2, at3, ix0, ix1, ix2, ix3, sh_int, sh_bl, sh_non, eqv_int, eqv_bl, eqv_str, decide_eq_true_eq, Bool.not_eq_true, Bool.not_true, Bool.not_false, Bool.false_eq_true, true_and, and_true, if_true, if_false, ite_true, ite_false, List.length_map, List.length_set, Sl.isD, List.mem_singleton, List.mem_cons, List.not_mem_nil, not_true_eq_false, not_false_eq_true, or_false])
theorem map_cast (ns : List Nat) : (ns.map fun n : Nat => PyData.int (n : Int)) = (ns.map fun n : Nat => (n : Int)).map .int := by rw [List.map_map]; rfl
theorem sum_cast : ∀ ns : List Nat, (ns.map fun n : Nat => (n : Int)).sum = ((ns.sum : Nat) : Int)
  | [] => rfl
  | n :: r => by rw [List.map_cons, List.sum_cons, List.sum_cons, sum_cast r]; omega
section
variable {args : List Sl} {Q : Sl → (Nat → Option Sl) → Prop}
theorem h_law_s_fits (hl : args.length = 3) (h : sp_law_s_fits args Q) : t_law_s_fits (KD Q) (startE 3 args) := by
  obtain ⟨w, kind, m, rfl, hw, hm, k⟩ := h
  have s1 := sh_str hw.2
  have s2 := sh_str hm.2
  unfold t_law_s_fits
  rw [wpD, mmD]
  cases kind with
  | none =>
    unfold fitsB at k
    dsimp only at k
    refine seq_i fun Kc hK => ?_
    nomatch kD
    subst hK
    refine seq_i fun Kc hK => ?_
    by_cases c : m.2.1 = true
    · rw [if_pos c] at k
      nomatch c, s1, s2
      exact k _
    · rw [if_neg c] at k
      have c2 : m.2.1 = false := by simpa using c
      nomatch c2
      subst hK
      walk_at "go"
      exact k _
  | some kk =>
    unfold fitsB at k
    dsimp only at k
    refine seq_i fun Kc hK => ?_
    by_cases c0 : w.2 = kk
    · rw [if_neg (by simp [c0])] at k
      nomatch kD, c0, decide_true, Bool.not_true
      subst hK
      refine seq_i fun Kc hK => ?_
      by_cases c : m.2.1 = true
      · rw [if_pos c] at k
        nomatch c, s1, s2
        exact k _
      · rw [if_neg c] at k
        have c2 : m.2.1 = false := by simpa using c
        nomatch c2
        subst hK
        walk_at "go"
        exact k _
    · rw [if_pos (by simpa using c0)] at k
      nomatch kD, c0, decide_false, Bool.not_false
      exact k _
theorem h_size {j : Nat} (hl : args.length = 1) (h : spR_size (j + 1) args Q) : t_size (spR_size j) (KD Q) (startE 3 args) := by
  obtain ⟨q, rfl, hq, k⟩ := h
  unfold t_size
  cases q with
  | words kind ph points most =>
    rw [sizeN] at k
    rw [qD]
    refine seq_i fun Kc hK => ?_
    walk_at "go"
    subst hK
    refine seq_i fun Kc hK => ?_
    nomatch shq_words
    rw [phD]
    walk_at "go"
    rw [show (1 : Int) + (ph.length : Nat) = ((1 + ph.length : Nat) : Int) by omega]
    exact k _
  | all b qs =>
    obtain ⟨hl8, hqs⟩ := QOk_all.mp hq
    rw [sizeN, sizesN_map] at k
    rw [q_all]
    cases b with
    | true =>
      rw [show wordB true = "and" from rfl]
      refine seq_i fun Kc hK => ?_
      walk_at "go"
      subst hK
      refine seq_i fun Kc hK => ?_
      nomatch shq_and, shq_words, nq_and_words
      subst hK
      refine seq_i fun Kc hK => ?_
      nomatch shq_and, shq_or, nq_and_or
      refine lc_map qs qD (fun q => .int (sizeN q : Nat)) (fun R hR => ?_) (small_of (by omega)) (by simp [noOwn]) (fun q hq2 A B hA hB => ?_) ?_
      · walk_at "go"
        exact hR
      · nomatch wipeE
        cases j with
        | zero => exact absurd (hqs q hq2) (by cases q <;> simp [QOk])
        | succ j =>
          refine ⟨q, rfl, hqs q hq2, fun os => ?_⟩
          nomatch mergeE
          exact ⟨hA, hB⟩
      walk_at "go"
      refine ⟨qs.map fun q => (sizeN q : Int), by rw [List.map_map]; rfl, ?_⟩
      have e : (qs.map fun q => (sizeN q : Int)).sum = (((qs.map sizeN).sum : Nat) : Int) := by rw [← sum_cast, List.map_map]; rfl
      rw [e]
      walk_at "go"
      rw [show (1 : Int) + (((qs.map sizeN).sum : Nat) : Int) = ((1 + (qs.map sizeN).sum : Nat) : Int) by omega]
      exact k _
    | false =>
      rw [show wordB false = "or" from rfl]
      refine seq_i fun Kc hK => ?_
      walk_at "go"
      subst hK
      refine seq_i fun Kc hK => ?_
      nomatch shq_or, shq_words, nq_or_words
      subst hK
      refine seq_i fun Kc hK => ?_
      nomatch shq_or, shq_and, nq_or_and
      refine lc_map qs qD (fun q => .int (sizeN q : Nat)) (fun R hR => ?_) (small_of (by omega)) (by simp [noOwn]) (fun q hq2 A B hA hB => ?_) ?_
      · walk_at "go"
        exact hR
      · nomatch wipeE
        cases j with
        | zero => exact absurd (hqs q hq2) (by cases q <;> simp [QOk])
        | succ j =>
          refine ⟨q, rfl, hqs q hq2, fun os => ?_⟩
          nomatch mergeE
          exact ⟨hA, hB⟩
      walk_at "go"
      refine ⟨qs.map fun q => (sizeN q : Int), by rw [List.map_map]; rfl, ?_⟩
      have e : (qs.map fun q => (sizeN q : Int)).sum = (((qs.map sizeN).sum : Nat) : Int) := by rw [← sum_cast, List.map_map]; rfl
      rw [e]
      walk_at "go"
      rw [show (1 : Int) + (((qs.map sizeN).sum : Nat) : Int) = ((1 + (qs.map sizeN).sum : Nat) : Int) by omega]
      exact k _
  | neg q =>
    rw [sizeN] at k
    rw [qD]
    refine seq_i fun Kc hK => ?_
    walk_at "go"
    subst hK
    refine seq_i fun Kc hK => ?_
    nomatch shq_not, shq_words, nq_not_words
    subst hK
    refine seq_i fun Kc hK => ?_
    nomatch shq_not, shq_and, nq_not_and, shq_or, nq_not_or
    subst hK
    refine seq_i fun Kc hK => ?_
    nomatch shq_not
    cases j with
    | zero => exact absurd (QOk_neg.mp hq) (by cases q <;> simp [QOk])
    | succ j =>
      refine ⟨q, rfl, QOk_neg.mp hq, fun os => ?_⟩
      walk_at "go"
      rw [show (1 : Int) + ((sizeN q : Nat) : Int) = ((1 + sizeN q : Nat) : Int) by omega]
      exact k _
  | under t =>
    have k : ∀ os, Q (.d (.int (1 : Nat))) os := k
    rw [qD]
    refine seq_i fun Kc hK => ?_
    walk_at "go"
    subst hK
    refine seq_i fun Kc hK => ?_
    nomatch shq_under, shq_words, nq_under_words
    subst hK
    refine seq_i fun Kc hK => ?_
    nomatch shq_under, shq_and, nq_under_and, shq_or, nq_under_or
    subst hK
    refine seq_i fun Kc hK => ?_
    nomatch shq_under, shq_not, nq_under_not
    subst hK
    walk_at "go"
    exact k _
  | links t =>
    have k : ∀ os, Q (.d (.int (1 : Nat))) os := k
    rw [qD]
    refine seq_i fun Kc hK => ?_
    walk_at "go"
    subst hK
    refine seq_i fun Kc hK => ?_
    nomatch shq_links, shq_words, nq_links_words
    subst hK
    refine seq_i fun Kc hK => ?_
    nomatch shq_links, shq_and, nq_links_and, shq_or, nq_links_or
    subst hK
    refine seq_i fun Kc hK => ?_
    nomatch shq_links, shq_not, nq_links_not
    subst hK
    walk_at "go"
    exact k _
  | since n =>
    have k : ∀ os, Q (.d (.int (1 : Nat))) os := k
    rw [qD]
    refine seq_i fun Kc hK => ?_
    walk_at "go"
    subst hK
    refine seq_i fun Kc hK => ?_
    nomatch shq_since, shq_words, nq_since_words
    subst hK
    refine seq_i fun Kc hK => ?_
    nomatch shq_since, shq_and, nq_since_and, shq_or, nq_since_or
    subst hK
    refine seq_i fun Kc hK => ?_
    nomatch shq_since, shq_not, nq_since_not
    subst hK
    walk_at "go"
    exact k _
theorem h_law_s_size {j : Nat} (hl : args.length = 1) (h : spR_law_s_size (j + 1) args Q) : t_law_s_size (spR_law_s_size j) (KD Q) (startE 2 args) := by
  obtain ⟨q, rfl, hq, k⟩ := h
  unfold t_law_s_size
  cases q with
  | words kind ph points most =>
    rw [sizeN] at k
    rw [qD]
    refine seq_i fun Kc hK => ?_
    nomatch shq_words
    rw [phD]
    walk_at "go"
    rw [show (1 : Int) + (ph.length : Nat) = ((1 + ph.length : Nat) : Int) by omega]
    exact k _
  | all b qs =>
    obtain ⟨hl8, hqs⟩ := QOk_all.mp hq
    rw [sizeN, sizesN_map] at k
    rw [q_all]
    cases b with
    | true =>
      rw [show wordB true = "and" from rfl]
      refine seq_i fun Kc hK => ?_
      nomatch shq_and, shq_words, nq_and_words
      subst hK
      refine seq_i fun Kc hK => ?_
      nomatch shq_and, shq_not, nq_and_not
      subst hK
      refine seq_i fun Kc hK => ?_
      nomatch shq_and, shl_ao, ao_and, decide_true, decide_false
      refine lc_map qs qD (fun q => .int (sizeN q : Nat)) (fun R hR => ?_) (small_of (by omega)) (by simp [noOwn]) (fun q hq2 A B hA hB => ?_) ?_
      · walk_at "go"
        exact hR
      · nomatch wipeE
        cases j with
        | zero => exact absurd (hqs q hq2) (by cases q <;> simp [QOk])
        | succ j =>
          refine ⟨q, rfl, hqs q hq2, fun os => ?_⟩
          nomatch mergeE
          exact ⟨hA, hB⟩
      walk_at "go"
      refine ⟨qs.map fun q => (sizeN q : Int), by rw [List.map_map]; rfl, ?_⟩
      have e : (qs.map fun q => (sizeN q : Int)).sum = (((qs.map sizeN).sum : Nat) : Int) := by rw [← sum_cast, List.map_map]; rfl
      rw [e]
      walk_at "go"
      rw [show (1 : Int) + (((qs.map sizeN).sum : Nat) : Int) = ((1 + (qs.map sizeN).sum : Nat) : Int) by omega]
      exact k _
    | false =>
      rw [show wordB false = "or" from rfl]
      refine seq_i fun Kc hK => ?_
      nomatch shq_or, shq_words, nq_or_words
      subst hK
      refine seq_i fun Kc hK => ?_
      nomatch shq_or, shq_not, nq_or_not
      subst hK
      refine seq_i fun Kc hK => ?_
      nomatch shq_or, shl_ao, ao_or, decide_true, decide_false
      refine lc_map qs qD (fun q => .int (sizeN q : Nat)) (fun R hR => ?_) (small_of (by omega)) (by simp [noOwn]) (fun q hq2 A B hA hB => ?_) ?_
      · walk_at "go"
        exact hR
      · nomatch wipeE
        cases j with
        | zero => exact absurd (hqs q hq2) (by cases q <;> simp [QOk])
        | succ j =>
          refine ⟨q, rfl, hqs q hq2, fun os => ?_⟩
          nomatch mergeE
          exact ⟨hA, hB⟩
      walk_at "go"
      refine ⟨qs.map fun q => (sizeN q : Int), by rw [List.map_map]; rfl, ?_⟩
      have e : (qs.map fun q => (sizeN q : Int)).sum = (((qs.map sizeN).sum : Nat) : Int) := by rw [← sum_cast, List.map_map]; rfl
      rw [e]
      walk_at "go"
      rw [show (1 : Int) + (((qs.map sizeN).sum : Nat) : Int) = ((1 + (qs.map sizeN).sum : Nat) : Int) by omega]
      exact k _
  | neg q =>
    rw [sizeN] at k
    rw [qD]
    refine seq_i fun Kc hK => ?_
    nomatch shq_not, shq_words, nq_not_words
    subst hK
    refine seq_i fun Kc hK => ?_
    nomatch shq_not
    cases j with
    | zero => exact absurd (QOk_neg.mp hq) (by cases q <;> simp [QOk])
    | succ j =>
      refine ⟨q, rfl, QOk_neg.mp hq, fun os => ?_⟩
      walk_at "go"
      rw [show (1 : Int) + ((sizeN q : Nat) : Int) = ((1 + sizeN q : Nat) : Int) by omega]
      exact k _
  | under t =>
    have k : ∀ os, Q (.d (.int (1 : Nat))) os := k
    rw [qD]
    refine seq_i fun Kc hK => ?_
    nomatch shq_under, shq_words, nq_under_words
    subst hK
    refine seq_i fun Kc hK => ?_
    nomatch shq_under, shq_not, nq_under_not
    subst hK
    refine seq_i fun Kc hK => ?_
    nomatch shq_under, shl_ao, ao_under, decide_true, decide_false
    subst hK
    walk_at "go"
    exact k _
  | links t =>
    have k : ∀ os, Q (.d (.int (1 : Nat))) os := k
    rw [qD]
    refine seq_i fun Kc hK => ?_
    nomatch shq_links, shq_words, nq_links_words
    subst hK
    refine seq_i fun Kc hK => ?_
    nomatch shq_links, shq_not, nq_links_not
    subst hK
    refine seq_i fun Kc hK => ?_
    nomatch shq_links, shl_ao, ao_links, decide_true, decide_false
    subst hK
    walk_at "go"
    exact k _
  | since n =>
    have k : ∀ os, Q (.d (.int (1 : Nat))) os := k
    rw [qD]
    refine seq_i fun Kc hK => ?_
    nomatch shq_since, shq_words, nq_since_words
    subst hK
    refine seq_i fun Kc hK => ?_
    nomatch shq_since, shq_not, nq_since_not
    subst hK
    refine seq_i fun Kc hK => ?_
    nomatch shq_since, shl_ao, ao_since, decide_true, decide_false
    subst hK
    walk_at "go"
    exact k _
theorem h_law_deep {j : Nat} (hl : args.length = 1) (h : spR_law_deep (j + 1) args Q) : t_law_deep (spR_law_deep j) (KD Q) (startE 2 args) := by
  obtain ⟨q, rfl, hq, k⟩ := h
  unfold t_law_deep
  cases q with
  | words kind ph points most =>
    rw [qD]
    refine seq_i fun Kc hK => ?_
    nomatch shq_words, shq_not, nq_words_not
    subst hK
    refine seq_i fun Kc hK => ?_
    nomatch shq_words, shl_ao, ao_words, decide_true, decide_false
    subst hK
    walk_at "go"
    exact k _ _
  | under t =>
    rw [qD]
    refine seq_i fun Kc hK => ?_
    nomatch shq_under, shq_not, nq_under_not
    subst hK
    refine seq_i fun Kc hK => ?_
    nomatch shq_under, shl_ao, ao_under, decide_true, decide_false
    subst hK
    walk_at "go"
    exact k _ _
  | links t =>
    rw [qD]
    refine seq_i fun Kc hK => ?_
    nomatch shq_links, shq_not, nq_links_not
    subst hK
    refine seq_i fun Kc hK => ?_
    nomatch shq_links, shl_ao, ao_links, decide_true, decide_false
    subst hK
    walk_at "go"
    exact k _ _
  | since n =>
    rw [qD]
    refine seq_i fun Kc hK => ?_
    nomatch shq_since, shq_not, nq_since_not
    subst hK
    refine seq_i fun Kc hK => ?_
    nomatch shq_since, shl_ao, ao_since, decide_true, decide_false
    subst hK
    walk_at "go"
    exact k _ _
  | neg q =>
    rw [qD]
    refine seq_i fun Kc hK => ?_
    nomatch shq_not
    cases j with
    | zero => exact absurd (QOk_neg.mp hq) (by cases q <;> simp [QOk])
    | succ j =>
      refine ⟨q, rfl, QOk_neg.mp hq, fun n os => ?_⟩
      walk_at "go"
      exact k _ _
  | all b qs =>
    obtain ⟨hl8, hqs⟩ := QOk_all.mp hq
    rw [q_all]
    cases b with
    | true =>
      rw [show wordB true = "and" from rfl]
      refine seq_i fun Kc hK => ?_
      nomatch shq_and, shq_not, nq_and_not
      subst hK
      refine seq_i fun Kc hK => ?_
      nomatch shq_and, shl_ao, ao_and, decide_true, decide_false
      refine lc_inv (fun ys => ys = qs.map qD) (fun env => env = [some (.d (.tuple [.str "and", .tuple (qs.map qD)])), none]) (fun y => ∃ z, y = .int z ∧ True) (fun R hR => ?_) (fun ys hP => ?_) (fun ys x hP hx env hJ => ?_) (fun ys env acc hP hJ hlen hY => ?_)
      · walk_at "go"
        exact hR _ _ rfl rfl
      · subst hP
        exact small_of (by rw [List.length_map]; omega)
      · subst hP hJ
        obtain ⟨q, hq2, rfl⟩ := List.mem_map.mp hx
        refine ⟨by simp [noOwn], fun A B hA hB => ?_⟩
        nomatch wipeE
        cases j with
        | zero => exact absurd (hqs q hq2) (by cases q <;> simp [QOk])
        | succ j =>
          refine ⟨q, rfl, hqs q hq2, fun n os => ?_⟩
          nomatch mergeE
          exact ⟨hA, hB _ _ rfl ⟨n, rfl, trivial⟩⟩
      subst hP hJ
      obtain ⟨zs, rfl, _⟩ := map_of PyData.int hY
      rw [List.length_map, List.length_map] at hlen
      walk_at "go"
      refine ⟨small_of (by omega), 0 :: zs, rfl, by simp, fun m _ _ => ?_⟩
      walk_at "go"
      exact k _ _
    | false =>
      rw [show wordB false = "or" from rfl]
      refine seq_i fun Kc hK => ?_
      nomatch shq_or, shq_not, nq_or_not
      subst hK
      refine seq_i fun Kc hK => ?_
      nomatch shq_or, shl_ao, ao_or, decide_true, decide_false
      refine lc_inv (fun ys => ys = qs.map qD) (fun env => env = [some (.d (.tuple [.str "or", .tuple (qs.map qD)])), none]) (fun y => ∃ z, y = .int z ∧ True) (fun R hR => ?_) (fun ys hP => ?_) (fun ys x hP hx env hJ => ?_) (fun ys env acc hP hJ hlen hY => ?_)
      · walk_at "go"
        exact hR _ _ rfl rfl
      · subst hP
        exact small_of (by rw [List.length_map]; omega)
      · subst hP hJ
        obtain ⟨q, hq2, rfl⟩ := List.mem_map.mp hx
        refine ⟨by simp [noOwn], fun A B hA hB => ?_⟩
        nomatch wipeE
        cases j with
        | zero => exact absurd (hqs q hq2) (by cases q <;> simp [QOk])
        | succ j =>
          refine ⟨q, rfl, hqs q hq2, fun n os => ?_⟩
          nomatch mergeE
          exact ⟨hA, hB _ _ rfl ⟨n, rfl, trivial⟩⟩
      subst hP hJ
      obtain ⟨zs, rfl, _⟩ := map_of PyData.int hY
      rw [List.length_map, List.length_map] at hlen
      walk_at "go"
      refine ⟨small_of (by omega), 0 :: zs, rfl, by simp, fun m _ _ => ?_⟩
      walk_at "go"
      exact k _ _
theorem h_score_of_words (hl : args.length = 2) (h : sp_score_of_words args Q) : t_score_of_words (KD Q) (startE 8 args) := by
  obtain ⟨p, kind, ph, points, most, rfl, hp, hq, k⟩ := h
  rw [QOk] at hq
  rw [scoreO] at k
  have hlen : (placesN p.words kind ph).length ≤ 30 := by
    have := List.length_filter_le (stand p.words kind ph) (List.range p.words.length)
    rw [List.length_range] at this
    exact Nat.le_trans this hp.2.1.1
  unfold t_score_of_words
  rw [qD, pgD]
  refine seq_i fun Kc hK => ?_
  walk_at "go"
  subst hK
  refine seq_i fun Kc hK => ?_
  walk_at "go"
  refine ⟨p.words, kind, ph, rfl, hp.2.1, hq.2.1, fun os => ?_⟩
  nomatch tupN
  generalize (placesN p.words kind ph).length = n at *
  subst hK
  refine seq_i fun Kc hK => ?_
  by_cases c : n = 0
  · have c0 : ((n : Nat) : Int) = 0 := by omega
    rw [if_pos c] at k
    nomatch c0, decide_true
    exact k _
  · have c0 : ¬ ((n : Nat) : Int) = 0 := by omega
    rw [if_neg c] at k
    nomatch c0, decide_false
    subst hK
    walk_at "go"
    exact ⟨.inl ⟨by omega, by omega⟩, k _⟩
end
end Dlk33

set_option Elab.async false
set_option linter.all false
set_option maxRecDepth 100000
set_option maxHeartbeats 4000000
set_option autoImplicit false
namespace Dlk33
open PySem PySem.Spec L2 DL
local macro_rules | `(tactic| walk_at "go") => `(tactic| simp only [outE_i, outE_n, sz0, sz1, sz2, sz3, sz4, sz5, sz6, sz7, sz8, sz9, sz10, sz11, sz12, sz13, sz14, sz15, sz16, ↓tdFr, ↓frE, ↓rdDivmod, ↓rdNotIn, ↓tdTru, ↓rdMulW, ↓rdGcd, ↓rdRgV, ↓tdRgI, ↓tdEnum2, ↓tdZip2, ↓tdPar, ↓tdRevA, ↓tdRevR, ↓rdDivP, ↓tdTupRg, ↓tdSortSet, ↓tdRepV, ↓tdSwap, ↓rdLcm, ↓tdRepE, ↓rdSortedA, ↓rdMaxA, ↓rdInsert, ↓tdSw, ↓tdRevT, ↓rdSortedS, ↓startE, ↓tdSeq, ↓tdSet, ↓tdSetD, ↓tdDrop, ↓tdRet, ↓tdIfS, ↓tdNext, ↓tdAsg, ↓tdV, ↓tdC, ↓tdBin, ↓tdB, ↓tdCons, ↓tdNil, ↓tdTup, ↓tdLst, ↓tdTest, ↓tdAnd, ↓tdOr, ↓tdNot, ↓tdIf, ↓tdAndV, ↓tdOrV, ↓tdNotV, ↓tdNeg, ↓tdIsN, ↓tdNotN, ↓tdSl, ↓tdPart, ↓tdNoPart, ↓tdM, ↓tdSetIx, ↓tdAug, ↓tdPut, ↓tdGet2, ↓tdIsi, ↓tdListRg, ↓gdName, ↓gdNil, ↓gdCons, ↓gdTup, ↓tdIt, ↓tdRng1, ↓tdRng2, ↓tdCall, ↓tdNew, ↓tdJoin, ↓gcName, ↓gcNil, ↓gcCons, ↓gcTup, ↓tdYes, ↓res, ↓resR, ↓resAll, ↓rvD, ↓rdLen, ↓rdInt, ↓rdAbs, ↓rdMax2, ↓rdMin2, ↓rdOrd, ↓rdTuple, ↓rdList, ↓rdIx, ↓rdAdd, ↓rdSub, ↓rdMul, ↓rdMod, ↓rdDiv, ↓rdPow, ↓rdCmp, ↓rdEq, ↓rdNe, ↓rdIadd, ↓rdIn, ↓rdSorted, ↓rdSl, ↓isT, ↓rdAppend, ↓itemsOf, ↓rvOf, ↓argsOf, ↓argOf, Nat.reduceAdd, Nat.reduceLT, Nat.reduceSub, Int.reduceLT, Int.reduceLE, Int.reduceAdd, Int.reduceEq, Int.reduceNeg, Nat.reduceLeDiff, Nat.zero_add, Nat.reduceEqDiff, Nat.reduceBEq, ix41, ix42, ix43, ix40, List.length_cons, List.length_nil, List.map_cons, List.map_nil, List.replicate, List.cons_append, List.nil_append, List.getElem?_cons_zero, List.getElem?_cons_succ, List.set_cons_zero, List.set_cons_succ, Option.map_some, at0, at1, at2, at3, ix0, ix1, ix2, ix3, sh_int, sh_bl, sh_non, eqv_int, eqv_bl, eqv_str, decide_eq_true_eq, Bool.not_eq_true, Bool.not_true, Bool.not_false, Bool.false_eq_true, true_and, and_true, if_true, if_false, ite_true, ite_false, List.length_map, List.length_set, Sl.isD, List.mem_singleton, List.mem_cons, List.not_mem_nil, not_true_eq_false, not_false_eq_true, or_false])
local macro_rules | `(tactic| nomatch $xs,*) => `(tactic| simp only [$[$xs:term],*, outE_i, outE_n, sz0, sz1, sz2, sz3, sz4, sz5, sz6, sz7, sz8, sz9, sz10, sz11, sz12, sz13, sz14, sz15, sz16, ↓tdFr, ↓frE, ↓rdDivmod, ↓rdNotIn, ↓tdTru, ↓rdMulW, ↓rdGcd, ↓rdRgV, ↓tdRgI, ↓tdEnum2, ↓tdZip2, ↓tdPar, ↓tdRevA, ↓tdRevR, ↓rdDivP, ↓tdTupRg, ↓tdSortSet, ↓tdRepV, ↓tdSwap, ↓rdLcm, ↓tdRepE, ↓rdSortedA, ↓rdMaxA, ↓rdInsert, ↓tdSw, ↓tdRevT, ↓rdSortedS, ↓startE, ↓tdSeq, ↓tdSet, ↓tdSetD, ↓tdDrop, ↓tdRet, ↓tdIfS, ↓tdNext, ↓tdAsg, ↓tdV, ↓tdC, ↓tdBin, ↓tdB, ↓tdCons, ↓tdNil, ↓tdTup, ↓tdLst, ↓tdTest, ↓tdAnd, ↓tdOr, ↓tdNot, ↓tdIf, ↓tdAndV, ↓tdOrV, ↓tdNotV, ↓tdNeg, ↓tdIsN, ↓tdNotN, ↓tdSl, ↓tdPart, ↓tdNoPart, ↓tdM, ↓tdSetIx, ↓tdAug, ↓tdPut, ↓tdGet2, ↓tdIsi, ↓tdListRg, ↓gdName, ↓gdNil, ↓gdCons, ↓gdTup, ↓tdIt, ↓tdRng1, ↓tdRng2, ↓tdCall, ↓tdNew, ↓tdJoin, ↓gcName, ↓gcNil, ↓gcCons, ↓gcTup, ↓tdYes, ↓res, ↓resR, ↓resAll, ↓rvD, ↓rdLen, ↓rdInt, ↓rdAbs, ↓rdMax2, ↓rdMin2, ↓rdOrd, ↓rdTuple, ↓rdList, ↓rdIx, ↓rdAdd, ↓rdSub, ↓rdMul, ↓rdMod, ↓rdDiv, ↓rdPow, ↓rdCmp, ↓rdEq, ↓rdNe, ↓rdIadd, ↓rdIn, ↓rdSorted, ↓rdSl, ↓isT, ↓rdAppend, ↓itemsOf, ↓rvOf, ↓argsOf, ↓argOf, Nat.reduceAdd, Nat.reduceLT, Nat.reduceSub, Int.reduceLT, Int.reduceLE, Int.reduceAdd, Int.reduceEq, Int.reduceNeg, Nat.reduceLeDiff, Nat.zero_add, Nat.reduceEqDiff, Nat.reduceBEq, ix41, ix42, ix43, ix40, List.length_cons, List.length_nil, List.map_cons, List.map_nil, List.replicate, List.cons_append, List.nil_append, List.getElem?_cons_zero, List.getElem?_cons_succ, List.set_cons_zero, List.set_cons_succ, Option.map_some, at0, at1, at2, at3, ix0, ix1, ix2, ix3, sh_int, sh_bl, sh_non, eqv_int, eqv_bl, eqv_str, decide_eq_true_eq, Bool.not_eq_true, Bool.not_true, Bool.not_false, Bool.false_eq_true, true_and, and_true, if_true, if_false, ite_true, ite_false, List.length_map, List.length_set, Sl.isD, List.mem_singleton, List.mem_cons, List.not_mem_nil, not_true_eq_false, not_false_eq_true, or_false])
theorem flt (g : Qn → Option Int) : ∀ qs : List Qn, (qs.filter fun q => (g q).isSome).map (fun q => kD (g q)) = ((qs.map g).filterMap id).map PyData.int
  | [] => rfl
  | q :: r => by
    rw [List.filter_cons, List.map_cons, List.filterMap_cons]
    cases h : g q with
    | none =>
      simp only [Option.isSome_none, id_eq]
      exact flt g r
    | some z =>
      simp only [Option.isSome_some, if_true, id_eq, List.map_cons]
      rw [flt g r, h]
      rfl
theorem any_strs (ls : List Str) (t : Str) : ((ls.map PyData.str).any fun z => PyData.eqv z (.str t)) = decide (t ∈ ls) := by
  rw [List.any_map]
  induction ls with
  | nil => rfl
  | cons a r ih =>
    rw [List.any_cons, ih]
    simp only [Function.comp, eqv_str]
    by_cases c : a = t
    · simp [c]
    · have c2 : ¬ t = a := fun z => c z.symm
      simp [c, c2]
theorem q0 {q : Qn} (h : QOk 0 q) : False := by cases q <;> simp [QOk] at h
theorem size_all {b : Bool} {qs : List Qn} {n : Nat} (h : sizeN (.all b qs) ≤ n) : ∀ q ∈ qs, sizeN q ≤ n := fun q hq => by
  rw [sizeN, sizesN_map] at h
  have : sizeN q ≤ (qs.map sizeN).sum := by
    clear h
    induction qs with
    | nil => cases hq
    | cons a r ih =>
      rw [List.map_cons, List.sum_cons]
      rcases List.mem_cons.mp hq with rfl | z
      · omega
      · have := ih z; omega
  omega
theorem size_neg {q : Qn} {n : Nat} (h : sizeN (.neg q) ≤ n) : sizeN q ≤ n := by rw [sizeN] at h; omega
mutual
theorem wq_len : ∀ q : Qn, (wordsQ q).length ≤ sizeN q
  | .words .. => by rw [wordsQ, sizeN]; simp
  | .all _ qs => by rw [wordsQ, sizeN]; have := wqs_len qs; omega
  | .neg q => by rw [wordsQ, sizeN]; have := wq_len q; omega
  | .under _ => by simp [wordsQ]
  | .links _ => by simp [wordsQ]
  | .since _ => by simp [wordsQ]
theorem wqs_len : ∀ qs : List Qn, (wordsQs qs).length ≤ (sizesN qs).sum
  | [] => by simp [wordsQs]
  | q :: r => by
    rw [wordsQs, sizesN, List.length_append, List.sum_cons]
    have := wq_len q
    have := wqs_len r
    omega
end
theorem wqs_snoc : ∀ (a : List Qn) (q : Qn), wordsQs (a ++ [q]) = wordsQs a ++ wordsQ q
  | [], q => by rw [List.nil_append, wordsQs, wordsQs, wordsQs]; simp
  | x :: a, q => by rw [List.cons_append, wordsQs, wordsQs, wqs_snoc a q, List.append_assoc]
mutual
theorem wq_ok {d : Nat} : ∀ {q : Qn}, QOk d q → ∀ x ∈ wordsQ q, PhOk x.2.1
  | .words .., h, x, hx => by
    rw [QOk] at h
    rw [wordsQ, List.mem_singleton] at hx
    rw [hx]
    exact h.2.1
  | .all _ qs, h, x, hx => by
    rw [QOk] at h
    rw [wordsQ] at hx
    exact wqs_ok h.2.2 x hx
  | .neg q, h, x, hx => by
    rw [QOk] at h
    rw [wordsQ] at hx
    exact wq_ok h.2 x hx
  | .under _, h, x, hx => by simp [wordsQ] at hx
  | .links _, h, x, hx => by simp [wordsQ] at hx
  | .since _, h, x, hx => by simp [wordsQ] at hx
theorem wqs_ok {d : Nat} : ∀ {qs : List Qn}, QsOk d qs → ∀ x ∈ wordsQs qs, PhOk x.2.1
  | [], _, x, hx => by simp [wordsQs] at hx
  | q :: r, h, x, hx => by
    rw [QsOk] at h
    rw [wordsQs] at hx
    rcases List.mem_append.mp hx with z | z
    · exact wq_ok h.1 x z
    · exact wqs_ok h.2 x z
end
section
variable {args : List Sl} {Q : Sl → (Nat → Option Sl) → Prop}
theorem h_score {j : Nat} (hl : args.length = 2) (h : spR_score (j + 1) args Q) : t_score (spR_score_of_some j) (spR_score j) (KD Q) (startE 3 args) := by
  obtain ⟨p, q, d, rfl, hp, hq, hd, k⟩ := h
  cases d with
  | zero => exact (q0 hq).elim
  | succ d =>
  unfold t_score
  cases q with
  | words kind ph points most =>
    rw [qD]
    refine seq_i fun Kc hK => ?_
    walk_at "go"
    subst hK
    refine seq_i fun Kc hK => ?_
    nomatch shq_words
    refine ⟨p, kind, ph, points, most, by rw [qD], hp, by rw [QOk] at *; exact ⟨by decide, hq.2⟩, fun os => ?_⟩
    walk_at "go"
    exact k _
  | all b qs =>
    rw [q_all]
    cases b with
    | true =>
      rw [show wordB true = "and" from rfl]
      refine seq_i fun Kc hK => ?_
      walk_at "go"
      subst hK
      refine seq_i fun Kc hK => ?_
      nomatch shq_and, shq_words, nq_and_words
      subst hK
      refine seq_i fun Kc hK => ?_
      nomatch shq_and, shq_or, nq_and_or
      cases j with
      | zero => omega
      | succ j =>
        refine ⟨p, true, qs, d + 1, by rw [q_all]; rfl, hp, hq, by omega, fun os => ?_⟩
        walk_at "go"
        exact k _
    | false =>
      rw [show wordB false = "or" from rfl]
      refine seq_i fun Kc hK => ?_
      walk_at "go"
      subst hK
      refine seq_i fun Kc hK => ?_
      nomatch shq_or, shq_words, nq_or_words
      subst hK
      refine seq_i fun Kc hK => ?_
      nomatch shq_or, shq_and, nq_or_and
      cases j with
      | zero => omega
      | succ j =>
        refine ⟨p, false, qs, d + 1, by rw [q_all]; rfl, hp, hq, by omega, fun os => ?_⟩
        walk_at "go"
        exact k _
  | neg q =>
    rw [scoreO] at k
    rw [qD]
    refine seq_i fun Kc hK => ?_
    walk_at "go"
    subst hK
    refine seq_i fun Kc hK => ?_
    nomatch shq_not, shq_words, nq_not_words
    subst hK
    refine seq_i fun Kc hK => ?_
    nomatch shq_not, shq_and, nq_not_and, shq_or, nq_not_or
    subst hK
    refine seq_i fun Kc hK => ?_
    nomatch shq_not
    cases j with
    | zero => omega
    | succ j =>
      refine ⟨p, q, d, rfl, hp, QOk_neg.mp hq, by omega, fun os => ?_⟩
      cases hs : scoreO p q with
      | none =>
        rw [hs] at k
        nomatch kD
        refine ⟨true, rfl, fun os => ?_⟩
        walk_at "go"
        exact k _
      | some z =>
        rw [hs] at k
        nomatch kD
        refine ⟨false, rfl, fun os => ?_⟩
        walk_at "go"
        exact k _
  | under t =>
    rw [scoreO] at k
    rw [qD, pgD]
    refine seq_i fun Kc hK => ?_
    walk_at "go"
    subst hK
    refine seq_i fun Kc hK => ?_
    nomatch shq_under, shq_words, nq_under_words
    subst hK
    refine seq_i fun Kc hK => ?_
    nomatch shq_under, shq_and, nq_under_and, shq_or, nq_under_or
    subst hK
    refine seq_i fun Kc hK => ?_
    nomatch shq_under, shq_not, nq_under_not
    subst hK
    refine seq_i fun Kc hK => ?_
    nomatch shq_under
    refine ⟨_, rfl, fun os => ?_⟩
    walk_at "go"
    exact k _
  | links t =>
    rw [scoreO] at k
    rw [QOk] at hq
    have s1 := sh_str hq.2.2
    have s2 := (sh_map PyData.str p.links fun z hz => lay_str (hp.2.2.2 z hz).2).2
    have a1 := any_strs p.links t
    rw [qD, pgD]
    refine seq_i fun Kc hK => ?_
    walk_at "go"
    subst hK
    refine seq_i fun Kc hK => ?_
    nomatch shq_links, shq_words, nq_links_words
    subst hK
    refine seq_i fun Kc hK => ?_
    nomatch shq_links, shq_and, nq_links_and, shq_or, nq_links_or
    subst hK
    refine seq_i fun Kc hK => ?_
    nomatch shq_links, shq_not, nq_links_not
    subst hK
    refine seq_i fun Kc hK => ?_
    nomatch shq_links, shq_under, nq_links_under
    subst hK
    refine seq_i fun Kc hK => ?_
    nomatch shq_links, s1, s2, a1
    refine ⟨_, rfl, fun os => ?_⟩
    walk_at "go"
    exact k _
  | since n =>
    rw [scoreO] at k
    rw [qD, pgD]
    refine seq_i fun Kc hK => ?_
    walk_at "go"
    subst hK
    refine seq_i fun Kc hK => ?_
    nomatch shq_since, shq_words, nq_since_words
    subst hK
    refine seq_i fun Kc hK => ?_
    nomatch shq_since, shq_and, nq_since_and, shq_or, nq_since_or
    subst hK
    refine seq_i fun Kc hK => ?_
    nomatch shq_since, shq_not, nq_since_not
    subst hK
    refine seq_i fun Kc hK => ?_
    nomatch shq_since, shq_under, nq_since_under
    subst hK
    refine seq_i fun Kc hK => ?_
    nomatch shq_since, shq_links, nq_since_links
    subst hK
    walk_at "go"
    refine ⟨_, rfl, fun os => ?_⟩
    walk_at "go"
    exact k _
end
end Dlk33

set_option Elab.async false
set_option linter.all false
set_option maxRecDepth 100000
set_option maxHeartbeats 4000000
set_option autoImplicit false
namespace Dlk33
open PySem PySem.Spec L2 DL
local macro_rules | `(tactic| walk_at "go") => `(tactic| simp only [outE_i, outE_n, sz0, sz1, sz2, sz3, sz4, sz5, sz6, sz7, sz8, sz9, sz10, sz11, sz12, sz13, sz14, sz15, sz16, ↓tdFr, ↓frE, ↓rdDivmod, ↓rdNotIn, ↓tdTru, ↓rdMulW, ↓rdGcd, ↓rdRgV, ↓tdRgI, ↓tdEnum2, ↓tdZip2, ↓tdPar, ↓tdRevA, ↓tdRevR, ↓rdDivP, ↓tdTupRg, ↓tdSortSet, ↓tdRepV, ↓tdSwap, ↓rdLcm, ↓tdRepE, ↓rdSortedA, ↓rdMaxA, ↓rdInsert, ↓tdSw, ↓tdRevT, ↓rdSortedS, ↓startE, ↓tdSeq, ↓tdSet, ↓tdSetD, ↓tdDrop, ↓tdRet, ↓tdIfS, ↓tdNext, ↓tdAsg, ↓tdV, ↓tdC, ↓tdBin, ↓tdB, ↓tdCons, ↓tdNil, ↓tdTup, ↓tdLst, ↓tdTest, ↓tdAnd, ↓tdOr, ↓tdNot, ↓tdIf, ↓tdAndV, ↓tdOrV, ↓tdNotV, ↓tdNeg, ↓tdIsN, ↓tdNotN, ↓tdSl, ↓tdPart, ↓tdNoPart, ↓tdM, ↓tdSetIx, ↓tdAug, ↓tdPut, ↓tdGet2, ↓tdIsi, ↓tdListRg, ↓gdName, ↓gdNil, ↓gdCons, ↓gdTup, ↓tdIt, ↓tdRng1, ↓tdRng2, ↓tdCall, ↓tdNew, ↓tdJoin, ↓gcName, ↓gcNil, ↓gcCons, ↓gcTup, ↓tdYes, ↓res, ↓resR, ↓resAll, ↓rvD, ↓rdLen, ↓rdInt, ↓rdAbs, ↓rdMax2, ↓rdMin2, ↓rdOrd, ↓rdTuple, ↓rdList, ↓rdIx, ↓rdAdd, ↓rdSub, ↓rdMul, ↓rdMod, ↓rdDiv, ↓rdPow, ↓rdCmp, ↓rdEq, ↓rdNe, ↓rdIadd, ↓rdIn, ↓rdSorted, ↓rdSl, ↓isT, ↓rdAppend, ↓itemsOf, ↓rvOf, ↓argsOf, ↓argOf, Nat.reduceAdd, Nat.reduceLT, Nat.reduceSub, Int.reduceLT, Int.reduceLE, Int.reduceAdd, Int.reduceEq, Int.reduceNeg, Nat.reduceLeDiff, Nat.zero_add, Nat.reduceEqDiff, Nat.reduceBEq, ix41, ix42, ix43, ix40, List.length_cons, List.length_nil, List.map_cons, List.map_nil, List.replicate, List.cons_append, List.nil_append, List.getElem?_cons_zero, List.getElem?_cons_succ, List.set_cons_zero, List.set_cons_succ, Option.map_some, at0, at1, at2, at3, ix0, ix1, ix2, ix3, sh_int, sh_bl, sh_non, eqv_int, eqv_bl, eqv_str, decide_eq_true_eq, Bool.not_eq_true, Bool.not_true, Bool.not_false, Bool.false_eq_true, true_and, and_true, if_true, if_false, ite_true, ite_false, List.length_map, List.length_set, Sl.isD, List.mem_singleton, List.mem_cons, List.not_mem_nil, not_true_eq_false, not_false_eq_true, or_false])
local macro_rules | `(tactic| nomatch $xs,*) => `(tactic| simp only [$[$xs:term],*, outE_i, outE_n, sz0, sz1, sz2, sz3, sz4, sz5, sz6, sz7, sz8, sz9, sz10, sz11, sz12, sz13, sz14, sz15, sz16, ↓tdFr, ↓frE, ↓rdDivmod, ↓rdNotIn, ↓tdTru, ↓rdMulW, ↓rdGcd, ↓rdRgV, ↓tdRgI, ↓tdEnum2, ↓tdZip2, ↓tdPar, ↓tdRevA, ↓tdRevR, ↓rdDivP, ↓tdTupRg, ↓tdSortSet, ↓tdRepV, ↓tdSwap, ↓rdLcm, ↓tdRepE, ↓rdSortedA, ↓rdMaxA, ↓rdInsert, ↓tdSw, ↓tdRevT, ↓rdSortedS, ↓startE, ↓tdSeq, ↓tdSet, ↓tdSetD, ↓tdDrop, ↓tdRet, ↓tdIfS, ↓tdNext, ↓tdAsg, ↓tdV, ↓tdC, ↓tdBin, ↓tdB, ↓tdCons, ↓tdNil, ↓tdTup, ↓tdLst, ↓tdTest, ↓tdAnd, ↓tdOr, ↓tdNot, ↓tdIf, ↓tdAndV, ↓tdOrV, ↓tdNotV, ↓tdNeg, ↓tdIsN, ↓tdNotN, ↓tdSl, ↓tdPart, ↓tdNoPart, ↓tdM, ↓tdSetIx, ↓tdAug, ↓tdPut, ↓tdGet2, ↓tdIsi, ↓tdListRg, ↓gdName, ↓gdNil, ↓gdCons, ↓gdTup, ↓tdIt, ↓tdRng1, ↓tdRng2, ↓tdCall, ↓tdNew, ↓tdJoin, ↓gcName, ↓gcNil, ↓gcCons, ↓gcTup, ↓tdYes, ↓res, ↓resR, ↓resAll, ↓rvD, ↓rdLen, ↓rdInt, ↓rdAbs, ↓rdMax2, ↓rdMin2, ↓rdOrd, ↓rdTuple, ↓rdList, ↓rdIx, ↓rdAdd, ↓rdSub, ↓rdMul, ↓rdMod, ↓rdDiv, ↓rdPow, ↓rdCmp, ↓rdEq, ↓rdNe, ↓rdIadd, ↓rdIn, ↓rdSorted, ↓rdSl, ↓isT, ↓rdAppend, ↓itemsOf, ↓rvOf, ↓argsOf, ↓argOf, Nat.reduceAdd, Nat.reduceLT, Nat.reduceSub, Int.reduceLT, Int.reduceLE, Int.reduceAdd, Int.reduceEq, Int.reduceNeg, Nat.reduceLeDiff, Nat.zero_add, Nat.reduceEqDiff, Nat.reduceBEq, ix41, ix42, ix43, ix40, List.length_cons, List.length_nil, List.map_cons, List.map_nil, List.replicate, List.cons_append, List.nil_append, List.getElem?_cons_zero, List.getElem?_cons_succ, List.set_cons_zero, List.set_cons_succ, Option.map_some, at0, at1, at2, at3, ix0, ix1, ix2, ix3, sh_int, sh_bl, sh_non, eqv_int, eqv_bl, eqv_str, decide_eq_true_eq, Bool.not_eq_true, Bool.not_true, Bool.not_false, Bool.false_eq_true, true_and, and_true, if_true, if_false, ite_true, ite_false, List.length_map, List.length_set, Sl.isD, List.mem_singleton, List.mem_cons, List.not_mem_nil, not_true_eq_false, not_false_eq_true, or_false])
theorem isn_k (o : Option Int) : (∃ z, kD o = .int z) ∨ kD o = .none := by cases o; exact .inr rfl; exact .inl ⟨_, rfl⟩
section
variable {args : List Sl} {Q : Sl → (Nat → Option Sl) → Prop}
theorem h_score_of_some {j : Nat} (hl : args.length = 2) (h : spR_score_of_some (j + 1) args Q) : t_score_of_some (spR_score j) (KD Q) (startE 8 args) := by
  obtain ⟨p, b, qs, d, rfl, hp, hq, hd, k⟩ := h
  cases d with
  | zero => exact (q0 hq).elim
  | succ d =>
  obtain ⟨hl8, hqs⟩ := QOk_all.mp hq
  rw [scoreO, scoresO_map] at k
  unfold t_score_of_some
  rw [q_all]
  refine seq_i fun Kc hK => ?_
  walk_at "go"
  subst hK
  refine seq_i fun Kc hK => ?_
  walk_at "go"
  refine lc_map qs qD (fun q => kD (scoreO p q)) (fun R hR => ?_) (small_of (by omega)) (by simp [noOwn]) (fun q hq2 A B hA hB => ?_) ?_
  · walk_at "go"
    exact hR
  · nomatch wipeE
    cases d with
    | zero => exact (q0 (hqs q hq2)).elim
    | succ d =>
      cases j with
      | zero => omega
      | succ j =>
        refine ⟨p, q, d + 1, rfl, hp, hqs q hq2, by omega, fun os => ?_⟩
        nomatch mergeE
        exact ⟨hA, hB⟩
  walk_at "go"
  subst hK
  refine seq_i fun Kc hK => ?_
  walk_at "go"
  refine lc_if qs (fun q => kD (scoreO p q)) (fun q => kD (scoreO p q)) (fun q => (scoreO p q).isSome) (fun R hR => ?_) (small_of (by omega)) (by simp [noOwn]) (fun q hq2 A B C hA hB hC => ?_) ?_
  · walk_at "go"
    exact hR
  · cases hs : scoreO p q with
    | none =>
      rw [hs] at hB
      nomatch wipeE, mergeE, kD
      exact hB rfl
    | some z =>
      rw [hs] at hC
      nomatch wipeE, mergeE, kD
      exact ⟨hA, hC rfl⟩
  rw [flt]
  have hfl : ((qs.map (scoreO p)).filterMap id).length ≤ qs.length := by
    have := List.length_filterMap_le id (qs.map (scoreO p))
    rwa [List.length_map] at this
  have hml : (qs.map (scoreO p)).length = qs.length := List.length_map _
  unfold sumO at k
  rw [hml] at k
  generalize (qs.map (scoreO p)).filterMap id = os at *
  walk_at "go"
  subst hK
  cases b with
  | true =>
    rw [if_pos rfl] at k
    rw [show wordB true = "and" from rfl]
    refine seq_i fun Kc hK => ?_
    by_cases c : os.length < qs.length
    · have c0 : ((os.length : Nat) : Int) < (qs.length : Nat) := by omega
      rw [if_pos c] at k
      nomatch shq_and, c0, decide_true
      exact k _
    · have c0 : ¬ ((os.length : Nat) : Int) < (qs.length : Nat) := by omega
      rw [if_neg c] at k
      nomatch shq_and, c0, decide_true, decide_false
      subst hK
      refine seq_i fun Kc hK => ?_
      nomatch shq_and, shq_or, nq_and_or
      subst hK
      walk_at "go"
      exact ⟨os, rfl, k _⟩
  | false =>
    rw [if_neg (by decide)] at k
    rw [show wordB false = "or" from rfl]
    refine seq_i fun Kc hK => ?_
    nomatch shq_and, shq_or, nq_or_and
    subst hK
    refine seq_i fun Kc hK => ?_
    by_cases c : os.length = 0
    · have c0 : ((os.length : Nat) : Int) = 0 := by omega
      rw [if_pos c] at k
      nomatch shq_or, c0, decide_true
      exact k _
    · have c0 : ¬ ((os.length : Nat) : Int) = 0 := by omega
      rw [if_neg c] at k
      nomatch shq_or, c0, decide_true, decide_false
      subst hK
      walk_at "go"
      exact ⟨os, rfl, k _⟩
theorem h_law_s_score {j : Nat} (hl : args.length = 2) (h : spR_law_s_score (j + 1) args Q) : t_law_s_score (spR_law_s_score j) (KD Q) (startE 8 args) := by
  obtain ⟨p, q, rfl, hp, hq, k⟩ := h
  unfold t_law_s_score
  cases q with
  | words kind ph points most =>
    rw [QOk] at hq
    rw [scoreO] at k
    have hlen : (placesN p.words kind ph).length ≤ 30 := by
      have := List.length_filter_le (stand p.words kind ph) (List.range p.words.length)
      rw [List.length_range] at this
      exact Nat.le_trans this hp.2.1.1
    rw [qD, pgD]
    refine seq_i fun Kc hK => ?_
    walk_at "go"
    subst hK
    refine seq_i fun Kc hK => ?_
    nomatch shq_words
    refine ⟨p.words, kind, ph, rfl, hp.2.1, hq.2.1, fun os => ?_⟩
    by_cases c : (placesN p.words kind ph).length = 0
    · have c0 : (((placesN p.words kind ph).length : Nat) : Int) = 0 := by omega
      rw [if_pos c] at k
      nomatch tupN, c0, decide_true
      exact k _
    · have c0 : ¬ (((placesN p.words kind ph).length : Nat) : Int) = 0 := by omega
      rw [if_neg c] at k
      nomatch tupN, c0, decide_false
      exact ⟨.inl ⟨by omega, by omega⟩, k _⟩
  | under t =>
    rw [scoreO] at k
    rw [qD, pgD]
    refine seq_i fun Kc hK => ?_
    walk_at "go"
    subst hK
    refine seq_i fun Kc hK => ?_
    nomatch shq_under, shq_words, nq_under_words
    subst hK
    refine seq_i fun Kc hK => ?_
    nomatch shq_under
    cases hb : Txt.startswith p.name t with
    | true =>
      rw [hb] at k
      nomatch hb
      exact k _
    | false =>
      rw [hb] at k
      nomatch hb
      exact k _
  | links t =>
    rw [scoreO] at k
    rw [QOk] at hq
    have s1 := sh_str hq.2.2
    have s2 := (sh_map PyData.str p.links fun z hz => lay_str (hp.2.2.2 z hz).2).2
    have a1 := any_strs p.links t
    rw [qD, pgD]
    refine seq_i fun Kc hK => ?_
    walk_at "go"
    subst hK
    refine seq_i fun Kc hK => ?_
    nomatch shq_links, shq_words, nq_links_words
    subst hK
    refine seq_i fun Kc hK => ?_
    nomatch shq_links, shq_under, nq_links_under
    subst hK
    refine seq_i fun Kc hK => ?_
    nomatch shq_links
    by_cases c : t ∈ p.links
    · rw [decide_eq_true c] at k a1
      nomatch s1, s2, a1
      exact k _
    · rw [decide_eq_false c] at k a1
      nomatch s1, s2, a1
      exact k _
  | since n =>
    rw [scoreO] at k
    rw [qD, pgD]
    refine seq_i fun Kc hK => ?_
    walk_at "go"
    subst hK
    refine seq_i fun Kc hK => ?_
    nomatch shq_since, shq_words, nq_since_words
    subst hK
    refine seq_i fun Kc hK => ?_
    nomatch shq_since, shq_under, nq_since_under
    subst hK
    refine seq_i fun Kc hK => ?_
    nomatch shq_since, shq_links, nq_since_links
    subst hK
    refine seq_i fun Kc hK => ?_
    nomatch shq_since
    by_cases c : n ≤ p.tick
    · rw [decide_eq_true c] at k
      nomatch c, decide_true
      exact k _
    · rw [decide_eq_false c] at k
      nomatch c, decide_false
      exact k _
  | neg q =>
    rw [scoreO] at k
    rw [qD]
    refine seq_i fun Kc hK => ?_
    walk_at "go"
    subst hK
    refine seq_i fun Kc hK => ?_
    nomatch shq_not, shq_words, nq_not_words
    subst hK
    refine seq_i fun Kc hK => ?_
    nomatch shq_not, shq_under, nq_not_under
    subst hK
    refine seq_i fun Kc hK => ?_
    nomatch shq_not, shq_links, nq_not_links
    subst hK
    refine seq_i fun Kc hK => ?_
    nomatch shq_not, shq_since, nq_not_since
    subst hK
    refine seq_i fun Kc hK => ?_
    nomatch shq_not
    cases j with
    | zero => exact (q0 (QOk_neg.mp hq)).elim
    | succ j =>
      refine ⟨p, q, rfl, hp, QOk_neg.mp hq, fun os => ?_⟩
      cases hs : scoreO p q with
      | none =>
        rw [hs] at k
        nomatch kD
        exact k _
      | some z =>
        rw [hs] at k
        nomatch kD
        exact k _
  | all b qs =>
    obtain ⟨hl8, hqs⟩ := QOk_all.mp hq
    rw [scoreO, scoresO_map] at k
    rw [q_all]
    have mid : ∀ Kc : En → Prop, ∀ w : Str, (∀ os : List Int, os = (qs.map (scoreO p)).filterMap id → Kc [some (.d (pgD p)), some (.d (.tuple [.str w, .tuple (qs.map qD)])), some (.d (.str w)), none, some (.d (.list (qs.map fun q => kD (scoreO p q)))), none, some (.d (.list (os.map .int))), none]) → True := fun _ _ _ => trivial
    cases b with
    | true =>
      rw [show wordB true = "and" from rfl]
      refine seq_i fun Kc hK => ?_
      walk_at "go"
      subst hK
      refine seq_i fun Kc hK => ?_
      nomatch shq_and, shq_words, nq_and_words
      subst hK
      refine seq_i fun Kc hK => ?_
      nomatch shq_and, shq_under, nq_and_under
      subst hK
      refine seq_i fun Kc hK => ?_
      nomatch shq_and, shq_links, nq_and_links
      subst hK
      refine seq_i fun Kc hK => ?_
      nomatch shq_and, shq_since, nq_and_since
      subst hK
      refine seq_i fun Kc hK => ?_
      nomatch shq_and, shq_not, nq_and_not
      subst hK
      refine seq_i fun Kc hK => ?_
      walk_at "go"
      refine lc_map qs qD (fun q => kD (scoreO p q)) (fun R hR => ?_) (small_of (by omega)) (by simp [noOwn]) (fun q hq2 A B hA hB => ?_) ?_
      · walk_at "go"
        exact hR
      · nomatch wipeE
        cases j with
        | zero => exact (q0 (hqs q hq2)).elim
        | succ j =>
          refine ⟨p, q, rfl, hp, hqs q hq2, fun os => ?_⟩
          nomatch mergeE
          exact ⟨hA, hB⟩
      walk_at "go"
      subst hK
      refine seq_i fun Kc hK => ?_
      walk_at "go"
      refine lc_if qs (fun q => kD (scoreO p q)) (fun q => kD (scoreO p q)) (fun q => (scoreO p q).isSome) (fun R hR => ?_) (small_of (by omega)) (by simp [noOwn]) (fun q hq2 A B C hA hB hC => ?_) ?_
      · walk_at "go"
        exact hR
      · cases hs : scoreO p q with
        | none =>
          rw [hs] at hB
          nomatch wipeE, mergeE, kD
          exact hB rfl
        | some z =>
          rw [hs] at hC
          nomatch wipeE, mergeE, kD
          exact ⟨hA, hC rfl⟩
      rw [flt]
      have hfl : ((qs.map (scoreO p)).filterMap id).length ≤ qs.length := by
        have := List.length_filterMap_le id (qs.map (scoreO p))
        rwa [List.length_map] at this
      have hml : (qs.map (scoreO p)).length = qs.length := List.length_map _
      unfold sumO at k
      rw [hml] at k
      generalize (qs.map (scoreO p)).filterMap id = os at *
      walk_at "go"
      subst hK
      rw [if_pos rfl] at k
      refine seq_i fun Kc hK => ?_
      by_cases c : os.length < qs.length
      · have c0 : ¬ ((os.length : Nat) : Int) = (qs.length : Nat) := by omega
        rw [if_pos c] at k
        nomatch shq_and, c0, decide_true, decide_false
        exact k _
      · have c0 : ((os.length : Nat) : Int) = (qs.length : Nat) := by omega
        rw [if_neg c] at k
        nomatch shq_and, c0, decide_true, decide_false
        exact ⟨os, rfl, k _⟩
    | false =>
      rw [show wordB false = "or" from rfl]
      refine seq_i fun Kc hK => ?_
      walk_at "go"
      subst hK
      refine seq_i fun Kc hK => ?_
      nomatch shq_or, shq_words, nq_or_words
      subst hK
      refine seq_i fun Kc hK => ?_
      nomatch shq_or, shq_under, nq_or_under
      subst hK
      refine seq_i fun Kc hK => ?_
      nomatch shq_or, shq_links, nq_or_links
      subst hK
      refine seq_i fun Kc hK => ?_
      nomatch shq_or, shq_since, nq_or_since
      subst hK
      refine seq_i fun Kc hK => ?_
      nomatch shq_or, shq_not, nq_or_not
      subst hK
      refine seq_i fun Kc hK => ?_
      walk_at "go"
      refine lc_map qs qD (fun q => kD (scoreO p q)) (fun R hR => ?_) (small_of (by omega)) (by simp [noOwn]) (fun q hq2 A B hA hB => ?_) ?_
      · walk_at "go"
        exact hR
      · nomatch wipeE
        cases j with
        | zero => exact (q0 (hqs q hq2)).elim
        | succ j =>
          refine ⟨p, q, rfl, hp, hqs q hq2, fun os => ?_⟩
          nomatch mergeE
          exact ⟨hA, hB⟩
      walk_at "go"
      subst hK
      refine seq_i fun Kc hK => ?_
      walk_at "go"
      refine lc_if qs (fun q => kD (scoreO p q)) (fun q => kD (scoreO p q)) (fun q => (scoreO p q).isSome) (fun R hR => ?_) (small_of (by omega)) (by simp [noOwn]) (fun q hq2 A B C hA hB hC => ?_) ?_
      · walk_at "go"
        exact hR
      · cases hs : scoreO p q with
        | none =>
          rw [hs] at hB
          nomatch wipeE, mergeE, kD
          exact hB rfl
        | some z =>
          rw [hs] at hC
          nomatch wipeE, mergeE, kD
          exact ⟨hA, hC rfl⟩
      rw [flt]
      have hfl : ((qs.map (scoreO p)).filterMap id).length ≤ qs.length := by
        have := List.length_filterMap_le id (qs.map (scoreO p))
        rwa [List.length_map] at this
      have hml : (qs.map (scoreO p)).length = qs.length := List.length_map _
      unfold sumO at k
      rw [hml] at k
      generalize (qs.map (scoreO p)).filterMap id = os at *
      walk_at "go"
      subst hK
      rw [if_neg (by decide)] at k
      refine seq_i fun Kc hK => ?_
      nomatch shq_and, shq_or, nq_or_and
      subst hK
      by_cases c : os.length = 0
      · have c0 : ¬ (0 : Int) < ((os.length : Nat) : Int) := by omega
        rw [if_pos c] at k
        nomatch c0, decide_true, decide_false
        exact k _
      · have c0 : (0 : Int) < ((os.length : Nat) : Int) := by omega
        rw [if_neg c] at k
        nomatch c0, decide_true, decide_false
        exact ⟨os, rfl, k _⟩
end
end Dlk33

set_option Elab.async false
set_option linter.all false
set_option maxRecDepth 100000
set_option maxHeartbeats 4000000
set_option autoImplicit false
namespace Dlk33
open PySem PySem.Spec L2 DL
local macro_rules | `(tactic| walk_at "go") => `(tactic| simp only [outE_i, outE_n, sz0, sz1, sz2, sz3, sz4, sz5, sz6, sz7, sz8, sz9, sz10, sz11, sz12, sz13, sz14, sz15, sz16, ↓tdFr, ↓frE, ↓rdDivmod, ↓rdNotIn, ↓tdTru, ↓rdMulW, ↓rdGcd, ↓rdRgV, ↓tdRgI, ↓tdEnum2, ↓tdZip2, ↓tdPar, ↓tdRevA, ↓tdRevR, ↓rdDivP, ↓tdTupRg, ↓tdSortSet, ↓tdRepV, ↓tdSwap, ↓rdLcm, ↓tdRepE, ↓rdSortedA, ↓rdMaxA, ↓rdInsert, ↓tdSw, ↓tdRevT, ↓rdSortedS, ↓startE, ↓tdSeq, ↓tdSet, ↓tdSetD, ↓tdDrop, ↓tdRet, ↓tdIfS, ↓tdNext, ↓tdAsg, ↓tdV, ↓tdC, ↓tdBin, ↓tdB, ↓tdCons, ↓tdNil, ↓tdTup, ↓tdLst, ↓tdTest, ↓tdAnd, ↓tdOr, ↓tdNot, ↓tdIf, ↓tdAndV, ↓tdOrV, ↓tdNotV, ↓tdNeg, ↓tdIsN, ↓tdNotN, ↓tdSl, ↓tdPart, ↓tdNoPart, ↓tdM, ↓tdSetIx, ↓tdAug, ↓tdPut, ↓tdGet2, ↓tdIsi, ↓tdListRg, ↓gdName, ↓gdNil, ↓gdCons, ↓gdTup, ↓tdIt, ↓tdRng1, ↓tdRng2, ↓tdCall, ↓tdNew, ↓tdJoin, ↓gcName, ↓gcNil, ↓gcCons, ↓gcTup, ↓tdYes, ↓res, ↓resR, ↓resAll, ↓rvD, ↓rdLen, ↓rdInt, ↓rdAbs, ↓rdMax2, ↓rdMin2, ↓rdOrd, ↓rdTuple, ↓rdList, ↓rdIx, ↓rdAdd, ↓rdSub, ↓rdMul, ↓rdMod, ↓rdDiv, ↓rdPow, ↓rdCmp, ↓rdEq, ↓rdNe, ↓rdIadd, ↓rdIn, ↓rdSorted, ↓rdSl, ↓isT, ↓rdAppend, ↓itemsOf, ↓rvOf, ↓argsOf, ↓argOf, Nat.reduceAdd, Nat.reduceLT, Nat.reduceSub, Int.reduceLT, Int.reduceLE, Int.reduceAdd, Int.reduceEq, Int.reduceNeg, Nat.reduceLeDiff, Nat.zero_add, Nat.reduceEqDiff, Nat.reduceBEq, ix41, ix42, ix43, ix40, List.length_cons, List.length_nil, List.map_cons, List.map_nil, List.replicate, List.cons_append, List.nil_append, List.getElem?_cons_zero, List.getElem?_cons_succ, List.set_cons_zero, List.set_cons_succ, Option.map_some, at0, at1, at2, at3, ix0, ix1, ix2, ix3, sh_int, sh_bl, sh_non, eqv_int, eqv_bl, eqv_str, decide_eq_true_eq, Bool.not_eq_true, Bool.not_true, Bool.not_false, Bool.false_eq_true, true_and, and_true, if_true, if_false, ite_true, ite_false, List.length_map, List.length_set, Sl.isD, List.mem_singleton, List.mem_cons, List.not_mem_nil, not_true_eq_false, not_false_eq_true, or_false])
local macro_rules | `(tactic| nomatch $xs,*) => `(tactic| simp only [$[$xs:term],*, outE_i, outE_n, sz0, sz1, sz2, sz3, sz4, sz5, sz6, sz7, sz8, sz9, sz10, sz11, sz12, sz13, sz14, sz15, sz16, ↓tdFr, ↓frE, ↓rdDivmod, ↓rdNotIn, ↓tdTru, ↓rdMulW, ↓rdGcd, ↓rdRgV, ↓tdRgI, ↓tdEnum2, ↓tdZip2, ↓tdPar, ↓tdRevA, ↓tdRevR, ↓rdDivP, ↓tdTupRg, ↓tdSortSet, ↓tdRepV, ↓tdSwap, ↓rdLcm, ↓tdRepE, ↓rdSortedA, ↓rdMaxA, ↓rdInsert, ↓tdSw, ↓tdRevT, ↓rdSortedS, ↓startE, ↓tdSeq, ↓tdSet, ↓tdSetD, ↓tdDrop, ↓tdRet, ↓tdIfS, ↓tdNext, ↓tdAsg, ↓tdV, ↓tdC, ↓tdBin, ↓tdB, ↓tdCons, ↓tdNil, ↓tdTup, ↓tdLst, ↓tdTest, ↓tdAnd, ↓tdOr, ↓tdNot, ↓tdIf, ↓tdAndV, ↓tdOrV, ↓tdNotV, ↓tdNeg, ↓tdIsN, ↓tdNotN, ↓tdSl, ↓tdPart, ↓tdNoPart, ↓tdM, ↓tdSetIx, ↓tdAug, ↓tdPut, ↓tdGet2, ↓tdIsi, ↓tdListRg, ↓gdName, ↓gdNil, ↓gdCons, ↓gdTup, ↓tdIt, ↓tdRng1, ↓tdRng2, ↓tdCall, ↓tdNew, ↓tdJoin, ↓gcName, ↓gcNil, ↓gcCons, ↓gcTup, ↓tdYes, ↓res, ↓resR, ↓resAll, ↓rvD, ↓rdLen, ↓rdInt, ↓rdAbs, ↓rdMax2, ↓rdMin2, ↓rdOrd, ↓rdTuple, ↓rdList, ↓rdIx, ↓rdAdd, ↓rdSub, ↓rdMul, ↓rdMod, ↓rdDiv, ↓rdPow, ↓rdCmp, ↓rdEq, ↓rdNe, ↓rdIadd, ↓rdIn, ↓rdSorted, ↓rdSl, ↓isT, ↓rdAppend, ↓itemsOf, ↓rvOf, ↓argsOf, ↓argOf, Nat.reduceAdd, Nat.reduceLT, Nat.reduceSub, Int.reduceLT, Int.reduceLE, Int.reduceAdd, Int.reduceEq, Int.reduceNeg, Nat.reduceLeDiff, Nat.zero_add, Nat.reduceEqDiff, Nat.reduceBEq, ix41, ix42, ix43, ix40, List.length_cons, List.length_nil, List.map_cons, List.map_nil, List.replicate, List.cons_append, List.nil_append, List.getElem?_cons_zero, List.getElem?_cons_succ, List.set_cons_zero, List.set_cons_succ, Option.map_some, at0, at1, at2, at3, ix0, ix1, ix2, ix3, sh_int, sh_bl, sh_non, eqv_int, eqv_bl, eqv_str, decide_eq_true_eq, Bool.not_eq_true, Bool.not_true, Bool.not_false, Bool.false_eq_true, true_and, and_true, if_true, if_false, ite_true, ite_false, List.length_map, List.length_set, Sl.isD, List.mem_singleton, List.mem_cons, List.not_mem_nil, not_true_eq_false, not_false_eq_true, or_false])
theorem deep0 {j : Nat} {q : Qn} (h : QOk 0 q) : False := q0 h
section
variable {args : List Sl} {Q : Sl → (Nat → Option Sl) → Prop}
theorem h_questions_of_words {j : Nat} (hl : args.length = 1) (h : spR_questions_of_words (j + 1) args Q) : t_questions_of_words (spR_questions_of_words j) (KD Q) (startE 4 args) := by
  obtain ⟨q, rfl, hq, hsz, k⟩ := h
  unfold t_questions_of_words
  cases q with
  | words kind ph points most =>
    rw [wordsQ] at k
    have k2 := fun os => (k os).2
    rw [show ([(kind, ph, points, most)].map wqD) = [PyData.tuple [.str "words", kD kind, phD ph, .int points, .int most]] from by rw [List.map_cons, List.map_nil, wqD, qD]] at k2
    rw [qD]
    refine seq_i fun Kc hK => ?_
    walk_at "go"
    subst hK
    refine seq_i fun Kc hK => ?_
    nomatch shq_words
    exact k2 _
  | neg q =>
    rw [wordsQ] at k
    rw [qD]
    refine seq_i fun Kc hK => ?_
    walk_at "go"
    subst hK
    refine seq_i fun Kc hK => ?_
    nomatch shq_not, shq_words, nq_not_words
    subst hK
    refine seq_i fun Kc hK => ?_
    nomatch shq_not
    cases j with
    | zero => exact (q0 (QOk_neg.mp hq)).elim
    | succ j =>
      refine ⟨q, rfl, QOk_neg.mp hq, size_neg hsz, fun os => ⟨?_, ?_⟩⟩
      · walk_at "go"
        exact (k _).1
      · walk_at "go"
        exact (k _).2
  | all b qs =>
    obtain ⟨hl8, hqs⟩ := QOk_all.mp hq
    have hwl := wq_len (.all b qs)
    rw [wordsQ] at k
    rw [q_all]
    cases b with
    | true =>
      rw [show wordB true = "and" from rfl]
      refine seq_i fun Kc hK => ?_
      walk_at "go"
      subst hK
      refine seq_i fun Kc hK => ?_
      nomatch shq_and, shq_words, nq_and_words
      subst hK
      refine seq_i fun Kc hK => ?_
      nomatch shq_and, shq_not, nq_and_not
      subst hK
      refine seq_i fun Kc hK => ?_
      walk_at "go"
      subst hK
      refine seq_i fun Kc hK => ?_
      nomatch shq_and
      refine for_i fun Kx hKx => ?_
      walk_at "go"
      refine hKx _ _ ⟨fun i env => ∃ x3, env = [some (.d (.tuple [.str "and", .tuple (qs.map qD)])), some (.d (.str "and")), some (.d (.list ((wordsQs (qs.take i)).map wqD))), x3], ⟨none, rfl⟩, fun i x env hx2 hP => ?_, fun env hP => ?_⟩
      · obtain ⟨x3, rfl⟩ := hP
        rw [List.getElem?_map] at hx2
        obtain ⟨q, hq2, rfl⟩ := Option.map_eq_some_iff.mp hx2
        have hm := List.mem_of_getElem? hq2
        have et : wordsQs (qs.take (i + 1)) = wordsQs (qs.take i) ++ wordsQ q := by rw [List.take_add_one, hq2]; exact wqs_snoc _ _
        have hsl : (wordsQs (qs.take i)).length + (wordsQ q).length ≤ 100 := by
          rw [← List.length_append, ← et]
          have h1 := wqs_len (qs.take (i + 1))
          have h2 : (sizesN (qs.take (i + 1))).sum ≤ (sizesN qs).sum := by
            rw [sizesN_map, sizesN_map]
            conv => rhs; rw [← List.take_append_drop (i + 1) qs, List.map_append, List.sum_append]
            omega
          rw [sizeN] at hsz
          omega
        refine ⟨by simp, ?_⟩
        simp only [List.set_cons_zero, List.set_cons_succ]
        walk_at "go"
        cases j with
        | zero => exact (q0 (hqs q hm)).elim
        | succ j =>
          refine ⟨q, rfl, hqs q hm, size_all hsz q hm, fun os => ⟨?_, ?_⟩⟩
          · walk_at "go"
            refine ⟨small_of (by omega), ?_⟩
            exact ⟨_, by rw [et, List.map_append]⟩
          · walk_at "go"
            refine ⟨small_of (by omega), ?_⟩
            exact ⟨_, by rw [et, List.map_append]⟩
      · obtain ⟨x3, rfl⟩ := hP
        rw [List.length_map, List.take_length]
        subst hK
        walk_at "go"
        exact (k _).1
    | false =>
      rw [show wordB false = "or" from rfl]
      refine seq_i fun Kc hK => ?_
      walk_at "go"
      subst hK
      refine seq_i fun Kc hK => ?_
      nomatch shq_or, shq_words, nq_or_words
      subst hK
      refine seq_i fun Kc hK => ?_
      nomatch shq_or, shq_not, nq_or_not
      subst hK
      refine seq_i fun Kc hK => ?_
      walk_at "go"
      subst hK
      refine seq_i fun Kc hK => ?_
      nomatch shq_and, shq_or, nq_or_and
      refine for_i fun Kx hKx => ?_
      walk_at "go"
      refine hKx _ _ ⟨fun i env => ∃ x3, env = [some (.d (.tuple [.str "or", .tuple (qs.map qD)])), some (.d (.str "or")), some (.d (.list ((wordsQs (qs.take i)).map wqD))), x3], ⟨none, rfl⟩, fun i x env hx2 hP => ?_, fun env hP => ?_⟩
      · obtain ⟨x3, rfl⟩ := hP
        rw [List.getElem?_map] at hx2
        obtain ⟨q, hq2, rfl⟩ := Option.map_eq_some_iff.mp hx2
        have hm := List.mem_of_getElem? hq2
        have et : wordsQs (qs.take (i + 1)) = wordsQs (qs.take i) ++ wordsQ q := by rw [List.take_add_one, hq2]; exact wqs_snoc _ _
        have hsl : (wordsQs (qs.take i)).length + (wordsQ q).length ≤ 100 := by
          rw [← List.length_append, ← et]
          have h1 := wqs_len (qs.take (i + 1))
          have h2 : (sizesN (qs.take (i + 1))).sum ≤ (sizesN qs).sum := by
            rw [sizesN_map, sizesN_map]
            conv => rhs; rw [← List.take_append_drop (i + 1) qs, List.map_append, List.sum_append]
            omega
          rw [sizeN] at hsz
          omega
        refine ⟨by simp, ?_⟩
        simp only [List.set_cons_zero, List.set_cons_succ]
        walk_at "go"
        cases j with
        | zero => exact (q0 (hqs q hm)).elim
        | succ j =>
          refine ⟨q, rfl, hqs q hm, size_all hsz q hm, fun os => ⟨?_, ?_⟩⟩
          · walk_at "go"
            refine ⟨small_of (by omega), ?_⟩
            exact ⟨_, by rw [et, List.map_append]⟩
          · walk_at "go"
            refine ⟨small_of (by omega), ?_⟩
            exact ⟨_, by rw [et, List.map_append]⟩
      · obtain ⟨x3, rfl⟩ := hP
        rw [List.length_map, List.take_length]
        subst hK
        walk_at "go"
        exact (k _).1
  | under t =>
    have k : ∀ os, Q (.d (.list [])) os ∧ Q (.l []) os := k
    rw [qD]
    refine seq_i fun Kc hK => ?_
    walk_at "go"
    subst hK
    refine seq_i fun Kc hK => ?_
    nomatch shq_under, shq_words, nq_under_words
    subst hK
    refine seq_i fun Kc hK => ?_
    nomatch shq_under, shq_not, nq_under_not
    subst hK
    refine seq_i fun Kc hK => ?_
    walk_at "go"
    subst hK
    refine seq_i fun Kc hK => ?_
    nomatch shq_and, shq_or, shq_under, nq_under_and, nq_under_or
    subst hK
    walk_at "go"
    exact (k _).1
  | links t =>
    have k : ∀ os, Q (.d (.list [])) os ∧ Q (.l []) os := k
    rw [qD]
    refine seq_i fun Kc hK => ?_
    walk_at "go"
    subst hK
    refine seq_i fun Kc hK => ?_
    nomatch shq_links, shq_words, nq_links_words
    subst hK
    refine seq_i fun Kc hK => ?_
    nomatch shq_links, shq_not, nq_links_not
    subst hK
    refine seq_i fun Kc hK => ?_
    walk_at "go"
    subst hK
    refine seq_i fun Kc hK => ?_
    nomatch shq_and, shq_or, shq_links, nq_links_and, nq_links_or
    subst hK
    walk_at "go"
    exact (k _).1
  | since n =>
    have k : ∀ os, Q (.d (.list [])) os ∧ Q (.l []) os := k
    rw [qD]
    refine seq_i fun Kc hK => ?_
    walk_at "go"
    subst hK
    refine seq_i fun Kc hK => ?_
    nomatch shq_since, shq_words, nq_since_words
    subst hK
    refine seq_i fun Kc hK => ?_
    nomatch shq_since, shq_not, nq_since_not
    subst hK
    refine seq_i fun Kc hK => ?_
    walk_at "go"
    subst hK
    refine seq_i fun Kc hK => ?_
    nomatch shq_and, shq_or, shq_since, nq_since_and, nq_since_or
    subst hK
    walk_at "go"
    exact (k _).1
theorem h_found (hl : args.length = 2) (h : sp_found args Q) : t_found (KD Q) (startE 3 args) := by
  obtain ⟨p, q, rfl, hp, hq, hsz, k⟩ := h
  have hwl := wq_len q
  unfold t_found
  rw [pgD]
  walk_at "go"
  refine lc_map (wordsQ q) wqD (fun x => tupN (placesN p.words x.1 x.2.1)) (fun R hR => ?_) (small_of (by omega)) (by simp [noOwn]) (fun x hx A B hA hB => ?_) ?_
  · walk_at "go"
    refine ⟨q, rfl, hq, hsz, fun os => ⟨?_, ?_⟩⟩
    · walk_at "go"
      exact hR
    · walk_at "go"
      exact hR
  · obtain ⟨kind, ph, points, most⟩ := x
    rw [wqD, qD]
    nomatch wipeE
    refine ⟨p.words, kind, ph, rfl, hp.2.1, wq_ok hq _ hx, fun os => ?_⟩
    nomatch mergeE
    exact ⟨hA, hB⟩
  walk_at "go"
  exact k _
theorem h_law_s_found {j : Nat} (hl : args.length = 2) (h : spR_law_s_found (j + 1) args Q) : t_law_s_found (spR_law_s_found j) (KD Q) (startE 4 args) := by
  obtain ⟨p, q, rfl, hp, hq, hsz, k⟩ := h
  unfold foundD at k
  unfold t_law_s_found
  cases q with
  | words kind ph points most =>
    rw [QOk] at hq
    rw [wordsQ] at k
    rw [qD, pgD]
    refine seq_i fun Kc hK => ?_
    nomatch shq_words
    refine ⟨p.words, kind, ph, rfl, hp.2.1, hq.2.1, fun os => ?_⟩
    walk_at "go"
    exact k _
  | neg q =>
    rw [wordsQ] at k
    rw [qD]
    refine seq_i fun Kc hK => ?_
    nomatch shq_not, shq_words, nq_not_words
    subst hK
    refine seq_i fun Kc hK => ?_
    nomatch shq_not
    cases j with
    | zero => exact (q0 (QOk_neg.mp hq)).elim
    | succ j =>
      refine ⟨p, q, rfl, hp, QOk_neg.mp hq, size_neg hsz, fun os => ?_⟩
      nomatch foundD
      exact k _
  | all b qs =>
    obtain ⟨hl8, hqs⟩ := QOk_all.mp hq
    rw [wordsQ] at k
    rw [q_all]
    cases b with
    | true =>
      rw [show wordB true = "and" from rfl]
      refine seq_i fun Kc hK => ?_
      nomatch shq_and, shq_words, nq_and_words
      subst hK
      refine seq_i fun Kc hK => ?_
      nomatch shq_and, shq_not, nq_and_not
      subst hK
      refine seq_i fun Kc hK => ?_
      walk_at "go"
      subst hK
      refine seq_i fun Kc hK => ?_
      nomatch shq_and, shl_ao, ao_and, decide_true
      refine for_i fun Kx hKx => ?_
      walk_at "go"
      refine hKx _ _ ⟨fun i env => ∃ x3, env = [some (.d (pgD p)), some (.d (.tuple [.str "and", .tuple (qs.map qD)])), some (.d (.tuple ((wordsQs (qs.take i)).map fun x => tupN (placesN p.words x.1 x.2.1)))), x3], ⟨none, rfl⟩, fun i x env hx2 hP => ?_, fun env hP => ?_⟩
      · obtain ⟨x3, rfl⟩ := hP
        rw [List.getElem?_map] at hx2
        obtain ⟨q, hq2, rfl⟩ := Option.map_eq_some_iff.mp hx2
        have hm := List.mem_of_getElem? hq2
        have et : wordsQs (qs.take (i + 1)) = wordsQs (qs.take i) ++ wordsQ q := by rw [List.take_add_one, hq2]; exact wqs_snoc _ _
        have hsl : (wordsQs (qs.take i)).length + (wordsQ q).length ≤ 100 := by
          rw [← List.length_append, ← et]
          have h1 := wqs_len (qs.take (i + 1))
          have h2 : (sizesN (qs.take (i + 1))).sum ≤ (sizesN qs).sum := by
            rw [sizesN_map, sizesN_map]
            conv => rhs; rw [← List.take_append_drop (i + 1) qs, List.map_append, List.sum_append]
            omega
          rw [sizeN] at hsz
          omega
        refine ⟨by simp, ?_⟩
        simp only [List.set_cons_zero, List.set_cons_succ]
        walk_at "go"
        cases j with
        | zero => exact (q0 (hqs q hm)).elim
        | succ j =>
          refine ⟨p, q, rfl, hp, hqs q hm, size_all hsz q hm, fun os => ?_⟩
          nomatch foundD
          refine ⟨small_of (by omega), ?_⟩
          exact ⟨_, by rw [et, List.map_append]⟩
      · obtain ⟨x3, rfl⟩ := hP
        rw [List.length_map, List.take_length]
        subst hK
        walk_at "go"
        exact k _
    | false =>
      rw [show wordB false = "or" from rfl]
      refine seq_i fun Kc hK => ?_
      nomatch shq_or, shq_words, nq_or_words
      subst hK
      refine seq_i fun Kc hK => ?_
      nomatch shq_or, shq_not, nq_or_not
      subst hK
      refine seq_i fun Kc hK => ?_
      walk_at "go"
      subst hK
      refine seq_i fun Kc hK => ?_
      nomatch shq_or, shl_ao, ao_or, decide_true
      refine for_i fun Kx hKx => ?_
      walk_at "go"
      refine hKx _ _ ⟨fun i env => ∃ x3, env = [some (.d (pgD p)), some (.d (.tuple [.str "or", .tuple (qs.map qD)])), some (.d (.tuple ((wordsQs (qs.take i)).map fun x => tupN (placesN p.words x.1 x.2.1)))), x3], ⟨none, rfl⟩, fun i x env hx2 hP => ?_, fun env hP => ?_⟩
      · obtain ⟨x3, rfl⟩ := hP
        rw [List.getElem?_map] at hx2
        obtain ⟨q, hq2, rfl⟩ := Option.map_eq_some_iff.mp hx2
        have hm := List.mem_of_getElem? hq2
        have et : wordsQs (qs.take (i + 1)) = wordsQs (qs.take i) ++ wordsQ q := by rw [List.take_add_one, hq2]; exact wqs_snoc _ _
        have hsl : (wordsQs (qs.take i)).length + (wordsQ q).length ≤ 100 := by
          rw [← List.length_append, ← et]
          have h1 := wqs_len (qs.take (i + 1))
          have h2 : (sizesN (qs.take (i + 1))).sum ≤ (sizesN qs).sum := by
            rw [sizesN_map, sizesN_map]
            conv => rhs; rw [← List.take_append_drop (i + 1) qs, List.map_append, List.sum_append]
            omega
          rw [sizeN] at hsz
          omega
        refine ⟨by simp, ?_⟩
        simp only [List.set_cons_zero, List.set_cons_succ]
        walk_at "go"
        cases j with
        | zero => exact (q0 (hqs q hm)).elim
        | succ j =>
          refine ⟨p, q, rfl, hp, hqs q hm, size_all hsz q hm, fun os => ?_⟩
          nomatch foundD
          refine ⟨small_of (by omega), ?_⟩
          exact ⟨_, by rw [et, List.map_append]⟩
      · obtain ⟨x3, rfl⟩ := hP
        rw [List.length_map, List.take_length]
        subst hK
        walk_at "go"
        exact k _
  | under t =>
    have k : ∀ os, Q (.d (.tuple [])) os := k
    rw [qD]
    refine seq_i fun Kc hK => ?_
    nomatch shq_under, shq_words, nq_under_words
    subst hK
    refine seq_i fun Kc hK => ?_
    nomatch shq_under, shq_not, nq_under_not
    subst hK
    refine seq_i fun Kc hK => ?_
    walk_at "go"
    subst hK
    refine seq_i fun Kc hK => ?_
    nomatch shq_under, shl_ao, ao_under, decide_false
    subst hK
    walk_at "go"
    exact k _
  | links t =>
    have k : ∀ os, Q (.d (.tuple [])) os := k
    rw [qD]
    refine seq_i fun Kc hK => ?_
    nomatch shq_links, shq_words, nq_links_words
    subst hK
    refine seq_i fun Kc hK => ?_
    nomatch shq_links, shq_not, nq_links_not
    subst hK
    refine seq_i fun Kc hK => ?_
    walk_at "go"
    subst hK
    refine seq_i fun Kc hK => ?_
    nomatch shq_links, shl_ao, ao_links, decide_false
    subst hK
    walk_at "go"
    exact k _
  | since n =>
    have k : ∀ os, Q (.d (.tuple [])) os := k
    rw [qD]
    refine seq_i fun Kc hK => ?_
    nomatch shq_since, shq_words, nq_since_words
    subst hK
    refine seq_i fun Kc hK => ?_
    nomatch shq_since, shq_not, nq_since_not
    subst hK
    refine seq_i fun Kc hK => ?_
    walk_at "go"
    subst hK
    refine seq_i fun Kc hK => ?_
    nomatch shq_since, shl_ao, ao_since, decide_false
    subst hK
    walk_at "go"
    exact k _
end
end Dlk33

set_option Elab.async false
set_option linter.all false
set_option maxRecDepth 100000
set_option maxHeartbeats 4000000
set_option autoImplicit false
namespace Dlk33
open PySem PySem.Spec L2 DL
local macro_rules | `(tactic| walk_at "go") => `(tactic| simp only [outE_i, outE_n, sz0, sz1, sz2, sz3, sz4, sz5, sz6, sz7, sz8, sz9, sz10, sz11, sz12, sz13, sz14, sz15, sz16, ↓tdFr, ↓frE, ↓rdDivmod, ↓rdNotIn, ↓tdTru, ↓rdMulW, ↓rdGcd, ↓rdRgV, ↓tdRgI, ↓tdEnum2, ↓tdZip2, ↓tdPar, ↓tdRevA, ↓tdRevR, ↓rdDivP, ↓tdTupRg, ↓tdSortSet, ↓tdRepV, ↓tdSwap, ↓rdLcm, ↓tdRepE, ↓rdSortedA, ↓rdMaxA, ↓rdInsert, ↓tdSw, ↓tdRevT, ↓rdSortedS, ↓startE, ↓tdSeq, ↓tdSet, ↓tdSetD, ↓tdDrop, ↓tdRet, ↓tdIfS, ↓tdNext, ↓tdAsg, ↓tdV, ↓tdC, ↓tdBin, ↓tdB, ↓tdCons, ↓tdNil, ↓tdTup, ↓tdLst, ↓tdTest, ↓tdAnd, ↓tdOr, ↓tdNot, ↓tdIf, ↓tdAndV, ↓tdOrV, ↓tdNotV, ↓tdNeg, ↓tdIsN, ↓tdNotN, ↓tdSl, ↓tdPart, ↓tdNoPart, ↓tdM, ↓tdSetIx, ↓tdAug, ↓tdPut, ↓tdGet2, ↓tdIsi, ↓tdListRg, ↓gdName, ↓gdNil, ↓gdCons, ↓gdTup, ↓tdIt, ↓tdRng1, ↓tdRng2, ↓tdCall, ↓tdNew, ↓tdJoin, ↓gcName, ↓gcNil, ↓gcCons, ↓gcTup, ↓tdYes, ↓res, ↓resR, ↓resAll, ↓rvD, ↓rdLen, ↓rdInt, ↓rdAbs, ↓rdMax2, ↓rdMin2, ↓rdOrd, ↓rdTuple, ↓rdList, ↓rdIx, ↓rdAdd, ↓rdSub, ↓rdMul, ↓rdMod, ↓rdDiv, ↓rdPow, ↓rdCmp, ↓rdEq, ↓rdNe, ↓rdIadd, ↓rdIn, ↓rdSorted, ↓rdSl, ↓isT, ↓rdAppend, ↓itemsOf, ↓rvOf, ↓argsOf, ↓argOf, Nat.reduceAdd, Nat.reduceLT, Nat.reduceSub, Int.reduceLT, Int.reduceLE, Int.reduceAdd, Int.reduceEq, Int.reduceNeg, Nat.reduceLeDiff, Nat.zero_add, Nat.reduceEqDiff, Nat.reduceBEq, ix41, ix42, ix43, ix40, List.length_cons, List.length_nil, List.map_cons, List.map_nil, List.replicate, List.cons_append, List.nil_append, List.getElem?_cons_zero, List.getElem?_cons_succ, List.set_cons_zero, List.set_cons_succ, Option.map_some, at0, at1, at2, at3, ix0, ix1, ix2, ix3, sh_int, sh_bl, sh_non, eqv_int, eqv_bl, eqv_str, decide_eq_true_eq, Bool.not_eq_true, Bool.not_true, Bool.not_false, Bool.false_eq_true, true_and, and_true, if_true, if_false, ite_true, ite_false, List.length_map, List.length_set, Sl.isD, List.mem_singleton, List.mem_cons, List.not_mem_nil, not_true_eq_false, not_false_eq_true, or_false])
local macro_rules | `(tactic| nomatch $xs,*) => `(tactic| simp only [$[$xs:term],*, outE_i, outE_n, sz0, sz1, sz2, sz3, sz4, sz5, sz6, sz7, sz8, sz9, sz10, sz11, sz12, sz13, sz14, sz15, sz16, ↓tdFr, ↓frE, ↓rdDivmod, ↓rdNotIn, ↓tdTru, ↓rdMulW, ↓rdGcd, ↓rdRgV, ↓tdRgI, ↓tdEnum2, ↓tdZip2, ↓tdPar, ↓tdRevA, ↓tdRevR, ↓rdDivP, ↓tdTupRg, ↓tdSortSet, ↓tdRepV, ↓tdSwap, ↓rdLcm, ↓tdRepE, ↓rdSortedA, ↓rdMaxA, ↓rdInsert, ↓tdSw, ↓tdRevT, ↓rdSortedS, ↓startE, ↓tdSeq, ↓tdSet, ↓tdSetD, ↓tdDrop, ↓tdRet, ↓tdIfS, ↓tdNext, ↓tdAsg, ↓tdV, ↓tdC, ↓tdBin, ↓tdB, ↓tdCons, ↓tdNil, ↓tdTup, ↓tdLst, ↓tdTest, ↓tdAnd, ↓tdOr, ↓tdNot, ↓tdIf, ↓tdAndV, ↓tdOrV, ↓tdNotV, ↓tdNeg, ↓tdIsN, ↓tdNotN, ↓tdSl, ↓tdPart, ↓tdNoPart, ↓tdM, ↓tdSetIx, ↓tdAug, ↓tdPut, ↓tdGet2, ↓tdIsi, ↓tdListRg, ↓gdName, ↓gdNil, ↓gdCons, ↓gdTup, ↓tdIt, ↓tdRng1, ↓tdRng2, ↓tdCall, ↓tdNew, ↓tdJoin, ↓gcName, ↓gcNil, ↓gcCons, ↓gcTup, ↓tdYes, ↓res, ↓resR, ↓resAll, ↓rvD, ↓rdLen, ↓rdInt, ↓rdAbs, ↓rdMax2, ↓rdMin2, ↓rdOrd, ↓rdTuple, ↓rdList, ↓rdIx, ↓rdAdd, ↓rdSub, ↓rdMul, ↓rdMod, ↓rdDiv, ↓rdPow, ↓rdCmp, ↓rdEq, ↓rdNe, ↓rdIadd, ↓rdIn, ↓rdSorted, ↓rdSl, ↓isT, ↓rdAppend, ↓itemsOf, ↓rvOf, ↓argsOf, ↓argOf, Nat.reduceAdd, Nat.reduceLT, Nat.reduceSub, Int.reduceLT, Int.reduceLE, Int.reduceAdd, Int.reduceEq, Int.reduceNeg, Nat.reduceLeDiff, Nat.zero_add, Nat.reduceEqDiff, Nat.reduceBEq, ix41, ix42, ix43, ix40, List.length_cons, List.length_nil, List.map_cons, List.map_nil, List.replicate, List.cons_append, List.nil_append, List.getElem?_cons_zero, List.getElem?_cons_succ, List.set_cons_zero, List.set_cons_succ, Option.map_some, at0, at1, at2, at3, ix0, ix1, ix2, ix3, sh_int, sh_bl, sh_non, eqv_int, eqv_bl, eqv_str, decide_eq_true_eq, Bool.not_eq_true, Bool.not_true, Bool.not_false, Bool.false_eq_true, true_and, and_true, if_true, if_false, ite_true, ite_false, List.length_map, List.length_set, Sl.isD, List.mem_singleton, List.mem_cons, List.not_mem_nil, not_true_eq_false, not_false_eq_true, or_false])
section
variable {ws : List Wp} {kind : Option Int}
theorem stand_one (m : Mem) (q : Nat) : stand ws kind [m] q = fitAt ws kind m q := by rw [stand]; simp
theorem stand_cons (m m2 : Mem) (r : List Mem) (q : Nat) : stand ws kind (m :: m2 :: r) q = (fitAt ws kind m q && (List.range ws.length).any fun o => decide (q < o ∧ o ≤ q + (m2.2.2 + 1)) && stand ws kind (m2 :: r) o) := by rw [stand]
/-- behind so many members from the end -/
def SB (ws : List Wp) (kind : Option Int) (ph : List Mem) (i q : Nat) : Bool := stand ws kind (ph.drop (ph.length - i)) q
theorem sb_zero (ph : List Mem) (q : Nat) : SB ws kind ph 0 q = true := by unfold SB; rw [Nat.sub_zero, List.drop_length, stand]
theorem sb_all (ph : List Mem) (q : Nat) : SB ws kind ph ph.length q = stand ws kind ph q := by unfold SB; rw [Nat.sub_self, List.drop_zero]
def mAt (ph : List Mem) (i : Nat) : Mem := (ph[i]?).getD ("", false, 0)
theorem mAt_get {ph : List Mem} {i : Nat} (hi : i < ph.length) : ph[i] = mAt ph i := by
  unfold mAt
  rw [List.getElem?_eq_getElem hi]
  rfl
theorem drop_at {ph : List Mem} {i : Nat} (hi : i < ph.length) : ph.drop (ph.length - (i + 1)) = mAt ph (ph.length - 1 - i) :: ph.drop (ph.length - i) := by
  have e : ph.length - (i + 1) = ph.length - 1 - i := by omega
  have e2 : ph.length - 1 - i + 1 = ph.length - i := by omega
  rw [e, List.drop_eq_getElem_cons (show ph.length - 1 - i < ph.length by omega), mAt_get, e2]
theorem sb_first {ph : List Mem} (hi : 0 < ph.length) (q : Nat) : SB ws kind ph 1 q = fitAt ws kind (mAt ph (ph.length - 1)) q := by
  unfold SB
  rw [drop_at (i := 0) hi, Nat.sub_zero, Nat.sub_zero, List.drop_length, stand_one]
theorem sb_next {ph : List Mem} {i : Nat} (hi : i < ph.length) (h0 : 0 < i) (q : Nat) : SB ws kind ph (i + 1) q = (fitAt ws kind (mAt ph (ph.length - 1 - i)) q && (List.range ws.length).any fun o => decide (q < o ∧ o ≤ q + ((mAt ph (ph.length - i)).2.2 + 1)) && SB ws kind ph i o) := by
  unfold SB
  rw [drop_at hi, List.drop_eq_getElem_cons (show ph.length - i < ph.length by omega), mAt_get, stand_cons]
theorem at_mem {ph : List Mem} {i : Nat} (hi : i < ph.length) : atI (ph.map mmD) (i : Int) = some (mmD (mAt ph i)) := atI_nat (by rw [List.getElem?_map, List.getElem?_eq_getElem hi, mAt_get]; rfl)
theorem at_wd {ws : List Wp} {i : Nat} (hi : i < ws.length) : atI (ws.map wpD) (i : Int) = some (wpD ws[i]) := atI_nat (by rw [List.getElem?_map, List.getElem?_eq_getElem hi]; rfl)
theorem fit_get {ws : List Wp} {kind : Option Int} {m : Mem} {i : Nat} (hi : i < ws.length) : fitAt ws kind m i = fitsB kind ws[i] m := by
  unfold fitAt
  rw [List.getElem?_eq_getElem hi]
theorem mAt_ok {ph : List Mem} (h : PhOk ph) {i : Nat} (hi : i < ph.length) : Tx' (mAt ph i).1 ∧ (mAt ph i).2.2 ≤ 9 := by
  rw [← mAt_get hi]
  exact h.2 _ (List.getElem_mem hi)
theorem rep_true (n : Nat) : (List.replicate ((n : Nat) : Int).toNat [PyData.bool true]).flatten = (List.range n).map fun _ => .bool true := by
  rw [Int.toNat_natCast]
  induction n with
  | zero => rfl
  | succ n ih => rw [List.replicate_succ', List.flatten_append, ih, List.range_succ, List.map_append]; rfl
theorem fits_rng (m : Mem) : ws.map (fun w => PyData.bool (fitsB kind w m)) = (List.range ws.length).map fun q => .bool (fitAt ws kind m q) := by
  refine List.ext_getElem (by simp) fun o h1 h2 => ?_
  rw [List.length_map] at h1
  rw [List.getElem_map, List.getElem_map, List.getElem_range]
  unfold fitAt
  rw [List.getElem?_eq_getElem h1]
theorem mem_cut {l : List Nat} {a k x : Nat} : x ∈ (l.drop a).take k ↔ ∃ i, i < k ∧ l[a + i]? = some x := by
  rw [List.mem_iff_getElem?]
  constructor
  · rintro ⟨i, hi⟩
    rw [List.getElem?_take] at hi
    split at hi
    · rw [List.getElem?_drop] at hi
      exact ⟨i, by assumption, hi⟩
    · cases hi
  · rintro ⟨i, hi, e⟩
    exact ⟨i, by rw [List.getElem?_take, if_pos hi, List.getElem?_drop]; exact e⟩
theorem cut_any (n q k : Nat) (F : Nat → Bool) : ∃ bs : List Bool, cutL ((List.range n).map fun o => PyData.bool (F o)) (some ((q : Int) + 1)) (some ((q : Int) + 1 + k)) = bs.map .bool ∧ bs.any id = (List.range n).any fun o => decide (q < o ∧ o ≤ q + k) && F o := by
  rw [cutL_map]
  refine ⟨(((List.range n).drop (min (q + 1) n)).take (min (q + 1 + k) n - min (q + 1) n)).map F, ?_, ?_⟩
  · rw [List.map_map]
    rw [show (q : Int) + 1 + k = ((q + 1 + k : Nat) : Int) by omega, show (q : Int) + 1 = ((q + 1 : Nat) : Int) by omega, sIx_k, sIx_k, List.length_range]
    rfl
  · rw [Bool.eq_iff_iff, List.any_eq_true, List.any_eq_true]
    constructor
    · rintro ⟨b, hb, e⟩
      obtain ⟨o, ho, rfl⟩ := List.mem_map.mp hb
      obtain ⟨i, hi, e2⟩ := mem_cut.mp ho
      obtain ⟨g1, g2⟩ := List.getElem?_eq_some_iff.mp e2
      rw [List.length_range] at g1
      rw [List.getElem_range] at g2
      refine ⟨o, List.mem_range.mpr (by omega), ?_⟩
      rw [decide_eq_true (show q < o ∧ o ≤ q + k by omega)]
      exact e
    · rintro ⟨o, ho, e⟩
      rw [Bool.and_eq_true] at e
      have hc := of_decide_eq_true e.1
      have hn := List.mem_range.mp ho
      refine ⟨F o, List.mem_map.mpr ⟨o, mem_cut.mpr ⟨o - (q + 1), by omega, ?_⟩, rfl⟩, e.2⟩
      have e3 : min (q + 1) n + (o - (q + 1)) = o := by omega
      rw [e3, List.getElem?_range hn]
end
section
variable {args : List Sl} {Q : Sl → (Nat → Option Sl) → Prop}
theorem at_rng {f : Nat → PyData} {n i : Nat} (h : i < n) : atI ((List.range n).map f) (i : Int) = some (f i) := atI_nat (by rw [List.getElem?_map, List.getElem?_range h]; rfl)
theorem enum_rng (f : Nat → PyData) (n : Nat) : enumL ((List.range n).map f) = (List.range n).map fun i : Nat => .tuple [.int i, f i] := by
  unfold enumL
  rw [List.length_map, List.length_range]
  refine List.ext_getElem (by simp) fun o h1 h2 => ?_
  simp
theorem h_places (hl : args.length = 3) (h : sp_places args Q) : t_places (KD Q) (startE 11 args) := by
  obtain ⟨ws, kind, ph, rfl, hw, hp, k⟩ := h
  have hwl := hw.1
  have hpl := hp.1
  have eph : ph.reverse.map mmD = (List.range ph.length).map fun i => mmD (mAt ph (ph.length - 1 - i)) := by
    refine List.ext_getElem (by simp) fun o h1 h2 => ?_
    rw [List.length_map, List.length_reverse] at h1
    rw [List.getElem_map, List.getElem_map, List.getElem_range, List.getElem_reverse, mAt_get]
  have rw2 : (ph.map mmD).reverse = ph.reverse.map mmD := (List.map_reverse).symm
  unfold t_places
  rw [wsD, phD]
  refine seq_i fun Kc hK => ?_
  walk_at "go"
  refine ⟨by omega, by omega, by rw [Int.toNat_natCast]; exact small_of (by omega), ?_⟩
  rw [rep_true]
  subst hK
  refine seq_i fun Kc hK => ?_
  refine for_i fun Kx hKx => ?_
  walk_at "go"
  rw [rw2, eph, enum_rng]
  refine hKx _ _ ⟨fun i env => ∃ x4 x5 x6 x8, env = [some (.d (.tuple (ws.map wpD))), some (.d (kD kind)), some (.d (.tuple (ph.map mmD))), some (.d (.list ((List.range ws.length).map fun q => .bool (SB ws kind ph i q)))), x4, x5, x6, none, x8, none, none], ⟨none, none, none, none, by simp only [sb_zero]⟩, fun i x env hx2 hP => ?_, fun env hP => ?_⟩
  · obtain ⟨x4, x5, x6, x8, rfl⟩ := hP
    rw [List.getElem?_map] at hx2
    obtain ⟨o, ho, rfl⟩ := Option.map_eq_some_iff.mp hx2
    obtain ⟨hi, ho3⟩ := List.getElem?_eq_some_iff.mp ho
    rw [List.length_range] at hi
    rw [List.getElem_range] at ho3
    subst ho3
    have hm := mAt_ok hp (show ph.length - 1 - i < ph.length by omega)
    simp only [↓gdCons, ↓gdName, ↓gdNil]
    refine ⟨by simp, by simp, ?_⟩
    simp only [↓gdCons, ↓gdName, ↓gdNil, List.set_cons_zero, List.set_cons_succ]
    refine ⟨by simp, ?_⟩
    refine seq_i fun Kc hK => ?_
    walk_at "go"
    refine lc_map ws wpD (fun w => .bool (fitsB kind w (mAt ph (ph.length - 1 - i)))) (fun R hR => ?_) (small_of (by omega)) (by simp [noOwn]) (fun w hw2 A B hA hB => ?_) ?_
    · walk_at "go"
      exact hR
    · nomatch wipeE
      refine ⟨w, kind, _, rfl, hw.2 w hw2, hm.1, fun os => ?_⟩
      nomatch mergeE
      exact ⟨hA, hB⟩
    rw [fits_rng]
    walk_at "go"
    subst hK
    refine seq_i fun Kc hK => ?_
    by_cases c : i = 0
    · subst c
      nomatch decide_false
      subst hK
      walk_at "go"
      rw [show (fun q => PyData.bool (fitAt ws kind (mAt ph (ph.length - 1 - 0)) q)) = fun q => PyData.bool (SB ws kind ph (0 + 1) q) from funext fun q => by rw [Nat.sub_zero, Nat.zero_add, sb_first (show 0 < ph.length by omega)]]
      exact ⟨_, _, _, _, rfl⟩
    · have c0 : (0 : Int) < (i : Nat) := by omega
      have ha := at_mem (show ph.length - i < ph.length by omega)
      rw [show ((ph.length - i : Nat) : Int) = (ph.length : Nat) - (i : Nat) by omega] at ha
      have hm2 := mAt_ok hp (show ph.length - i < ph.length by omega)
      nomatch c0, decide_true, ha, mmD
      refine lc_map (List.range ws.length) (fun q => .int (q : Nat)) (fun q => .bool (SB ws kind ph (i + 1) q)) (fun R hR => ?_) (small_of (by rw [List.length_range]; omega)) (by simp [noOwn]) (fun q hq A B hA hB => ?_) ?_
      · walk_at "go"
        rw [rng_map]
        exact ⟨by omega, hR⟩
      · have hq2 := List.mem_range.mp hq
        have a1 : atI ((List.range ws.length).map fun q => PyData.bool (fitAt ws kind (mAt ph (ph.length - 1 - i)) q)) (q : Int) = some (.bool (fitAt ws kind (mAt ph (ph.length - 1 - i)) q)) := at_rng (f := fun q => PyData.bool (fitAt ws kind (mAt ph (ph.length - 1 - i)) q)) hq2
        rw [sb_next hi (by omega)] at hB
        obtain ⟨bs, e1, e2⟩ := cut_any ws.length q ((mAt ph (ph.length - i)).2.2 + 1) (SB ws kind ph i)
        rw [show (((mAt ph (ph.length - i)).2.2 + 1 : Nat) : Int) = ((mAt ph (ph.length - i)).2.2 : Nat) + 1 by omega] at e1
        rw [← e2] at hB
        cases hb : fitAt ws kind (mAt ph (ph.length - 1 - i)) q with
        | false =>
          rw [hb] at hB
          nomatch wipeE, a1, hb, mergeE
          exact ⟨hA, hB⟩
        | true =>
          rw [hb] at hB
          nomatch wipeE, a1, hb
          refine ⟨bs, e1, ?_⟩
          nomatch mergeE
          exact ⟨hA, hB⟩
      walk_at "go"
      subst hK
      walk_at "go"
      exact ⟨_, _, _, _, rfl⟩
  · obtain ⟨x4, x5, x6, x8, rfl⟩ := hP
    rw [List.length_map, List.length_range]
    simp only [sb_all]
    subst hK
    walk_at "go"
    refine lc_if (List.range ws.length) (fun q => .tuple [.int (q : Nat), .bool (stand ws kind ph q)]) (fun q => .int (q : Nat)) (stand ws kind ph) (fun R hR => ?_) (small_of (by rw [List.length_range]; omega)) (by simp [noOwn]) (fun q hq A B C hA hB hC => ?_) ?_
    · nomatch enum_rng
      exact hR
    · cases hb : stand ws kind ph q with
      | false =>
        nomatch wipeE, mergeE, hb
        exact hB hb
      | true =>
        nomatch wipeE, mergeE, hb
        exact ⟨hA, hC hb⟩
    walk_at "go"
    exact k _
end
end Dlk33

set_option Elab.async false
set_option linter.all false
set_option maxRecDepth 100000
set_option maxHeartbeats 4000000
set_option autoImplicit false
namespace Dlk33
open PySem PySem.Spec L2 DL
local macro_rules | `(tactic| walk_at "go") => `(tactic| simp only [outE_i, outE_n, sz0, sz1, sz2, sz3, sz4, sz5, sz6, sz7, sz8, sz9, sz10, sz11, sz12, sz13, sz14, sz15, sz16, ↓tdFr, ↓frE, ↓rdDivmod, ↓rdNotIn, ↓tdTru, ↓rdMulW, ↓rdGcd, ↓rdRgV, ↓tdRgI, ↓tdEnum2, ↓tdZip2, ↓tdPar, ↓tdRevA, ↓tdRevR, ↓rdDivP, ↓tdTupRg, ↓tdSortSet, ↓tdRepV, ↓tdSwap, ↓rdLcm, ↓tdRepE, ↓rdSortedA, ↓rdMaxA, ↓rdInsert, ↓tdSw, ↓tdRevT, ↓rdSortedS, ↓startE, ↓tdSeq, ↓tdSet, ↓tdSetD, ↓tdDrop, ↓tdRet, ↓tdIfS, ↓tdNext, ↓tdAsg, ↓tdV, ↓tdC, ↓tdBin, ↓tdB, ↓tdCons, ↓tdNil, ↓tdTup, ↓tdLst, ↓tdTest, ↓tdAnd, ↓tdOr, ↓tdNot, ↓tdIf, ↓tdAndV, ↓tdOrV, ↓tdNotV, ↓tdNeg, ↓tdIsN, ↓tdNotN, ↓tdSl, ↓tdPart, ↓tdNoPart, ↓tdM, ↓tdSetIx, ↓tdAug, ↓tdPut, ↓tdGet2, ↓tdIsi, ↓tdListRg, ↓gdName, ↓gdNil, ↓gdCons, ↓gdTup, ↓tdIt, ↓tdRng1, ↓tdRng2, ↓tdCall, ↓tdNew, ↓tdJoin, ↓gcName, ↓gcNil, ↓gcCons, ↓gcTup, ↓tdYes, ↓res, ↓resR, ↓resAll, ↓rvD, ↓rdLen, ↓rdInt, ↓rdAbs, ↓rdMax2, ↓rdMin2, ↓rdOrd, ↓rdTuple, ↓rdList, ↓rdIx, ↓rdAdd, ↓rdSub, ↓rdMul, ↓rdMod, ↓rdDiv, ↓rdPow, ↓rdCmp, ↓rdEq, ↓rdNe, ↓rdIadd, ↓rdIn, ↓rdSorted, ↓rdSl, ↓isT, ↓rdAppend, ↓itemsOf, ↓rvOf, ↓argsOf, ↓argOf, Nat.reduceAdd, Nat.reduceLT, Nat.reduceSub, Int.reduceLT, Int.reduceLE, Int.reduceAdd, Int.reduceEq, Int.reduceNeg, Nat.reduceLeDiff, Nat.zero_add, Nat.reduceEqDiff, Nat.reduceBEq, ix41, ix42, ix43, ix40, List.length_cons, List.length_nil, List.map_cons, List.map_nil, List.replicate, List.cons_append, List.nil_append, List.getElem?_cons_zero, List.getElem?_cons_succ, List.set_cons_zero, List.set_cons_succ, Option.map_some, at0, at1, at2, at3, ix0, ix1, ix2, ix3, sh_int, sh_bl, sh_non, eqv_int, eqv_bl, eqv_str, decide_eq_true_eq, Bool.not_eq_true, Bool.not_true, Bool.not_false, Bool.false_eq_true, true_and, and_true, if_true, if_false, ite_true, ite_false, List.length_map, List.length_set, Sl.isD, List.mem_singleton, List.mem_cons, List.not_mem_nil, not_true_eq_false, not_false_eq_true, or_false])
local macro_rules | `(tactic| nomatch $xs,*) => `(tactic| simp only [$[$xs:term],*, outE_i, outE_n, sz0, sz1, sz2, sz3, sz4, sz5, sz6, sz7, sz8, sz9, sz10, sz11, sz12, sz13, sz14, sz15, sz16, ↓tdFr, ↓frE, ↓rdDivmod, ↓rdNotIn, ↓tdTru, ↓rdMulW, ↓rdGcd, ↓rdRgV, ↓tdRgI, ↓tdEnum2, ↓tdZip2, ↓tdPar, ↓tdRevA, ↓tdRevR, ↓rdDivP, ↓tdTupRg, ↓tdSortSet, ↓tdRepV, ↓tdSwap, ↓rdLcm, ↓tdRepE, ↓rdSortedA, ↓rdMaxA, ↓rdInsert, ↓tdSw, ↓tdRevT, ↓rdSortedS, ↓startE, ↓tdSeq, ↓tdSet, ↓tdSetD, ↓tdDrop, ↓tdRet, ↓tdIfS, ↓tdNext, ↓tdAsg, ↓tdV, ↓tdC, ↓tdBin, ↓tdB, ↓tdCons, ↓tdNil, ↓tdTup, ↓tdLst, ↓tdTest, ↓tdAnd, ↓tdOr, ↓tdNot, ↓tdIf, ↓tdAndV, ↓tdOrV, ↓tdNotV, ↓tdNeg, ↓tdIsN, ↓tdNotN, ↓tdSl, ↓tdPart, ↓tdNoPart, ↓tdM, ↓tdSetIx, ↓tdAug, ↓tdPut, ↓tdGet2, ↓tdIsi, ↓tdListRg, ↓gdName, ↓gdNil, ↓gdCons, ↓gdTup, ↓tdIt, ↓tdRng1, ↓tdRng2, ↓tdCall, ↓tdNew, ↓tdJoin, ↓gcName, ↓gcNil, ↓gcCons, ↓gcTup, ↓tdYes, ↓res, ↓resR, ↓resAll, ↓rvD, ↓rdLen, ↓rdInt, ↓rdAbs, ↓rdMax2, ↓rdMin2, ↓rdOrd, ↓rdTuple, ↓rdList, ↓rdIx, ↓rdAdd, ↓rdSub, ↓rdMul, ↓rdMod, ↓rdDiv, ↓rdPow, ↓rdCmp, ↓rdEq, ↓rdNe, ↓rdIadd, ↓rdIn, ↓rdSorted, ↓rdSl, ↓isT, ↓rdAppend, ↓itemsOf, ↓rvOf, ↓argsOf, ↓argOf, Nat.reduceAdd, Nat.reduceLT, Nat.reduceSub, Int.reduceLT, Int.reduceLE, Int.reduceAdd, Int.reduceEq, Int.reduceNeg, Nat.reduceLeDiff, Nat.zero_add, Nat.reduceEqDiff, Nat.reduceBEq, ix41, ix42, ix43, ix40, List.length_cons, List.length_nil, List.map_cons, List.map_nil, List.replicate, List.cons_append, List.nil_append, List.getElem?_cons_zero, List.getElem?_cons_succ, List.set_cons_zero, List.set_cons_succ, Option.map_some, at0, at1, at2, at3, ix0, ix1, ix2, ix3, sh_int, sh_bl, sh_non, eqv_int, eqv_bl, eqv_str, decide_eq_true_eq, Bool.not_eq_true, Bool.not_true, Bool.not_false, Bool.false_eq_true, true_and, and_true, if_true, if_false, ite_true, ite_false, List.length_map, List.length_set, Sl.isD, List.mem_singleton, List.mem_cons, List.not_mem_nil, not_true_eq_false, not_false_eq_true, or_false])
section
variable {args : List Sl} {Q : Sl → (Nat → Option Sl) → Prop}
theorem h_law_s_places (hl : args.length = 3) (h : sp_law_s_places args Q) : t_law_s_places (KD Q) (startE 9 args) := by
  obtain ⟨ws, kind, ph, rfl, hw, hp, k⟩ := h
  have hwl := hw.1
  have hpl := hp.1
  unfold t_law_s_places
  rw [wsD, phD]
  refine seq_i fun Kc hK => ?_
  walk_at "go"
  subst hK
  refine seq_i fun Kc hK => ?_
  refine for_i fun Kx hKx => ?_
  simp only [↓tdRng3, outE_i, outE_n, sz0, sz1, sz2, sz3, sz4, sz5, sz6, sz7, sz8, sz9, sz10, sz11, sz12, sz13, sz14, sz15, sz16, ↓tdFr, ↓frE, ↓rdDivmod, ↓rdNotIn, ↓tdTru, ↓rdMulW, ↓rdGcd, ↓rdRgV, ↓tdRgI, ↓tdEnum2, ↓tdZip2, ↓tdPar, ↓tdRevA, ↓tdRevR, ↓rdDivP, ↓tdTupRg, ↓tdSortSet, ↓tdRepV, ↓tdSwap, ↓rdLcm, ↓tdRepE, ↓rdSortedA, ↓rdMaxA, ↓rdInsert, ↓tdSw, ↓tdRevT, ↓rdSortedS, ↓startE, ↓tdSeq, ↓tdSet, ↓tdSetD, ↓tdDrop, ↓tdRet, ↓tdIfS, ↓tdNext, ↓tdAsg, ↓tdV, ↓tdC, ↓tdBin, ↓tdB, ↓tdCons, ↓tdNil, ↓tdTup, ↓tdLst, ↓tdTest, ↓tdAnd, ↓tdOr, ↓tdNot, ↓tdIf, ↓tdAndV, ↓tdOrV, ↓tdNotV, ↓tdNeg, ↓tdIsN, ↓tdNotN, ↓tdSl, ↓tdPart, ↓tdNoPart, ↓tdM, ↓tdSetIx, ↓tdAug, ↓tdPut, ↓tdGet2, ↓tdIsi, ↓tdListRg, ↓gdName, ↓gdNil, ↓gdCons, ↓gdTup, ↓tdIt, ↓tdRng1, ↓tdRng2, ↓tdCall, ↓tdNew, ↓tdJoin, ↓gcName, ↓gcNil, ↓gcCons, ↓gcTup, ↓tdYes, ↓res, ↓resR, ↓resAll, ↓rvD, ↓rdLen, ↓rdInt, ↓rdAbs, ↓rdMax2, ↓rdMin2, ↓rdOrd, ↓rdTuple, ↓rdList, ↓rdIx, ↓rdAdd, ↓rdSub, ↓rdMul, ↓rdMod, ↓rdDiv, ↓rdPow, ↓rdCmp, ↓rdEq, ↓rdNe, ↓rdIadd, ↓rdIn, ↓rdSorted, ↓rdSl, ↓isT, ↓rdAppend, ↓itemsOf, ↓rvOf, ↓argsOf, ↓argOf, Nat.reduceAdd, Nat.reduceLT, Nat.reduceSub, Int.reduceLT, Int.reduceLE, Int.reduceAdd, Int.reduceEq, Int.reduceNeg, Nat.reduceLeDiff, Nat.zero_add, Nat.reduceEqDiff, Nat.reduceBEq, ix41, ix42, ix43, ix40, List.length_cons, List.length_nil, List.map_cons, List.map_nil, List.replicate, List.cons_append, List.nil_append, List.getElem?_cons_zero, List.getElem?_cons_succ, List.set_cons_zero, List.set_cons_succ, Option.map_some, at0, at1, at2, at3, ix0, ix1, ix2, ix3, sh_int, sh_bl, sh_non, eqv_int, eqv_bl, eqv_str, decide_eq_true_eq, Bool.not_eq_true, Bool.not_true, Bool.not_false, Bool.false_eq_true, true_and, and_true, if_true, if_false, ite_true, ite_false, List.length_map, List.length_set, Sl.isD, List.mem_singleton, List.mem_cons, List.not_mem_nil, not_true_eq_false, not_false_eq_true, or_false]
  refine ⟨ph.length, ?_, ?_⟩
  · have := RgC.neg (i := (ph.length : Int) - 1) (j := -1) (by omega) (by omega) (by omega) (by omega)
    rwa [show ((ph.length : Int) - 1 - -1).toNat = ph.length by omega] at this
  rw [show rngC ((ph.length : Int) - 1) (-1) ph.length = (List.range ph.length).map fun i => PyData.int ((ph.length : Int) - 1 + (i : Nat) * (-1)) from rfl]
  refine hKx _ _ ⟨fun i env => ∃ x4 x5 x7, (∀ s, x4 = some s → s.isD = true) ∧ env = [some (.d (.tuple (ws.map wpD))), some (.d (kD kind)), some (.d (.tuple (ph.map mmD))), some (.d (.list (((List.range ws.length).filter fun q => decide (i ≠ 0) && SB ws kind ph i q).map fun q => .int (q : Nat)))), x4, x5, none, x7, none], ⟨none, none, none, (fun s h => by cases h), by simp⟩, fun i x env hx2 hP => ?_, fun env hP => ?_⟩
  · obtain ⟨x4, x5, x7, h4, rfl⟩ := hP
    rw [List.getElem?_map] at hx2
    obtain ⟨o, ho, rfl⟩ := Option.map_eq_some_iff.mp hx2
    obtain ⟨hi, ho3⟩ := List.getElem?_eq_some_iff.mp ho
    rw [List.length_range] at hi
    rw [List.getElem_range] at ho3
    subst ho3
    have ek : (ph.length : Int) - 1 + (i : Nat) * (-1) = ((ph.length - 1 - i : Nat) : Int) := by omega
    rw [ek]
    have hm := mAt_ok hp (show ph.length - 1 - i < ph.length by omega)
    have ha := at_mem (show ph.length - 1 - i < ph.length by omega)
    refine ⟨by simp, ?_⟩
    simp only [List.set_cons_zero, List.set_cons_succ]
    refine seq_i fun Kc hK => ?_
    walk_at "go"
    refine lc_if (List.range ws.length) (fun q => .int (q : Nat)) (fun q => .int (q : Nat)) (fitAt ws kind (mAt ph (ph.length - 1 - i))) (fun R hR => ?_) (small_of (by rw [List.length_range]; omega)) (by simp [noOwn]) (fun q hq A B C hA hB hC => ?_) ?_
    · walk_at "go"
      rw [rng_map]
      exact ⟨by omega, hR⟩
    · have hq2 := List.mem_range.mp hq
      have hf := fit_get (kind := kind) (m := mAt ph (ph.length - 1 - i)) hq2
      nomatch wipeE, at_wd hq2, ha
      refine ⟨ws[q], kind, _, rfl, hw.2 _ (List.getElem_mem hq2), hm.1, fun os => ?_⟩
      rw [← hf]
      cases hb : fitAt ws kind (mAt ph (ph.length - 1 - i)) q with
      | false =>
        nomatch mergeE
        exact hB hb
      | true =>
        nomatch mergeE
        exact ⟨hA, hC hb⟩
    walk_at "go"
    subst hK
    refine seq_i fun Kc hK => ?_
    by_cases c : i = 0
    · subst c
      have c0 : ¬ ((ph.length - 1 - 0 : Nat) : Int) < (ph.length : Int) - 1 := by omega
      nomatch c0, decide_false
      subst hK
      walk_at "go"
      have e : (List.range ws.length).filter (fitAt ws kind (mAt ph (ph.length - 1 - 0))) = (List.range ws.length).filter fun q => decide (0 + 1 ≠ 0) && SB ws kind ph (0 + 1) q := List.filter_congr fun q _ => by
        rw [decide_eq_true (show 0 + 1 ≠ 0 by omega), Bool.true_and, Nat.zero_add, sb_first (show 0 < ph.length by omega), Nat.sub_zero]
      rw [e]
      exact ⟨some (.d (.int ((ph.length - 1 - 0 : Nat) : Int))), _, _, (fun s h => by cases h; rfl), rfl⟩
    · have c0 : ((ph.length - 1 - i : Nat) : Int) < (ph.length : Int) - 1 := by omega
      have ha2 := at_mem (show ph.length - i < ph.length by omega)
      rw [show ((ph.length - i : Nat) : Int) = ((ph.length - 1 - i : Nat) : Int) + 1 by omega] at ha2
      have hll := List.length_filter_le (fitAt ws kind (mAt ph (ph.length - 1 - i))) (List.range ws.length)
      have hl2 := List.length_filter_le (fun q => decide (i ≠ 0) && SB ws kind ph i q) (List.range ws.length)
      rw [List.length_range] at hll hl2
      nomatch c0, decide_true, ha2, mmD
      refine lc_if ((List.range ws.length).filter (fitAt ws kind (mAt ph (ph.length - 1 - i)))) (fun q => .int (q : Nat)) (fun q => .int (q : Nat)) (fun q => (List.range ws.length).any fun o => decide (q < o ∧ o ≤ q + ((mAt ph (ph.length - i)).2.2 + 1)) && SB ws kind ph i o) (fun R hR => ?_) (small_of (by omega)) (by simp [noOwn]) (fun q hq A B C hA hB hC => ?_) ?_
      · walk_at "go"
        exact hR
      · nomatch wipeE
        refine lc_if ((List.range ws.length).filter fun q => decide (i ≠ 0) && SB ws kind ph i q) (fun o => .int (o : Nat)) (fun o => .int (o : Nat)) (fun o => decide (q < o ∧ o ≤ q + ((mAt ph (ph.length - i)).2.2 + 1))) (fun R hR => ?_) (small_of (by omega)) (by simp [noOwn]) (fun o ho A2 B2 C2 hA2 hB2 hC2 => ?_) ?_
        · walk_at "go"
          exact hR
        · by_cases d1 : q < o
          · have e1 : (q : Int) < (o : Nat) := by omega
            by_cases d2 : o ≤ q + ((mAt ph (ph.length - i)).2.2 + 1)
            · have e2 : (o : Int) - (q : Nat) ≤ 1 + ((mAt ph (ph.length - i)).2.2 : Nat) := by omega
              nomatch wipeE, e1, e2, decide_true, mergeE
              exact ⟨hA2, hC2 (decide_eq_true ⟨d1, d2⟩)⟩
            · have e2 : ¬ (o : Int) - (q : Nat) ≤ 1 + ((mAt ph (ph.length - i)).2.2 : Nat) := by omega
              nomatch wipeE, e1, e2, decide_true, decide_false, mergeE
              exact hB2 (decide_eq_false fun z => d2 z.2)
          · have e1 : ¬ (q : Int) < (o : Nat) := by omega
            nomatch wipeE, e1, decide_false, mergeE
            exact hB2 (decide_eq_false fun z => d1 z.1)
        have hany : (0 < (((List.range ws.length).filter fun q => decide (i ≠ 0) && SB ws kind ph i q).filter fun o => decide (q < o ∧ o ≤ q + ((mAt ph (ph.length - i)).2.2 + 1))).length) ↔ ((List.range ws.length).any fun o => decide (q < o ∧ o ≤ q + ((mAt ph (ph.length - i)).2.2 + 1)) && SB ws kind ph i o) = true := by
          rw [List.length_pos_iff_exists_mem, List.any_eq_true]
          constructor
          · rintro ⟨o, ho⟩
            obtain ⟨h1, h2⟩ := List.mem_filter.mp ho
            obtain ⟨h3, h4⟩ := List.mem_filter.mp h1
            rw [Bool.and_eq_true] at h4
            exact ⟨o, h3, by rw [h2, h4.2]; rfl⟩
          · rintro ⟨o, h3, h4⟩
            rw [Bool.and_eq_true] at h4
            exact ⟨o, List.mem_filter.mpr ⟨List.mem_filter.mpr ⟨h3, by rw [decide_eq_true c, h4.2]; rfl⟩, h4.1⟩⟩
        generalize (((List.range ws.length).filter fun q => decide (i ≠ 0) && SB ws kind ph i q).filter fun o => decide (q < o ∧ o ≤ q + ((mAt ph (ph.length - i)).2.2 + 1))) = L at hany ⊢
        by_cases d : 0 < L.length
        · have d0 : (0 : Int) < (L.length : Nat) := by omega
          nomatch d0, decide_true, mergeE
          exact ⟨hA, hC (hany.mp d)⟩
        · have d0 : ¬ (0 : Int) < (L.length : Nat) := by omega
          nomatch d0, decide_false, mergeE
          refine hB ?_
          cases hb : (List.range ws.length).any fun o => decide (q < o ∧ o ≤ q + ((mAt ph (ph.length - i)).2.2 + 1)) && SB ws kind ph i o with
          | false => rfl
          | true => exact absurd (hany.mpr hb) d
      walk_at "go"
      subst hK
      walk_at "go"
      have e : ((List.range ws.length).filter (fitAt ws kind (mAt ph (ph.length - 1 - i)))).filter (fun q => (List.range ws.length).any fun o => decide (q < o ∧ o ≤ q + ((mAt ph (ph.length - i)).2.2 + 1)) && SB ws kind ph i o) = (List.range ws.length).filter fun q => decide (i + 1 ≠ 0) && SB ws kind ph (i + 1) q := by
        rw [List.filter_filter]
        refine List.filter_congr fun q _ => ?_
        rw [decide_eq_true (show i + 1 ≠ 0 by omega), Bool.true_and, sb_next hi (by omega), Bool.and_comm]
      rw [e]
      exact ⟨some (.d (.int ((ph.length - 1 - i : Nat) : Int))), _, _, (fun s h => by cases h; rfl), rfl⟩
  · obtain ⟨x4, x5, x7, h4, rfl⟩ := hP
    rw [List.length_map, List.length_range]
    have e : (List.range ws.length).filter (fun q => decide (ph.length ≠ 0) && SB ws kind ph ph.length q) = placesN ws kind ph := by
      unfold placesN
      refine List.filter_congr fun q _ => ?_
      rw [decide_eq_true (show ph.length ≠ 0 by omega), sb_all, Bool.true_and]
    rw [e]
    subst hK
    walk_at "go"
    exact k _
end
end Dlk33

set_option Elab.async false
set_option linter.all false
set_option maxRecDepth 100000
set_option maxHeartbeats 4000000
set_option autoImplicit false
namespace Dlk33
open PySem PySem.Spec L2 DL
local macro_rules | `(tactic| walk_at "go") => `(tactic| simp only [outE_i, outE_n, sz0, sz1, sz2, sz3, sz4, sz5, sz6, sz7, sz8, sz9, sz10, sz11, sz12, sz13, sz14, sz15, sz16, ↓tdFr, ↓frE, ↓rdDivmod, ↓rdNotIn, ↓tdTru, ↓rdMulW, ↓rdGcd, ↓rdRgV, ↓tdRgI, ↓tdEnum2, ↓tdZip2, ↓tdPar, ↓tdRevA, ↓tdRevR, ↓rdDivP, ↓tdTupRg, ↓tdSortSet, ↓tdRepV, ↓tdSwap, ↓rdLcm, ↓tdRepE, ↓rdSortedA, ↓rdMaxA, ↓rdInsert, ↓tdSw, ↓tdRevT, ↓rdSortedS, ↓startE, ↓tdSeq, ↓tdSet, ↓tdSetD, ↓tdDrop, ↓tdRet, ↓tdIfS, ↓tdNext, ↓tdAsg, ↓tdV, ↓tdC, ↓tdBin, ↓tdB, ↓tdCons, ↓tdNil, ↓tdTup, ↓tdLst, ↓tdTest, ↓tdAnd, ↓tdOr, ↓tdNot, ↓tdIf, ↓tdAndV, ↓tdOrV, ↓tdNotV, ↓tdNeg, ↓tdIsN, ↓tdNotN, ↓tdSl, ↓tdPart, ↓tdNoPart, ↓tdM, ↓tdSetIx, ↓tdAug, ↓tdPut, ↓tdGet2, ↓tdIsi, ↓tdListRg, ↓gdName, ↓gdNil, ↓gdCons, ↓gdTup, ↓tdIt, ↓tdRng1, ↓tdRng2, ↓tdCall, ↓tdNew, ↓tdJoin, ↓gcName, ↓gcNil, ↓gcCons, ↓gcTup, ↓tdYes, ↓res, ↓resR, ↓resAll, ↓rvD, ↓rdLen, ↓rdInt, ↓rdAbs, ↓rdMax2, ↓rdMin2, ↓rdOrd, ↓rdTuple, ↓rdList, ↓rdIx, ↓rdAdd, ↓rdSub, ↓rdMul, ↓rdMod, ↓rdDiv, ↓rdPow, ↓rdCmp, ↓rdEq, ↓rdNe, ↓rdIadd, ↓rdIn, ↓rdSorted, ↓rdSl, ↓isT, ↓rdAppend, ↓itemsOf, ↓rvOf, ↓argsOf, ↓argOf, Nat.reduceAdd, Nat.reduceLT, Nat.reduceSub, Int.reduceLT, Int.reduceLE, Int.reduceAdd, Int.reduceEq, Int.reduceNeg, Nat.reduceLeDiff, Nat.zero_add, Nat.reduceEqDiff, Nat.reduceBEq, ix41, ix42, ix43, ix40, List.length_cons, List.length_nil, List.map_cons, List.map_nil, List.replicate, List.cons_append, List.nil_append, List.getElem?_cons_zero, List.getElem?_cons_succ, List.set_cons_zero, List.set_cons_succ, Option.map_some, at0, at1, at2, at3, ix0, ix1, ix2, ix3, sh_int, sh_bl, sh_non, eqv_int, eqv_bl, eqv_str, decide_eq_true_eq, Bool.not_eq_true, Bool.not_true, Bool.not_false, Bool.false_eq_true, true_and, and_true, if_true, if_false, ite_true, ite_false, List.length_map, List.length_set, Sl.isD, List.mem_singleton, List.mem_cons, List.not_mem_nil, not_true_eq_false, not_false_eq_true, or_false])
local macro_rules | `(tactic| nomatch $xs,*) => `(tactic| simp only [$[$xs:term],*, outE_i, outE_n, sz0, sz1, sz2, sz3, sz4, sz5, sz6, sz7, sz8, sz9, sz10, sz11, sz12, sz13, sz14, sz15, sz16, ↓tdFr, ↓frE, ↓rdDivmod, ↓rdNotIn, ↓tdTru, ↓rdMulW, ↓rdGcd, ↓rdRgV, ↓tdRgI, ↓tdEnum2, ↓tdZip2, ↓tdPar, ↓tdRevA, ↓tdRevR, ↓rdDivP, ↓tdTupRg, ↓tdSortSet, ↓tdRepV, ↓tdSwap, ↓rdLcm, ↓tdRepE, ↓rdSortedA, ↓rdMaxA, ↓rdInsert, ↓tdSw, ↓tdRevT, ↓rdSortedS, ↓startE, ↓tdSeq, ↓tdSet, ↓tdSetD, ↓tdDrop, ↓tdRet, ↓tdIfS, ↓tdNext, ↓tdAsg, ↓tdV, ↓tdC, ↓tdBin, ↓tdB, ↓tdCons, ↓tdNil, ↓tdTup, ↓tdLst, ↓tdTest, ↓tdAnd, ↓tdOr, ↓tdNot, ↓tdIf, ↓tdAndV, ↓tdOrV, ↓tdNotV, ↓tdNeg, ↓tdIsN, ↓tdNotN, ↓tdSl, ↓tdPart, ↓tdNoPart, ↓tdM, ↓tdSetIx, ↓tdAug, ↓tdPut, ↓tdGet2, ↓tdIsi, ↓tdListRg, ↓gdName, ↓gdNil, ↓gdCons, ↓gdTup, ↓tdIt, ↓tdRng1, ↓tdRng2, ↓tdCall, ↓tdNew, ↓tdJoin, ↓gcName, ↓gcNil, ↓gcCons, ↓gcTup, ↓tdYes, ↓res, ↓resR, ↓resAll, ↓rvD, ↓rdLen, ↓rdInt, ↓rdAbs, ↓rdMax2, ↓rdMin2, ↓rdOrd, ↓rdTuple, ↓rdList, ↓rdIx, ↓rdAdd, ↓rdSub, ↓rdMul, ↓rdMod, ↓rdDiv, ↓rdPow, ↓rdCmp, ↓rdEq, ↓rdNe, ↓rdIadd, ↓rdIn, ↓rdSorted, ↓rdSl, ↓isT, ↓rdAppend, ↓itemsOf, ↓rvOf, ↓argsOf, ↓argOf, Nat.reduceAdd, Nat.reduceLT, Nat.reduceSub, Int.reduceLT, Int.reduceLE, Int.reduceAdd, Int.reduceEq, Int.reduceNeg, Nat.reduceLeDiff, Nat.zero_add, Nat.reduceEqDiff, Nat.reduceBEq, ix41, ix42, ix43, ix40, List.length_cons, List.length_nil, List.map_cons, List.map_nil, List.replicate, List.cons_append, List.nil_append, List.getElem?_cons_zero, List.getElem?_cons_succ, List.set_cons_zero, List.set_cons_succ, Option.map_some, at0, at1, at2, at3, ix0, ix1, ix2, ix3, sh_int, sh_bl, sh_non, eqv_int, eqv_bl, eqv_str, decide_eq_true_eq, Bool.not_eq_true, Bool.not_true, Bool.not_false, Bool.false_eq_true, true_and, and_true, if_true, if_false, ite_true, ite_false, List.length_map, List.length_set, Sl.isD, List.mem_singleton, List.mem_cons, List.not_mem_nil, not_true_eq_false, not_false_eq_true, or_false])
theorem shw_places : SeqAt.shaped (.str "places") = true := by decide +kernel
theorem nw_places_score : (("places" : Str) = "score") = False := eq_false (by decide +kernel)
theorem nw_places_found : (("places" : Str) = "found") = False := eq_false (by decide +kernel)
theorem nw_places_size : (("places" : Str) = "size") = False := eq_false (by decide +kernel)
theorem shw_score : SeqAt.shaped (.str "score") = true := by decide +kernel
theorem nw_score_places : (("score" : Str) = "places") = False := eq_false (by decide +kernel)
theorem nw_score_found : (("score" : Str) = "found") = False := eq_false (by decide +kernel)
theorem nw_score_size : (("score" : Str) = "size") = False := eq_false (by decide +kernel)
theorem shw_found : SeqAt.shaped (.str "found") = true := by decide +kernel
theorem nw_found_places : (("found" : Str) = "places") = False := eq_false (by decide +kernel)
theorem nw_found_score : (("found" : Str) = "score") = False := eq_false (by decide +kernel)
theorem nw_found_size : (("found" : Str) = "size") = False := eq_false (by decide +kernel)
theorem shw_size : SeqAt.shaped (.str "size") = true := by decide +kernel
theorem nw_size_places : (("size" : Str) = "places") = False := eq_false (by decide +kernel)
theorem nw_size_score : (("size" : Str) = "score") = False := eq_false (by decide +kernel)
theorem nw_size_found : (("size" : Str) = "found") = False := eq_false (by decide +kernel)
theorem sb_tup {d : Nat} {xs : List PyData} (h : xs.length ≤ 1000) (h2 : ∀ x ∈ xs, sameB d x = true) : sameB (d + 1) (.tuple xs) = true := by
  rw [sameB, decide_eq_true (small_of h), Bool.true_and, List.all_eq_true]
  exact h2
theorem sb_int (d : Nat) (i : Int) : sameB d (.int i) = true := by cases d <;> rfl
theorem sb_k (d : Nat) (o : Option Int) : sameB d (kD o) = true := by
  cases o with
  | none => cases d <;> rfl
  | some z => exact sb_int d z
theorem sb_tupN (S : List Nat) (h : S.length ≤ 1000) (d : Nat) : sameB (d + 1) (tupN S) = true := by
  refine sb_tup (by rw [List.length_map]; omega) fun x hx => ?_
  obtain ⟨o, ho, rfl⟩ := List.mem_map.mp hx
  exact sb_int _ _
theorem pl_len (ws : List Wp) (kind : Option Int) (ph : List Mem) : (placesN ws kind ph).length ≤ ws.length := by
  have := List.length_filter_le (stand ws kind ph) (List.range ws.length)
  rwa [List.length_range] at this
theorem sb_due {w : Str} {t s d : PyData} (h : Due w t s d) : sameB 5 d = true := by
  cases h with
  | places ws kind ph points most h1 h2 =>
    have := pl_len ws kind ph
    have := h1.1
    exact sb_tupN _ (by omega) 4
  | score p q h1 h2 => exact sb_k 5 _
  | found p q h1 h2 h3 =>
    have := wq_len q
    refine sb_tup (by rw [List.length_map]; omega) fun x hx => ?_
    obtain ⟨o, ho, rfl⟩ := List.mem_map.mp hx
    have := pl_len p.words o.1 o.2.1
    have := h1.2.1.1
    exact sb_tupN _ (by omega) 3
  | size t q h1 => exact sb_int 5 _
theorem same_i {x : PyData} {R : Sl → (Nat → Option Sl) → Prop} (h : sameB 5 x = true) (k : ∀ os, R (.d (.bool true)) os) : sp_law_same [.d x, .d x] R := ⟨x, rfl, h, k⟩
theorem cutS_le (z : Str) (lo hi : Option Int) : (cutS z lo hi).length ≤ z.length := by
  unfold cutS
  show (List.toArray _).size ≤ z.cps.size
  rw [List.size_toArray, List.length_take, List.length_drop, Array.length_toList]
  omega
theorem tx_cut {z : Str} (h : Tx' z) (lo hi : Option Int) : Tx' (cutS z lo hi) := ⟨Nat.le_trans (cutS_le z lo hi) h.1, sg_cut h.2 lo hi⟩
def SIG : Str := "abcdefghijklmnopqrstuvwxyz0123456789"
theorem sig_ok : Sg SIG ∧ SIG.length = 36 := by unfold Sg; decide +kernel
section
variable {args : List Sl} {Q : Sl → (Nat → Option Sl) → Prop}
theorem h_law_told (hl : args.length = 3) (h : sp_law_told args Q) : t_law_told (KD Q) (startE 3 args) := by
  obtain ⟨w, t, s, d, rfl, hd, k⟩ := h
  unfold t_law_told
  cases hd with
  | places ws kind ph points most h1 h2 =>
    rw [qD]
    refine seq_i fun Kc hK => ?_
    nomatch shw_places
    refine ⟨ws, kind, ph, rfl, h1, h2, fun os => ?_⟩
    walk_at "go"
    exact k _
  | score p q h1 h2 =>
    refine seq_i fun Kc hK => ?_
    nomatch shw_score, shw_places, nw_score_places
    subst hK
    refine seq_i fun Kc hK => ?_
    nomatch shw_score
    refine ⟨p, q, 9, rfl, h1, h2, by decide, fun os => ?_⟩
    walk_at "go"
    exact k _
  | found p q h1 h2 h3 =>
    refine seq_i fun Kc hK => ?_
    nomatch shw_found, shw_places, nw_found_places
    subst hK
    refine seq_i fun Kc hK => ?_
    nomatch shw_found, shw_score, nw_found_score
    subst hK
    refine seq_i fun Kc hK => ?_
    nomatch shw_found
    refine ⟨p, q, rfl, h1, h2, h3, fun os => ?_⟩
    walk_at "go"
    exact k _
  | size t q h1 =>
    refine seq_i fun Kc hK => ?_
    nomatch shw_size, shw_places, nw_size_places
    subst hK
    refine seq_i fun Kc hK => ?_
    nomatch shw_size, shw_score, nw_size_score
    subst hK
    refine seq_i fun Kc hK => ?_
    nomatch shw_size, shw_found, nw_size_found
    subst hK
    walk_at "go"
    refine ⟨q, rfl, h1, fun os => ?_⟩
    walk_at "go"
    exact k _
theorem h_law_case (hl : args.length = 3) (h : sp_law_case args Q) : t_law_case (KD Q) (startE 3 args) := by
  obtain ⟨w, t, s, d, rfl, hd, k⟩ := h
  unfold t_law_case
  cases hd with
  | places ws kind ph points most h1 h2 =>
    rw [qD]
    refine seq_i fun Kc hK => ?_
    nomatch shw_places
    refine ⟨ws, kind, ph, rfl, h1, h2, fun os => ?_⟩
    walk_at "go"
    rw [qD] at k
    exact k _
  | score p q h1 h2 =>
    refine seq_i fun Kc hK => ?_
    nomatch shw_score, shw_places, nw_score_places
    subst hK
    refine seq_i fun Kc hK => ?_
    nomatch shw_score
    refine ⟨p, q, rfl, h1, h2, fun os => ?_⟩
    walk_at "go"
    exact k _
  | found p q h1 h2 h3 =>
    refine seq_i fun Kc hK => ?_
    nomatch shw_found, shw_places, nw_found_places
    subst hK
    refine seq_i fun Kc hK => ?_
    nomatch shw_found, shw_score, nw_found_score
    subst hK
    refine seq_i fun Kc hK => ?_
    nomatch shw_found
    refine ⟨p, q, rfl, h1, h2, h3, fun os => ?_⟩
    walk_at "go"
    exact k _
  | size t q h1 =>
    refine seq_i fun Kc hK => ?_
    nomatch shw_size, shw_places, nw_size_places
    subst hK
    refine seq_i fun Kc hK => ?_
    nomatch shw_size, shw_score, nw_size_score
    subst hK
    refine seq_i fun Kc hK => ?_
    nomatch shw_size, shw_found, nw_size_found
    subst hK
    walk_at "go"
    refine ⟨q, rfl, h1, fun os => ?_⟩
    walk_at "go"
    exact k _
theorem h_law_right (hl : args.length = 1) (h : sp_law_right args Q) : t_law_right (KD Q) (startE 1 args) := by
  obtain ⟨c, rfl, ⟨w, t, s, d, rfl, hd⟩, k⟩ := h
  unfold t_law_right
  walk_at "go"
  refine ⟨w, t, s, d, rfl, hd, fun os => ?_⟩
  walk_at "go"
  refine same_i (sb_due hd) fun os => ?_
  walk_at "go"
  exact k _
theorem h_law_vocabulary (hl : args.length = 1) (h : sp_law_vocabulary args Q) : t_law_vocabulary (KD Q) (startE 4 args) := by
  obtain ⟨tp, rfl, ht, k⟩ := h
  unfold t_law_vocabulary
  refine seq_i fun Kc hK => ?_
  walk_at "go"
  refine pick_map .str ["", "", "run"] (fun z => z.length ≤ 3 ∧ Sg z) (by rfl) (by decide) ht (by unfold Sg; decide +kernel) fun stem tp1 _ t1 hs => ?_
  walk_at "go"
  subst hK
  refine seq_i fun Kc hK => ?_
  walk_at "go"
  subst hK
  walk_at "go"
  refine lc_inv (fun xs => (6 ≤ xs.length ∧ xs.length ≤ 10) ∧ ∀ x ∈ xs, ∃ z : Str, x = .str z ∧ z.length ≤ 12 ∧ Sg z) (fun env => ∃ tp w, TapeOk tp ∧ env = [some (.l (tp)), some (.d (.str stem)), some (.d (w)), none]) (fun y => ∃ z : Str, y = .str z ∧ Tx' z) (fun R hR => ?_) (fun xs hP => ?_) (fun xs x hP hx env hJ => ?_) (fun xs env acc hP hJ hlen hY => ?_)
  · walk_at "go"
    refine ⟨tp1, _, (["fox", "red", "a", "b2", "7", "home", "runs", "foxes", "abcdefghijkl", "the"] : List Str).map .str, rfl, .inl rfl, by simp, t1, fun ys tp2 os hp t2 e2 => ?_⟩
    rw [← ios_eq e2]
    walk_at "go"
    refine draw_i (by first | decide | omega) (by assumption) (by first | decide | omega) fun d tp3 _ t3 d0 d1 => ?_
    obtain ⟨dn, rfl⟩ : ∃ n : Nat, d = n := ⟨d.toNat, by omega⟩
    walk_at "go"
    have hyl : ys.length = 10 := by rw [hp.length_eq]; rfl
    have hc := cut_lo id ys (6 + dn)
    rw [List.map_id_fun, id_eq, id_eq, show ((6 + dn : Nat) : Int) = 6 + (dn : Nat) by omega] at hc
    rw [hc]
    refine hR _ _ ⟨⟨by rw [List.length_take]; omega, by rw [List.length_take]; omega⟩, fun x hx => ?_⟩ ⟨_, _, t3, rfl⟩
    obtain ⟨z, hz, rfl⟩ := List.mem_map.mp (hp.mem_iff.mp (List.mem_of_mem_take hx))
    have key : ∀ z ∈ (["fox", "red", "a", "b2", "7", "home", "runs", "foxes", "abcdefghijkl", "the"] : List Str), z.length ≤ 12 ∧ Sg z := by unfold Sg; decide +kernel
    exact ⟨z, rfl, key z hz⟩
  · exact small_of (by omega)
  · obtain ⟨tp, w, ht, rfl⟩ := hJ
    obtain ⟨z, rfl, hz1, hz2⟩ := hP.2 x hx
    refine ⟨by simp [noOwn], fun A B hA hB => ?_⟩
    have la := len_app stem z
    nomatch wipeE
    refine ⟨small_of (by omega), small_of (by omega), ?_⟩
    nomatch mergeE
    exact ⟨hA, hB _ _ ⟨_, _, ht, rfl⟩ ⟨_, rfl, tx_cut ⟨by omega, sg_app hs.2 hz2⟩ _ _⟩⟩
  obtain ⟨tp3, w, t3, rfl⟩ := hJ
  obtain ⟨zs, rfl, hz⟩ := strs_of hY
  rw [List.length_map] at hlen
  walk_at "go"
  exact k zs _ _ (by omega) hz t3 rfl
theorem h_law_some_words (hl : args.length = 3) (h : sp_law_some_words args Q) : t_law_some_words (KD Q) (startE 4 args) := by
  obtain ⟨tp, zs, most, rfl, hz, hzt, hm, ht, k⟩ := h
  unfold t_law_some_words
  rw [strsD]
  walk_at "go"
  refine lc_inv (fun xs => ∃ n : Int, xs = rngL 0 n ∧ 0 ≤ n ∧ n ≤ 8) (fun env => ∃ tp, TapeOk tp ∧ env = [some (.l (tp)), some (.d (.list (zs.map .str))), some (.d (.int most)), none]) (fun y => ∃ z : Str, y = .str z ∧ Tx' z) (fun R hR => ?_) (fun xs hP => ?_) (fun xs x hP hx env hJ => ?_) (fun xs env acc hP hJ hlen hY => ?_)
  · walk_at "go"
    refine draw_i (by first | decide | omega) (by assumption) (by first | decide | omega) fun n tp3 _ t3 n0 n1 => ?_
    walk_at "go"
    exact ⟨⟨by omega, by omega⟩, hR _ _ ⟨_, rfl, by omega, by omega⟩ ⟨_, t3, rfl⟩⟩
  · obtain ⟨n, rfl, n1, n2⟩ := hP
    rw [rng_len]
    exact small_of (by omega)
  · obtain ⟨tp, ht, rfl⟩ := hJ
    refine ⟨by simp [noOwn], fun A B hA hB => ?_⟩
    nomatch wipeE
    refine pick_map .str zs Tx' (by rfl) (by omega) ht hzt fun z tp4 _ t4 hz4 => ?_
    nomatch mergeE
    exact ⟨hA, hB _ _ ⟨_, t4, rfl⟩ ⟨_, rfl, hz4⟩⟩
  obtain ⟨n, rfl, n1, n2⟩ := hP
  obtain ⟨tp3, t3, rfl⟩ := hJ
  rw [rng_len] at hlen
  obtain ⟨ys, rfl, hy⟩ := strs_of hY
  rw [List.length_map] at hlen
  walk_at "go"
  exact k ys _ _ (by omega) hy t3 rfl
end
end Dlk33

set_option Elab.async false
set_option linter.all false
set_option maxRecDepth 100000
set_option maxHeartbeats 4000000
set_option autoImplicit false
namespace Dlk33
open PySem PySem.Spec L2 DL
local macro_rules | `(tactic| walk_at "go") => `(tactic| simp only [outE_i, outE_n, sz0, sz1, sz2, sz3, sz4, sz5, sz6, sz7, sz8, sz9, sz10, sz11, sz12, sz13, sz14, sz15, sz16, ↓tdFr, ↓frE, ↓rdDivmod, ↓rdNotIn, ↓tdTru, ↓rdMulW, ↓rdGcd, ↓rdRgV, ↓tdRgI, ↓tdEnum2, ↓tdZip2, ↓tdPar, ↓tdRevA, ↓tdRevR, ↓rdDivP, ↓tdTupRg, ↓tdSortSet, ↓tdRepV, ↓tdSwap, ↓rdLcm, ↓tdRepE, ↓rdSortedA, ↓rdMaxA, ↓rdInsert, ↓tdSw, ↓tdRevT, ↓rdSortedS, ↓startE, ↓tdSeq, ↓tdSet, ↓tdSetD, ↓tdDrop, ↓tdRet, ↓tdIfS, ↓tdNext, ↓tdAsg, ↓tdV, ↓tdC, ↓tdBin, ↓tdB, ↓tdCons, ↓tdNil, ↓tdTup, ↓tdLst, ↓tdTest, ↓tdAnd, ↓tdOr, ↓tdNot, ↓tdIf, ↓tdAndV, ↓tdOrV, ↓tdNotV, ↓tdNeg, ↓tdIsN, ↓tdNotN, ↓tdSl, ↓tdPart, ↓tdNoPart, ↓tdM, ↓tdSetIx, ↓tdAug, ↓tdPut, ↓tdGet2, ↓tdIsi, ↓tdListRg, ↓gdName, ↓gdNil, ↓gdCons, ↓gdTup, ↓tdIt, ↓tdRng1, ↓tdRng2, ↓tdCall, ↓tdNew, ↓tdJoin, ↓gcName, ↓gcNil, ↓gcCons, ↓gcTup, ↓tdYes, ↓res, ↓resR, ↓resAll, ↓rvD, ↓rdLen, ↓rdInt, ↓rdAbs, ↓rdMax2, ↓rdMin2, ↓rdOrd, ↓rdTuple, ↓rdList, ↓rdIx, ↓rdAdd, ↓rdSub, ↓rdMul, ↓rdMod, ↓rdDiv, ↓rdPow, ↓rdCmp, ↓rdEq, ↓rdNe, ↓rdIadd, ↓rdIn, ↓rdSorted, ↓rdSl, ↓isT, ↓rdAppend, ↓itemsOf, ↓rvOf, ↓argsOf, ↓argOf, Nat.reduceAdd, Nat.reduceLT, Nat.reduceSub, Int.reduceLT, Int.reduceLE, Int.reduceAdd, Int.reduceEq, Int.reduceNeg, Nat.reduceLeDiff, Nat.zero_add, Nat.reduceEqDiff, Nat.reduceBEq, ix41, ix42, ix43, ix40, List.length_cons, List.length_nil, List.map_cons, List.map_nil, List.replicate, List.cons_append, List.nil_append, List.getElem?_cons_zero, List.getElem?_cons_succ, List.set_cons_zero, List.set_cons_succ, Option.map_some, at0, at1, at2, at3, ix0, ix1, ix2, ix3, sh_int, sh_bl, sh_non, eqv_int, eqv_bl, eqv_str, decide_eq_true_eq, Bool.not_eq_true, Bool.not_true, Bool.not_false, Bool.false_eq_true, true_and, and_true, if_true, if_false, ite_true, ite_false, List.length_map, List.length_set, Sl.isD, List.mem_singleton, List.mem_cons, List.not_mem_nil, not_true_eq_false, not_false_eq_true, or_false])
local macro_rules | `(tactic| nomatch $xs,*) => `(tactic| simp only [$[$xs:term],*, outE_i, outE_n, sz0, sz1, sz2, sz3, sz4, sz5, sz6, sz7, sz8, sz9, sz10, sz11, sz12, sz13, sz14, sz15, sz16, ↓tdFr, ↓frE, ↓rdDivmod, ↓rdNotIn, ↓tdTru, ↓rdMulW, ↓rdGcd, ↓rdRgV, ↓tdRgI, ↓tdEnum2, ↓tdZip2, ↓tdPar, ↓tdRevA, ↓tdRevR, ↓rdDivP, ↓tdTupRg, ↓tdSortSet, ↓tdRepV, ↓tdSwap, ↓rdLcm, ↓tdRepE, ↓rdSortedA, ↓rdMaxA, ↓rdInsert, ↓tdSw, ↓tdRevT, ↓rdSortedS, ↓startE, ↓tdSeq, ↓tdSet, ↓tdSetD, ↓tdDrop, ↓tdRet, ↓tdIfS, ↓tdNext, ↓tdAsg, ↓tdV, ↓tdC, ↓tdBin, ↓tdB, ↓tdCons, ↓tdNil, ↓tdTup, ↓tdLst, ↓tdTest, ↓tdAnd, ↓tdOr, ↓tdNot, ↓tdIf, ↓tdAndV, ↓tdOrV, ↓tdNotV, ↓tdNeg, ↓tdIsN, ↓tdNotN, ↓tdSl, ↓tdPart, ↓tdNoPart, ↓tdM, ↓tdSetIx, ↓tdAug, ↓tdPut, ↓tdGet2, ↓tdIsi, ↓tdListRg, ↓gdName, ↓gdNil, ↓gdCons, ↓gdTup, ↓tdIt, ↓tdRng1, ↓tdRng2, ↓tdCall, ↓tdNew, ↓tdJoin, ↓gcName, ↓gcNil, ↓gcCons, ↓gcTup, ↓tdYes, ↓res, ↓resR, ↓resAll, ↓rvD, ↓rdLen, ↓rdInt, ↓rdAbs, ↓rdMax2, ↓rdMin2, ↓rdOrd, ↓rdTuple, ↓rdList, ↓rdIx, ↓rdAdd, ↓rdSub, ↓rdMul, ↓rdMod, ↓rdDiv, ↓rdPow, ↓rdCmp, ↓rdEq, ↓rdNe, ↓rdIadd, ↓rdIn, ↓rdSorted, ↓rdSl, ↓isT, ↓rdAppend, ↓itemsOf, ↓rvOf, ↓argsOf, ↓argOf, Nat.reduceAdd, Nat.reduceLT, Nat.reduceSub, Int.reduceLT, Int.reduceLE, Int.reduceAdd, Int.reduceEq, Int.reduceNeg, Nat.reduceLeDiff, Nat.zero_add, Nat.reduceEqDiff, Nat.reduceBEq, ix41, ix42, ix43, ix40, List.length_cons, List.length_nil, List.map_cons, List.map_nil, List.replicate, List.cons_append, List.nil_append, List.getElem?_cons_zero, List.getElem?_cons_succ, List.set_cons_zero, List.set_cons_succ, Option.map_some, at0, at1, at2, at3, ix0, ix1, ix2, ix3, sh_int, sh_bl, sh_non, eqv_int, eqv_bl, eqv_str, decide_eq_true_eq, Bool.not_eq_true, Bool.not_true, Bool.not_false, Bool.false_eq_true, true_and, and_true, if_true, if_false, ite_true, ite_false, List.length_map, List.length_set, Sl.isD, List.mem_singleton, List.mem_cons, List.not_mem_nil, not_true_eq_false, not_false_eq_true, or_false])
theorem ifs_any {c : TDT} {t u : TDS} {D : DE} {env : En} (P : Bool → En → Prop) (h : ∀ K : Bool → En → Prop, (∀ b e, P b e → K b e) → c env K) (g : ∀ e, P true e → t D e) (g2 : ∀ e, P false e → u D e) : tdIfS c t u D env := h _ fun b e hp => by
  cases b with
  | true => rw [if_pos rfl]; exact g e hp
  | false => rw [if_neg (by decide)]; exact g2 e hp
theorem sh_strs {zs : List Str} (h : ∀ z ∈ zs, Tx' z) : SeqAt.shaped (.list (zs.map PyData.str)) = true := (sh_map PyData.str zs fun z hz => lay_str (h z hz).2).1
section
variable {args : List Sl} {Q : Sl → (Nat → Option Sl) → Prop}
theorem h_law_b_addresses (hl : args.length = 2) (h : sp_law_b_addresses args Q) : t_law_b_addresses (KD Q) (startE 8 args) := by
  obtain ⟨tp, m, rfl, hm, ht, k⟩ := h
  unfold t_law_b_addresses
  refine seq_i fun Kc hK => ?_
  walk_at "go"
  refine pick_map .str ["a.b/", "a.b/x", "x-1.org/", "y.net/long_name/a"] (fun z => z.length ≤ 17 ∧ Sg z) (by rfl) (by decide) ht (by unfold Sg; decide +kernel) fun stem tp1 _ t1 hs => ?_
  walk_at "go"
  subst hK
  refine seq_i fun Kc hK => ?_
  walk_at "go"
  refine pick_map .str ["c.d/", "a.b.c/", "a.b/x/", "y.net/"] (fun z => z.length ≤ 17 ∧ Sg z) (by rfl) (by decide) t1 (by unfold Sg; decide +kernel) fun other tp2 _ t2 ho => ?_
  walk_at "go"
  subst hK
  refine seq_i fun Kc hK => ?_
  walk_at "go"
  subst hK
  refine seq_i fun Kc hK => ?_
  refine for_i fun Kx hKx => ?_
  walk_at "go"
  refine ⟨by omega, ?_⟩
  refine hKx _ _ ⟨fun i env => ∃ tp zs x5 x6 x7, (TapeOk tp ∧ zs.length ≤ i ∧ (0 < i → 1 ≤ zs.length) ∧ ∀ z ∈ zs, Tx' z) ∧ env = [some (.l (tp)), some (.d (.int m)), some (.d (.str stem)), some (.d (.str other)), some (.l (zs.map .str)), x5, x6, x7], ⟨tp2, [], none, none, none, ⟨t2, by simp, by simp, fun z hz => by cases hz⟩, rfl⟩, fun i x env hx2 hP => ?_, fun env hP => ?_⟩
  · obtain ⟨tp3, zs, x5, x6, x7, ⟨t3, hz1, hz2, hz3⟩, rfl⟩ := hP
    obtain ⟨rfl, hi⟩ := rng_at hx2
    refine ⟨by simp, ?_⟩
    simp only [List.set_cons_zero, List.set_cons_succ]
    refine seq_i fun Kc hK => ?_
    walk_at "go"
    refine pick_map .str ["", "a", "b", "ab", "a/b", "?q", "x^20", "~0", "b/", "10", "9", "B"] (fun z => z.length ≤ 4 ∧ Sg z) (by rfl) (by decide) t3 (by unfold Sg; decide +kernel) fun tail tp4 _ t4 htl => ?_
    walk_at "go"
    subst hK
    refine seq_i fun Kc hK => ?_
    have fin : ∀ (tail : Str) (tp : List PyData), tail.length ≤ 5 → Sg tail → TapeOk tp → Kc [some (.l (tp)), some (.d (.int m)), some (.d (.str stem)), some (.d (.str other)), some (.l (zs.map .str)), some (.d (.int (i : Nat))), some (.d (.str tail)), x7] := fun tail tp h1 h2 t5 => by
      subst hK
      refine seq_i fun Kc hK => ?_
      walk_at "go"
      refine pick_map .str [stem, stem, other] (fun z => z.length ≤ 17 ∧ Sg z) (by rfl) (by simp) t5 (fun z hz => ?_) fun hd tp6 _ t6 hh => ?_
      · simp only [List.mem_cons, List.not_mem_nil, or_false] at hz
        rcases hz with rfl | rfl | rfl
        · exact hs
        · exact hs
        · exact ho
      have la := len_app hd tail
      have hn : Tx' (hd ++ tail) := ⟨by omega, sg_app hh.2 h2⟩
      walk_at "go"
      refine ⟨small_of (by omega), ?_⟩
      subst hK
      have s1 := sh_str hn.2
      have s2 := sh_strs hz3
      have a1 := any_strs zs (hd ++ tail)
      by_cases c : hd ++ tail ∈ zs
      · rw [decide_eq_true c] at a1
        nomatch s1, s2, a1, Bool.not_true
        exact ⟨_, zs, some (.d (.int (i))), some (.d (.str tail)), some (.d (.str (hd ++ tail))), ⟨t6, by omega, fun _ => List.length_pos_of_mem c, hz3⟩, rfl⟩
      · rw [decide_eq_false c] at a1
        nomatch s1, s2, a1, Bool.not_false
        refine ⟨few (by omega), ?_⟩
        refine ⟨_, zs ++ [hd ++ tail], some (.d (.int (i))), some (.d (.str tail)), some (.d (.str (hd ++ tail))), ⟨t6, by rw [List.length_append]; simp; omega, fun _ => by rw [List.length_append]; simp, fun z hz => ?_⟩, by rw [List.map_append]; rfl⟩
        rcases List.mem_append.mp hz with q | q
        · exact hz3 z q
        · rw [List.mem_singleton.mp q]; exact hn
    refine ifs_any (fun b e => ∃ tp, TapeOk tp ∧ e = [some (.l (tp)), some (.d (.int m)), some (.d (.str stem)), some (.d (.str other)), some (.l (zs.map .str)), some (.d (.int (i : Nat))), some (.d (.str tail)), x7]) (fun K hK2 => ?_) (fun e he => ?_) fun e he => ?_
    · walk_at "go"
      refine draw_i (by first | decide | omega) (by assumption) (by first | decide | omega) fun r tp5 _ t5 r0 r1 => ?_
      walk_at "go"
      exact hK2 _ _ ⟨_, t5, rfl⟩
    · obtain ⟨tp5, t5, rfl⟩ := he
      walk_at "go"
      refine pick_map (fun c : Nat => .str ⟨#[c]⟩) SIG.cps.toList (fun c => Sg ⟨#[c]⟩) (by rfl) (by decide +kernel) t5 (fun c hc => sg_one sig_ok.1 hc) fun c tp6 _ t6 hc => ?_
      have la := len_app tail ⟨#[c]⟩
      have l1 : (⟨#[c]⟩ : Str).length = 1 := rfl
      walk_at "go"
      refine ⟨small_of (by omega), ?_⟩
      exact fin _ tp6 (by omega) (sg_app htl.2 hc) t6
    · obtain ⟨tp5, t5, rfl⟩ := he
      walk_at "go"
      exact fin _ tp5 (by omega) htl.2 t5
  · obtain ⟨tp3, zs, x5, x6, x7, ⟨t3, hz1, hz2, hz3⟩, rfl⟩ := hP
    rw [rng_len] at hz1 hz2
    subst hK
    walk_at "go"
    refine ⟨zs, rfl, by omega, fun ys hp => ?_⟩
    have hpl := hp.length_eq
    exact k ys _ _ ⟨by have := hz2 (by omega); omega, by omega⟩ (fun z hz => hz3 z (hp.mem_iff.mp hz)) t3 rfl
theorem h_law_b_reading (hl : args.length = 3) (h : sp_law_b_reading args Q) : t_law_b_reading (KD Q) (startE 6 args) := by
  obtain ⟨tp, zs, ls, rfl, hz1, hl1, hz, ht, k⟩ := h
  unfold t_law_b_reading
  rw [strsD]
  refine seq_i fun Kc hK => ?_
  walk_at "go"
  subst hK
  refine seq_i fun Kc hK => ?_
  walk_at "go"
  subst hK
  refine seq_i fun Kc hK => ?_
  refine for_i fun Kx hKx => ?_
  walk_at "go"
  refine hKx _ _ ⟨fun i env => ∃ tp ws, ∃ kd : Int, ∃ x5, (TapeOk tp ∧ ws.length = i ∧ ∀ w ∈ ws, Tx' w.1) ∧ env = [some (.l (tp)), some (.d (.tuple (zs.map .str))), some (.d (.list (ls.map .str))), some (.l (ws.map wpD)), some (.d (.int kd)), x5], ⟨tp, [], 0, none, ⟨ht, by simp, fun w hw => by cases hw⟩, rfl⟩, fun i x env hx2 hP => ?_, fun env hP => ?_⟩
  · obtain ⟨tp3, ws, kd, x5, ⟨t3, hw1, hw2⟩, rfl⟩ := hP
    have hi := (List.getElem?_eq_some_iff.mp hx2).1
    rw [List.length_map] at hi
    rw [List.getElem?_map] at hx2
    obtain ⟨z, hz2, rfl⟩ := Option.map_eq_some_iff.mp hx2
    have hzz := hz z (List.mem_of_getElem? hz2)
    refine ⟨by simp, ?_⟩
    simp only [List.set_cons_zero, List.set_cons_succ]
    refine seq_i fun Kc hK => ?_
    have fin : ∀ (kd : Int) (tp : List PyData), TapeOk tp → Kc [some (.l (tp)), some (.d (.tuple (zs.map .str))), some (.d (.list (ls.map .str))), some (.l (ws.map wpD)), some (.d (.int kd)), some (.d (.str z))] := fun kd tp t5 => by
      subst hK
      walk_at "go"
      refine ⟨few (by omega), ?_⟩
      refine ⟨_, ws ++ [(z, kd)], kd, some (.d (.str z)), ⟨t5, by rw [List.length_append, hw1]; rfl, fun w hw => ?_⟩, by rw [List.map_append]; rfl⟩
      rcases List.mem_append.mp hw with q | q
      · exact hw2 w q
      · rw [List.mem_singleton.mp q]; exact hzz
    refine ifs_any (fun b e => ∃ tp, TapeOk tp ∧ e = [some (.l (tp)), some (.d (.tuple (zs.map .str))), some (.d (.list (ls.map .str))), some (.l (ws.map wpD)), some (.d (.int kd)), some (.d (.str z))]) (fun K hK2 => ?_) (fun e he => ?_) fun e he => ?_
    · walk_at "go"
      refine draw_i (by first | decide | omega) (by assumption) (by first | decide | omega) fun r tp5 _ t5 r0 r1 => ?_
      walk_at "go"
      exact hK2 _ _ ⟨_, t5, rfl⟩
    · obtain ⟨tp5, t5, rfl⟩ := he
      walk_at "go"
      refine draw_i (by first | decide | omega) (by assumption) (by first | decide | omega) fun r tp6 _ t6 r0 r1 => ?_
      walk_at "go"
      exact fin r tp6 t6
    · obtain ⟨tp5, t5, rfl⟩ := he
      walk_at "go"
      exact fin kd tp5 t5
  · obtain ⟨tp3, ws, kd, x5, ⟨t3, hw1, hw2⟩, rfl⟩ := hP
    rw [List.length_map] at hw1
    subst hK
    walk_at "go"
    refine draw_i (by first | decide | omega) (by assumption) (by first | decide | omega) fun r1 tp5 _ t5 r10 r11 => ?_
    walk_at "go"
    refine draw_i (by first | decide | omega) (by assumption) (by first | decide | omega) fun r2 tp6 _ t6 r20 r21 => ?_
    walk_at "go"
    exact k ws _ _ _ _ ⟨by omega, hw2⟩ t6 rfl
end
end Dlk33

set_option Elab.async false
set_option linter.all false
set_option maxRecDepth 100000
set_option maxHeartbeats 4000000
set_option autoImplicit false
namespace Dlk33
open PySem PySem.Spec L2 DL
local macro_rules | `(tactic| walk_at "go") => `(tactic| simp only [outE_i, outE_n, sz0, sz1, sz2, sz3, sz4, sz5, sz6, sz7, sz8, sz9, sz10, sz11, sz12, sz13, sz14, sz15, sz16, ↓tdFr, ↓frE, ↓rdDivmod, ↓rdNotIn, ↓tdTru, ↓rdMulW, ↓rdGcd, ↓rdRgV, ↓tdRgI, ↓tdEnum2, ↓tdZip2, ↓tdPar, ↓tdRevA, ↓tdRevR, ↓rdDivP, ↓tdTupRg, ↓tdSortSet, ↓tdRepV, ↓tdSwap, ↓rdLcm, ↓tdRepE, ↓rdSortedA, ↓rdMaxA, ↓rdInsert, ↓tdSw, ↓tdRevT, ↓rdSortedS, ↓startE, ↓tdSeq, ↓tdSet, ↓tdSetD, ↓tdDrop, ↓tdRet, ↓tdIfS, ↓tdNext, ↓tdAsg, ↓tdV, ↓tdC, ↓tdBin, ↓tdB, ↓tdCons, ↓tdNil, ↓tdTup, ↓tdLst, ↓tdTest, ↓tdAnd, ↓tdOr, ↓tdNot, ↓tdIf, ↓tdAndV, ↓tdOrV, ↓tdNotV, ↓tdNeg, ↓tdIsN, ↓tdNotN, ↓tdSl, ↓tdPart, ↓tdNoPart, ↓tdM, ↓tdSetIx, ↓tdAug, ↓tdPut, ↓tdGet2, ↓tdIsi, ↓tdListRg, ↓gdName, ↓gdNil, ↓gdCons, ↓gdTup, ↓tdIt, ↓tdRng1, ↓tdRng2, ↓tdCall, ↓tdNew, ↓tdJoin, ↓gcName, ↓gcNil, ↓gcCons, ↓gcTup, ↓tdYes, ↓res, ↓resR, ↓resAll, ↓rvD, ↓rdLen, ↓rdInt, ↓rdAbs, ↓rdMax2, ↓rdMin2, ↓rdOrd, ↓rdTuple, ↓rdList, ↓rdIx, ↓rdAdd, ↓rdSub, ↓rdMul, ↓rdMod, ↓rdDiv, ↓rdPow, ↓rdCmp, ↓rdEq, ↓rdNe, ↓rdIadd, ↓rdIn, ↓rdSorted, ↓rdSl, ↓isT, ↓rdAppend, ↓itemsOf, ↓rvOf, ↓argsOf, ↓argOf, Nat.reduceAdd, Nat.reduceLT, Nat.reduceSub, Int.reduceLT, Int.reduceLE, Int.reduceAdd, Int.reduceEq, Int.reduceNeg, Nat.reduceLeDiff, Nat.zero_add, Nat.reduceEqDiff, Nat.reduceBEq, ix41, ix42, ix43, ix40, List.length_cons, List.length_nil, List.map_cons, List.map_nil, List.replicate, List.cons_append, List.nil_append, List.getElem?_cons_zero, List.getElem?_cons_succ, List.set_cons_zero, List.set_cons_succ, Option.map_some, at0, at1, at2, at3, ix0, ix1, ix2, ix3, sh_int, sh_bl, sh_non, eqv_int, eqv_bl, eqv_str, decide_eq_true_eq, Bool.not_eq_true, Bool.not_true, Bool.not_false, Bool.false_eq_true, true_and, and_true, if_true, if_false, ite_true, ite_false, List.length_map, List.length_set, Sl.isD, List.mem_singleton, List.mem_cons, List.not_mem_nil, not_true_eq_false, not_false_eq_true, or_false])
local macro_rules | `(tactic| nomatch $xs,*) => `(tactic| simp only [$[$xs:term],*, outE_i, outE_n, sz0, sz1, sz2, sz3, sz4, sz5, sz6, sz7, sz8, sz9, sz10, sz11, sz12, sz13, sz14, sz15, sz16, ↓tdFr, ↓frE, ↓rdDivmod, ↓rdNotIn, ↓tdTru, ↓rdMulW, ↓rdGcd, ↓rdRgV, ↓tdRgI, ↓tdEnum2, ↓tdZip2, ↓tdPar, ↓tdRevA, ↓tdRevR, ↓rdDivP, ↓tdTupRg, ↓tdSortSet, ↓tdRepV, ↓tdSwap, ↓rdLcm, ↓tdRepE, ↓rdSortedA, ↓rdMaxA, ↓rdInsert, ↓tdSw, ↓tdRevT, ↓rdSortedS, ↓startE, ↓tdSeq, ↓tdSet, ↓tdSetD, ↓tdDrop, ↓tdRet, ↓tdIfS, ↓tdNext, ↓tdAsg, ↓tdV, ↓tdC, ↓tdBin, ↓tdB, ↓tdCons, ↓tdNil, ↓tdTup, ↓tdLst, ↓tdTest, ↓tdAnd, ↓tdOr, ↓tdNot, ↓tdIf, ↓tdAndV, ↓tdOrV, ↓tdNotV, ↓tdNeg, ↓tdIsN, ↓tdNotN, ↓tdSl, ↓tdPart, ↓tdNoPart, ↓tdM, ↓tdSetIx, ↓tdAug, ↓tdPut, ↓tdGet2, ↓tdIsi, ↓tdListRg, ↓gdName, ↓gdNil, ↓gdCons, ↓gdTup, ↓tdIt, ↓tdRng1, ↓tdRng2, ↓tdCall, ↓tdNew, ↓tdJoin, ↓gcName, ↓gcNil, ↓gcCons, ↓gcTup, ↓tdYes, ↓res, ↓resR, ↓resAll, ↓rvD, ↓rdLen, ↓rdInt, ↓rdAbs, ↓rdMax2, ↓rdMin2, ↓rdOrd, ↓rdTuple, ↓rdList, ↓rdIx, ↓rdAdd, ↓rdSub, ↓rdMul, ↓rdMod, ↓rdDiv, ↓rdPow, ↓rdCmp, ↓rdEq, ↓rdNe, ↓rdIadd, ↓rdIn, ↓rdSorted, ↓rdSl, ↓isT, ↓rdAppend, ↓itemsOf, ↓rvOf, ↓argsOf, ↓argOf, Nat.reduceAdd, Nat.reduceLT, Nat.reduceSub, Int.reduceLT, Int.reduceLE, Int.reduceAdd, Int.reduceEq, Int.reduceNeg, Nat.reduceLeDiff, Nat.zero_add, Nat.reduceEqDiff, Nat.reduceBEq, ix41, ix42, ix43, ix40, List.length_cons, List.length_nil, List.map_cons, List.map_nil, List.replicate, List.cons_append, List.nil_append, List.getElem?_cons_zero, List.getElem?_cons_succ, List.set_cons_zero, List.set_cons_succ, Option.map_some, at0, at1, at2, at3, ix0, ix1, ix2, ix3, sh_int, sh_bl, sh_non, eqv_int, eqv_bl, eqv_str, decide_eq_true_eq, Bool.not_eq_true, Bool.not_true, Bool.not_false, Bool.false_eq_true, true_and, and_true, if_true, if_false, ite_true, ite_false, List.length_map, List.length_set, Sl.isD, List.mem_singleton, List.mem_cons, List.not_mem_nil, not_true_eq_false, not_false_eq_true, or_false])
theorem tx_zeu : Tx' "z.eu/" := by unfold Tx' Sg; decide +kernel
theorem tx_fox : Tx' "fox" := by unfold Tx' Sg; decide +kernel
section
variable {args : List Sl} {Q : Sl → (Nat → Option Sl) → Prop}
theorem h_law_pages (hl : args.length = 1) (h : sp_law_pages args Q) : t_law_pages (KD Q) (startE 9 args) := by
  obtain ⟨tp, rfl, ht, k⟩ := h
  unfold t_law_pages
  refine seq_i fun Kc hK => ?_
  walk_at "go"
  refine ⟨tp, rfl, ht, fun pool tp1 os hp1 hp2 t1 e1 => ?_⟩
  rw [← ios_eq e1]
  walk_at "go"
  subst hK
  refine seq_i fun Kc hK => ?_
  walk_at "go"
  refine draw_i (by first | decide | omega) (by assumption) (by first | decide | omega) fun d tp2 _ t2 d0 d1 => ?_
  walk_at "go"
  refine ⟨tp2, _, rfl, by omega, t2, fun names tp3 os hn1 hn2 t3 e3 => ?_⟩
  rw [← ios_eq e3]
  walk_at "go"
  subst hK
  refine seq_i fun Kc hK => ?_
  walk_at "go"
  subst hK
  refine seq_i fun Kc hK => ?_
  refine for_i fun Kx hKx => ?_
  walk_at "go"
  refine hKx _ _ ⟨fun i env => ∃ tp ps x4 x5 x6 x8, (TapeOk tp ∧ ps.length = i ∧ ∀ p ∈ ps, PgOk p) ∧ env = [some (.l (tp)), some (.d (.list (pool.map .str))), some (.d (.list (names.map .str))), some (.l (ps.map pgD)), x4, x5, x6, none, x8], ⟨tp3, [], none, none, none, none, ⟨t3, by simp, fun p hp => by cases hp⟩, rfl⟩, fun i x env hx2 hP => ?_, fun env hP => ?_⟩
  · obtain ⟨tp4, ps, x4, x5, x6, x8, ⟨t4, hl4, hps⟩, rfl⟩ := hP
    have hi := (List.getElem?_eq_some_iff.mp hx2).1
    rw [List.length_map] at hi
    rw [List.getElem?_map] at hx2
    obtain ⟨z, hz2, rfl⟩ := Option.map_eq_some_iff.mp hx2
    have hz := hn2 z (List.mem_of_getElem? hz2)
    refine ⟨by simp, ?_⟩
    simp only [List.set_cons_zero, List.set_cons_succ]
    refine seq_i fun Kc hK => ?_
    walk_at "go"
    refine pick_ints [8, 8, 5, 3] (fun n => 0 ≤ n ∧ n ≤ 8) (by rfl) (by simp) t4 (by decide) fun most tp5 _ t5 hm => ?_
    walk_at "go"
    subst hK
    refine seq_i fun Kc hK => ?_
    walk_at "go"
    refine pick_ints [2, 3, 8] (fun n => 1 ≤ n ∧ n ≤ 8) (by rfl) (by simp) t5 (by decide) fun n0 tp6 _ t6 hn => ?_
    obtain ⟨n, rfl⟩ : ∃ n : Nat, n0 = n := ⟨n0.toNat, by omega⟩
    have hc := cut_lo PyData.str pool n
    nomatch hc
    refine ⟨tp6, pool.take n, most, rfl, ⟨by rw [List.length_take]; omega, by rw [List.length_take]; omega⟩, fun z hz => hp2 z (List.mem_of_mem_take hz), hm, t6, fun ys tp7 os hy1 hy2 t7 e7 => ?_⟩
    rw [← ios_eq e7]
    walk_at "go"
    subst hK
    refine seq_i fun Kc hK => ?_
    have fin : ∀ (ys : List Str) (tp : List PyData), ys.length ≤ 30 → (∀ z ∈ ys, Tx' z) → TapeOk tp → Kc [some (.l (tp)), some (.d (.list (pool.map .str))), some (.d (.list (names.map .str))), some (.l (ps.map pgD)), some (.d (.str z)), some (.d (.int most)), some (.d (.tuple (ys.map .str))), none, x8] := fun ys tp hy1 hy2 t8 => by
      subst hK
      refine seq_i fun Kc hK => ?_
      walk_at "go"
      refine lc_inv (fun xs => ∃ n : Int, xs = rngL 0 n ∧ 0 ≤ n ∧ n < 4) (fun env => ∃ tp, TapeOk tp ∧ env = [some (.l (tp)), some (.d (.list (pool.map .str))), some (.d (.list (names.map .str))), some (.l (ps.map pgD)), some (.d (.str z)), some (.d (.int most)), some (.d (.tuple (ys.map .str))), none, x8]) (fun y => ∃ z : Str, y = .str z ∧ Tx' z) (fun R hR => ?_) (fun xs hP => ?_) (fun xs x hP hx env hJ => ?_) (fun xs env acc hP hJ hlen hY => ?_)
      · walk_at "go"
        refine draw_i (by first | decide | omega) (by assumption) (by first | decide | omega) fun n tp9 _ t9 n0 n1 => ?_
        walk_at "go"
        exact ⟨⟨by omega, by omega⟩, hR _ _ ⟨_, rfl, by omega, by omega⟩ ⟨_, t9, rfl⟩⟩
      · obtain ⟨n, rfl, n1, n2⟩ := hP
        rw [rng_len]
        exact small_of (by omega)
      · obtain ⟨tp, ht, rfl⟩ := hJ
        refine ⟨by simp [noOwn], fun A B hA hB => ?_⟩
        nomatch wipeE
        refine ⟨small_of (by omega), ?_⟩
        refine pick_map .str (names ++ [("z.eu/" : Str)]) Tx' (by rw [itemsOf, List.map_append]; rfl) (by rw [List.length_append, List.length_singleton]; omega) ht (fun z hz => ?_) fun z tp4 _ t4 hz4 => ?_
        · rcases List.mem_append.mp hz with q | q
          · exact hn2 z q
          · rw [List.mem_singleton.mp q]; exact tx_zeu
        nomatch mergeE
        exact ⟨hA, hB _ _ ⟨_, t4, rfl⟩ ⟨_, rfl, hz4⟩⟩
      obtain ⟨n, rfl, n1, n2⟩ := hP
      obtain ⟨tp9, t9, rfl⟩ := hJ
      rw [rng_len] at hlen
      obtain ⟨ls, rfl, hls⟩ := strs_of hY
      rw [List.length_map] at hlen
      walk_at "go"
      subst hK
      walk_at "go"
      refine draw_i (by first | decide | omega) (by assumption) (by first | decide | omega) fun tk tp10 _ t10 tk0 tk1 => ?_
      walk_at "go"
      refine ⟨tp10, ys, ls, by rw [strsD], hy1, by omega, hy2, t10, fun ws a b tp11 os hws t11 e11 => ?_⟩
      rw [← ios_eq e11]
      walk_at "go"
      refine ⟨few (by omega), ?_⟩
      refine ⟨tp11, ps ++ [⟨z, tk, ws, ls, a, b⟩], some (.d (.str z)), some (.d (.int most)), some (.d (.tuple (ys.map .str))), some (.d (.list (ls.map .str))), ⟨t11, by rw [List.length_append, hl4]; rfl, fun p hp => ?_⟩, by rw [List.map_append]; rfl⟩
      rcases List.mem_append.mp hp with q | q
      · exact hps p q
      · rw [List.mem_singleton.mp q]
        exact ⟨hz, hws, by show ls.length ≤ 10; omega, hls⟩
    refine ifs_any (fun b e => ∃ tp, TapeOk tp ∧ e = [some (.l (tp)), some (.d (.list (pool.map .str))), some (.d (.list (names.map .str))), some (.l (ps.map pgD)), some (.d (.str z)), some (.d (.int most)), some (.d (.tuple (ys.map .str))), none, x8]) (fun K hK2 => ?_) (fun e he => ?_) fun e he => ?_
    · walk_at "go"
      refine draw_i (by first | decide | omega) (by assumption) (by first | decide | omega) fun r tp8 _ t8 r0 r1 => ?_
      walk_at "go"
      exact hK2 _ _ ⟨_, t8, rfl⟩
    · obtain ⟨tp8, t8, rfl⟩ := he
      walk_at "go"
      refine lc_inv (fun xs => ∃ n : Int, xs = rngL 0 n ∧ 0 ≤ n ∧ n ≤ 24) (fun env => ∃ tp, TapeOk tp ∧ env = [some (.l (tp)), some (.d (.list (pool.map .str))), some (.d (.list (names.map .str))), some (.l (ps.map pgD)), some (.d (.str z)), some (.d (.int most)), some (.d (.tuple (ys.map .str))), none, x8]) (fun y => ∃ z : Str, y = .str z ∧ Tx' z) (fun R hR => ?_) (fun xs hP => ?_) (fun xs x hP hx env hJ => ?_) (fun xs env acc hP hJ hlen hY => ?_)
      · walk_at "go"
        refine draw_i (by first | decide | omega) (by assumption) (by first | decide | omega) fun n tp9 _ t9 n0 n1 => ?_
        walk_at "go"
        exact ⟨⟨by omega, by omega⟩, hR _ _ ⟨_, rfl, by omega, by omega⟩ ⟨_, t9, rfl⟩⟩
      · obtain ⟨n, rfl, n1, n2⟩ := hP
        rw [rng_len]
        exact small_of (by omega)
      · obtain ⟨tp, ht, rfl⟩ := hJ
        refine ⟨by simp [noOwn], fun A B hA hB => ?_⟩
        nomatch wipeE
        refine pick_map .str pool Tx' (by rfl) (by omega) ht hp2 fun z tp4 _ t4 hz4 => ?_
        nomatch mergeE
        exact ⟨hA, hB _ _ ⟨_, t4, rfl⟩ ⟨_, rfl, hz4⟩⟩
      obtain ⟨n, rfl, n1, n2⟩ := hP
      obtain ⟨tp9, t9, rfl⟩ := hJ
      rw [rng_len] at hlen
      obtain ⟨ls, rfl, hls⟩ := strs_of hY
      rw [List.length_map] at hlen
      walk_at "go"
      exact fin ls tp9 (by omega) hls t9
    · obtain ⟨tp8, t8, rfl⟩ := he
      walk_at "go"
      exact fin ys tp8 (by omega) hy2 t8
  · obtain ⟨tp4, ps, x4, x5, x6, x8, ⟨t4, hl4, hps⟩, rfl⟩ := hP
    rw [List.length_map] at hl4
    subst hK
    walk_at "go"
    exact k ps _ _ ⟨by omega, hps⟩ t4 rfl
end
end Dlk33

set_option Elab.async false
set_option linter.all false
set_option maxRecDepth 100000
set_option maxHeartbeats 4000000
set_option autoImplicit false
namespace Dlk33
open PySem PySem.Spec L2 DL
local macro_rules | `(tactic| walk_at "go") => `(tactic| simp only [outE_i, outE_n, sz0, sz1, sz2, sz3, sz4, sz5, sz6, sz7, sz8, sz9, sz10, sz11, sz12, sz13, sz14, sz15, sz16, ↓tdFr, ↓frE, ↓rdDivmod, ↓rdNotIn, ↓tdTru, ↓rdMulW, ↓rdGcd, ↓rdRgV, ↓tdRgI, ↓tdEnum2, ↓tdZip2, ↓tdPar, ↓tdRevA, ↓tdRevR, ↓rdDivP, ↓tdTupRg, ↓tdSortSet, ↓tdRepV, ↓tdSwap, ↓rdLcm, ↓tdRepE, ↓rdSortedA, ↓rdMaxA, ↓rdInsert, ↓tdSw, ↓tdRevT, ↓rdSortedS, ↓startE, ↓tdSeq, ↓tdSet, ↓tdSetD, ↓tdDrop, ↓tdRet, ↓tdIfS, ↓tdNext, ↓tdAsg, ↓tdV, ↓tdC, ↓tdBin, ↓tdB, ↓tdCons, ↓tdNil, ↓tdTup, ↓tdLst, ↓tdTest, ↓tdAnd, ↓tdOr, ↓tdNot, ↓tdIf, ↓tdAndV, ↓tdOrV, ↓tdNotV, ↓tdNeg, ↓tdIsN, ↓tdNotN, ↓tdSl, ↓tdPart, ↓tdNoPart, ↓tdM, ↓tdSetIx, ↓tdAug, ↓tdPut, ↓tdGet2, ↓tdIsi, ↓tdListRg, ↓gdName, ↓gdNil, ↓gdCons, ↓gdTup, ↓tdIt, ↓tdRng1, ↓tdRng2, ↓tdCall, ↓tdNew, ↓tdJoin, ↓gcName, ↓gcNil, ↓gcCons, ↓gcTup, ↓tdYes, ↓res, ↓resR, ↓resAll, ↓rvD, ↓rdLen, ↓rdInt, ↓rdAbs, ↓rdMax2, ↓rdMin2, ↓rdOrd, ↓rdTuple, ↓rdList, ↓rdIx, ↓rdAdd, ↓rdSub, ↓rdMul, ↓rdMod, ↓rdDiv, ↓rdPow, ↓rdCmp, ↓rdEq, ↓rdNe, ↓rdIadd, ↓rdIn, ↓rdSorted, ↓rdSl, ↓isT, ↓rdAppend, ↓itemsOf, ↓rvOf, ↓argsOf, ↓argOf, Nat.reduceAdd, Nat.reduceLT, Nat.reduceSub, Int.reduceLT, Int.reduceLE, Int.reduceAdd, Int.reduceEq, Int.reduceNeg, Nat.reduceLeDiff, Nat.zero_add, Nat.reduceEqDiff, Nat.reduceBEq, ix41, ix42, ix43, ix40, List.length_cons, List.length_nil, List.map_cons, List.map_nil, List.replicate, List.cons_append, List.nil_append, List.getElem?_cons_zero, List.getElem?_cons_succ, List.set_cons_zero, List.set_cons_succ, Option.map_some, at0, at1, at2, at3, ix0, ix1, ix2, ix3, sh_int, sh_bl, sh_non, eqv_int, eqv_bl, eqv_str, decide_eq_true_eq, Bool.not_eq_true, Bool.not_true, Bool.not_false, Bool.false_eq_true, true_and, and_true, if_true, if_false, ite_true, ite_false, List.length_map, List.length_set, Sl.isD, List.mem_singleton, List.mem_cons, List.not_mem_nil, not_true_eq_false, not_false_eq_true, or_false])
local macro_rules | `(tactic| nomatch $xs,*) => `(tactic| simp only [$[$xs:term],*, outE_i, outE_n, sz0, sz1, sz2, sz3, sz4, sz5, sz6, sz7, sz8, sz9, sz10, sz11, sz12, sz13, sz14, sz15, sz16, ↓tdFr, ↓frE, ↓rdDivmod, ↓rdNotIn, ↓tdTru, ↓rdMulW, ↓rdGcd, ↓rdRgV, ↓tdRgI, ↓tdEnum2, ↓tdZip2, ↓tdPar, ↓tdRevA, ↓tdRevR, ↓rdDivP, ↓tdTupRg, ↓tdSortSet, ↓tdRepV, ↓tdSwap, ↓rdLcm, ↓tdRepE, ↓rdSortedA, ↓rdMaxA, ↓rdInsert, ↓tdSw, ↓tdRevT, ↓rdSortedS, ↓startE, ↓tdSeq, ↓tdSet, ↓tdSetD, ↓tdDrop, ↓tdRet, ↓tdIfS, ↓tdNext, ↓tdAsg, ↓tdV, ↓tdC, ↓tdBin, ↓tdB, ↓tdCons, ↓tdNil, ↓tdTup, ↓tdLst, ↓tdTest, ↓tdAnd, ↓tdOr, ↓tdNot, ↓tdIf, ↓tdAndV, ↓tdOrV, ↓tdNotV, ↓tdNeg, ↓tdIsN, ↓tdNotN, ↓tdSl, ↓tdPart, ↓tdNoPart, ↓tdM, ↓tdSetIx, ↓tdAug, ↓tdPut, ↓tdGet2, ↓tdIsi, ↓tdListRg, ↓gdName, ↓gdNil, ↓gdCons, ↓gdTup, ↓tdIt, ↓tdRng1, ↓tdRng2, ↓tdCall, ↓tdNew, ↓tdJoin, ↓gcName, ↓gcNil, ↓gcCons, ↓gcTup, ↓tdYes, ↓res, ↓resR, ↓resAll, ↓rvD, ↓rdLen, ↓rdInt, ↓rdAbs, ↓rdMax2, ↓rdMin2, ↓rdOrd, ↓rdTuple, ↓rdList, ↓rdIx, ↓rdAdd, ↓rdSub, ↓rdMul, ↓rdMod, ↓rdDiv, ↓rdPow, ↓rdCmp, ↓rdEq, ↓rdNe, ↓rdIadd, ↓rdIn, ↓rdSorted, ↓rdSl, ↓isT, ↓rdAppend, ↓itemsOf, ↓rvOf, ↓argsOf, ↓argOf, Nat.reduceAdd, Nat.reduceLT, Nat.reduceSub, Int.reduceLT, Int.reduceLE, Int.reduceAdd, Int.reduceEq, Int.reduceNeg, Nat.reduceLeDiff, Nat.zero_add, Nat.reduceEqDiff, Nat.reduceBEq, ix41, ix42, ix43, ix40, List.length_cons, List.length_nil, List.map_cons, List.map_nil, List.replicate, List.cons_append, List.nil_append, List.getElem?_cons_zero, List.getElem?_cons_succ, List.set_cons_zero, List.set_cons_succ, Option.map_some, at0, at1, at2, at3, ix0, ix1, ix2, ix3, sh_int, sh_bl, sh_non, eqv_int, eqv_bl, eqv_str, decide_eq_true_eq, Bool.not_eq_true, Bool.not_true, Bool.not_false, Bool.false_eq_true, true_and, and_true, if_true, if_false, ite_true, ite_false, List.length_map, List.length_set, Sl.isD, List.mem_singleton, List.mem_cons, List.not_mem_nil, not_true_eq_false, not_false_eq_true, or_false])
theorem at_w {ws : List Wp} {i : Nat} (h : i < ws.length) : atI (ws.map wpD) (i : Int) = some (.tuple [.str ws[i].1, .int ws[i].2]) := at_wd h
theorem slk (bn : Nat) (e : Int) : ∃ sn : Nat, (if (if (bn : Int) + e > 0 then (bn : Int) + e else 0) < 9 then (if (bn : Int) + e > 0 then (bn : Int) + e else 0) else 9) = (sn : Int) ∧ sn ≤ 9 := by
  by_cases a : (bn : Int) + e > 0
  · rw [if_pos a]
    by_cases b : (bn : Int) + e < 9
    · rw [if_pos b]; exact ⟨((bn : Int) + e).toNat, by omega, by omega⟩
    · rw [if_neg b]; exact ⟨9, rfl, by decide⟩
  · rw [if_neg a, if_pos (by decide)]; exact ⟨0, rfl, by decide⟩
section
variable {args : List Sl} {Q : Sl → (Nat → Option Sl) → Prop}
theorem h_law_b_phrase_question (hl : args.length = 2) (h : sp_law_b_phrase_question args Q) : t_law_b_phrase_question (KD Q) (startE 12 args) := by
  obtain ⟨tp, ps, rfl, hps, ht, k⟩ := h
  unfold t_law_b_phrase_question
  rw [pgsD]
  refine seq_i fun Kc hK => ?_
  walk_at "go"
  refine pick_map pgD ps PgOk (by rfl) (by have := hps.1; omega) ht hps.2 fun p tp1 _ t1 hp => ?_
  have hw := hp.2.1
  have hwl := hw.1
  nomatch pgD, wsD
  subst hK
  refine seq_i fun Kc hK => ?_
  walk_at "go"
  refine draw_i (by first | decide | omega) (by assumption) (by first | decide | omega) fun q0 tp2 _ t2 q00 q01 => ?_
  obtain ⟨q, rfl⟩ : ∃ n : Nat, q0 = n := ⟨q0.toNat, by omega⟩
  walk_at "go"
  subst hK
  refine seq_i fun Kc hK => ?_
  walk_at "go"
  subst hK
  refine seq_i fun Kc hK => ?_
  have fin : ∀ (kd : Option Int) (tp : List PyData), TapeOk tp → Kc [some (.l (tp)), some (.d (.list (ps.map pgD))), some (.d (.tuple (p.words.map wpD))), some (.d (.int (q))), some (.d (kD kd)), none, none, none, none, none, none, none] := by
    intro kd tp t3
    subst hK
    refine seq_i fun Kc hK => ?_
    walk_at "go"
    subst hK
    refine seq_i fun Kc hK => ?_
    walk_at "go"
    refine pick_ints [1, 1, 1, 2, 2, 3, 4] (fun n => 1 ≤ n ∧ n ≤ 4) (by rfl) (by simp) t3 (by decide) fun many tp4 _ t4 hm => ?_
    walk_at "go"
    subst hK
    refine seq_i fun Kc hK => ?_
    refine for_i fun Kx hKx => ?_
    walk_at "go"
    refine ⟨by omega, ?_⟩
    refine hKx _ _ ⟨fun i env => ∃ tp ms, ∃ q : Nat, ∃ x7 x8 x9 x10 x11, (TapeOk tp ∧ ms.length = i ∧ ∀ m ∈ ms, Tx' m.1 ∧ m.2.2 ≤ 9) ∧ env = [some (.l (tp)), some (.d (.list (ps.map pgD))), some (.d (.tuple (p.words.map wpD))), some (.d (.int (q))), some (.d (kD kd)), some (.l (ms.map mmD)), some (.d (.int many)), x7, x8, x9, x10, x11], ⟨tp4, [], q, none, none, none, none, none, ⟨t4, by simp, fun m hm => by cases hm⟩, rfl⟩, fun i x env hx2 hP => ?_, fun env hP => ?_⟩
    · obtain ⟨tp, ms, q, x7, x8, x9, x10, x11, ⟨t5, hml, hms⟩, rfl⟩ := hP
      obtain ⟨rfl, hi⟩ := rng_at hx2
      refine ⟨by simp, ?_⟩
      simp only [List.set_cons_zero, List.set_cons_succ]
      refine seq_i fun Kc hK => ?_
      walk_at "go"
      subst hK
      refine seq_i fun Kc hK => ?_
      have fin2 : ∀ (s q : Nat) (tp : List PyData) (x9 : Option Sl), s ≤ 9 → TapeOk tp → Kc [some (.l (tp)), some (.d (.list (ps.map pgD))), some (.d (.tuple (p.words.map wpD))), some (.d (.int (q))), some (.d (kD kd)), some (.l (ms.map mmD)), some (.d (.int many)), some (.d (.int (i))), some (.d (.int (s))), x9, x10, x11] := by
        intro s q tp x9 hs t6
        subst hK
        refine seq_i fun Kc hK => ?_
        walk_at "go"
        subst hK
        refine seq_i fun Kc hK => ?_
        have fin3 : ∀ (z : Str), Tx' z → Kc [some (.l (tp)), some (.d (.list (ps.map pgD))), some (.d (.tuple (p.words.map wpD))), some (.d (.int (q))), some (.d (kD kd)), some (.l (ms.map mmD)), some (.d (.int many)), some (.d (.int (i))), some (.d (.int (s))), x9, some (.d (.str z)), x11] := by
          intro z hz
          subst hK
          refine seq_i fun Kc hK => ?_
          walk_at "go"
          refine draw_i (by first | decide | omega) (by assumption) (by first | decide | omega) fun w tp7 _ t7 w0 w1 => ?_
          walk_at "go"
          subst hK
          refine seq_i fun Kc hK => ?_
          have fin4 : ∀ (z : Str) (b : Bool) (tp : List PyData), Tx' z → TapeOk tp → Kc [some (.l (tp)), some (.d (.list (ps.map pgD))), some (.d (.tuple (p.words.map wpD))), some (.d (.int (q))), some (.d (kD kd)), some (.l (ms.map mmD)), some (.d (.int many)), some (.d (.int (i))), some (.d (.int (s))), x9, some (.d (.str z)), some (.d (.bool b))] := by
            intro z b tp hz t8
            subst hK
            walk_at "go"
            refine ⟨few (by omega), ?_⟩
            refine ⟨_, ms ++ [(z, b, s)], q, some (.d (.int (i))), some (.d (.int (s))), x9, some (.d (.str z)), some (.d (.bool b)), ⟨t8, by rw [List.length_append, hml]; rfl, fun m hm => ?_⟩, by rw [List.map_append]; rfl⟩
            rcases List.mem_append.mp hm with q | q
            · exact hms m q
            · rw [List.mem_singleton.mp q]; exact ⟨hz, hs⟩
          by_cases c : 0 < w
          · nomatch c, decide_true, Bool.not_true
            have := fin4 z true tp7 hz t7
            exact this
          · nomatch c, decide_false, Bool.not_false
            refine ⟨small_of (by have := hz.1; omega), ?_⟩
            refine draw_i (by have := hz.1; omega) t7 (by omega) fun r tp8 os t8 r0 r1 => ?_
            walk_at "go"
            refine ⟨small_of (by have := hz.1; omega), ?_⟩
            exact fin4 _ false tp8 (tx_cut hz _ _) t8
        by_cases c : q < p.words.length
        · have c0 : (q : Int) < (p.words.length : Nat) := by omega
          nomatch c0, decide_true, at_w c
          exact fin3 _ (hw.2 _ (List.getElem_mem c))
        · have c0 : ¬ (q : Int) < (p.words.length : Nat) := by omega
          nomatch c0, decide_false
          exact fin3 _ tx_fox
      by_cases c : 0 < i
      · have c0 : (0 : Int) < (i : Nat) := by omega
        nomatch c0, decide_true
        refine draw_i (by omega) t5 (by omega) fun d tp6 os t6 r0 r1 => ?_
        walk_at "go"
        refine pick_ints [0, 0, 0, 1, 2, d] (fun n => 0 ≤ n ∧ n ≤ 9) (by rfl) (by simp) t6 (fun n hn => ?_) fun bt tp7 _ t7 hbt => ?_
        · simp only [List.mem_cons, List.not_mem_nil, or_false] at hn
          omega
        obtain ⟨bn, rfl⟩ : ∃ n : Nat, bt = n := ⟨bt.toNat, by omega⟩
        walk_at "go"
        refine pick_ints [0, 0, 1, -1, 9] (fun n => -1 ≤ n ∧ n ≤ 9) (by rfl) (by simp) t7 (by decide) fun e tp8 _ t8 he => ?_
        walk_at "go"
        obtain ⟨sn, hsn, hs9⟩ : ∃ sn : Nat, (if (if (bn : Int) + e > 0 then (bn : Int) + e else 0) < 9 then (if (bn : Int) + e > 0 then (bn : Int) + e else 0) else 9) = (sn : Int) ∧ sn ≤ 9 := slk bn e
        rw [hsn]
        exact fin2 sn (q + 1 + bn) tp8 _ hs9 t8
      · have c0 : ¬ (0 : Int) < (i : Nat) := by omega
        nomatch c0, decide_false
        exact fin2 0 q tp x9 (by decide) t5
    · obtain ⟨tp, ms, q, x7, x8, x9, x10, x11, ⟨t5, hml, hms⟩, rfl⟩ := hP
      rw [rng_len] at hml
      subst hK
      walk_at "go"
      refine pick_ints [1, 1, 0, 2, 5, 20] (fun n => 0 ≤ n ∧ n ≤ 20) (by rfl) (by simp) t5 (by decide) fun pt tp6 _ t6 hpt => ?_
      walk_at "go"
      refine pick_ints [1, 2, 3, 20] (fun n => 0 ≤ n ∧ n ≤ 20) (by rfl) (by simp) t6 (by decide) fun mo tp7 _ t7 hmo => ?_
      walk_at "go"
      have k2 := fun os => k kd ms pt mo tp7 os (by rw [QOk]; exact ⟨by decide, ⟨by omega, hms⟩, hpt, hmo⟩) t7
      rw [qD] at k2
      exact k2 _ rfl
  refine ifs_any (fun b e => ∃ tp, TapeOk tp ∧ e = [some (.l (tp)), some (.d (.list (ps.map pgD))), some (.d (.tuple (p.words.map wpD))), some (.d (.int (q))), some (.d (.none)), none, none, none, none, none, none, none]) (fun K hK2 => ?_) (fun e he => ?_) fun e he => ?_
  · walk_at "go"
    refine draw_i (by first | decide | omega) (by assumption) (by first | decide | omega) fun r tp5 _ t5 r0 r1 => ?_
    walk_at "go"
    exact hK2 _ _ ⟨_, t5, rfl⟩
  · obtain ⟨tp5, t5, rfl⟩ := he
    refine seq_i fun Kc hK => ?_
    walk_at "go"
    refine draw_i (by first | decide | omega) (by assumption) (by first | decide | omega) fun kk tp6 _ t6 kk0 kk1 => ?_
    walk_at "go"
    subst hK
    refine ifs_any (fun b e => ∃ tp, TapeOk tp ∧ (b = true → q < p.words.length) ∧ e = [some (.l (tp)), some (.d (.list (ps.map pgD))), some (.d (.tuple (p.words.map wpD))), some (.d (.int (q))), some (.d (.int kk)), none, none, none, none, none, none, none]) (fun K hK2 => ?_) (fun e he => ?_) fun e he => ?_
    · by_cases c : q < p.words.length
      · have c0 : (q : Int) < (p.words.length : Nat) := by omega
        nomatch c0, decide_true
        refine draw_i (by first | decide | omega) (by assumption) (by first | decide | omega) fun r tp7 _ t7 r0 r1 => ?_
        walk_at "go"
        exact hK2 _ _ ⟨_, t7, fun _ => c, rfl⟩
      · have c0 : ¬ (q : Int) < (p.words.length : Nat) := by omega
        nomatch c0, decide_false
        exact hK2 _ _ ⟨_, t6, (fun z => by cases z), rfl⟩
    · obtain ⟨tp7, t7, hq, rfl⟩ := he
      simp only [at_w (hq rfl), outE_i, outE_n, sz0, sz1, sz2, sz3, sz4, sz5, sz6, sz7, sz8, sz9, sz10, sz11, sz12, sz13, sz14, sz15, sz16, ↓tdFr, ↓frE, ↓rdDivmod, ↓rdNotIn, ↓tdTru, ↓rdMulW, ↓rdGcd, ↓rdRgV, ↓tdRgI, ↓tdEnum2, ↓tdZip2, ↓tdPar, ↓tdRevA, ↓tdRevR, ↓rdDivP, ↓tdTupRg, ↓tdSortSet, ↓tdRepV, ↓tdSwap, ↓rdLcm, ↓tdRepE, ↓rdSortedA, ↓rdMaxA, ↓rdInsert, ↓tdSw, ↓tdRevT, ↓rdSortedS, ↓startE, ↓tdSeq, ↓tdSet, ↓tdSetD, ↓tdDrop, ↓tdRet, ↓tdIfS, ↓tdNext, ↓tdAsg, ↓tdV, ↓tdC, ↓tdBin, ↓tdB, ↓tdCons, ↓tdNil, ↓tdTup, ↓tdLst, ↓tdTest, ↓tdAnd, ↓tdOr, ↓tdNot, ↓tdIf, ↓tdAndV, ↓tdOrV, ↓tdNotV, ↓tdNeg, ↓tdIsN, ↓tdNotN, ↓tdSl, ↓tdPart, ↓tdNoPart, ↓tdM, ↓tdSetIx, ↓tdAug, ↓tdPut, ↓tdGet2, ↓tdIsi, ↓tdListRg, ↓gdName, ↓gdNil, ↓gdCons, ↓gdTup, ↓tdIt, ↓tdRng1, ↓tdRng2, ↓tdCall, ↓tdNew, ↓tdJoin, ↓gcName, ↓gcNil, ↓gcCons, ↓gcTup, ↓tdYes, ↓res, ↓resR, ↓resAll, ↓rvD, ↓rdLen, ↓rdInt, ↓rdAbs, ↓rdMax2, ↓rdMin2, ↓rdOrd, ↓rdTuple, ↓rdList, ↓rdIx, ↓rdAdd, ↓rdSub, ↓rdMul, ↓rdMod, ↓rdDiv, ↓rdPow, ↓rdCmp, ↓rdEq, ↓rdNe, ↓rdIadd, ↓rdIn, ↓rdSorted, ↓rdSl, ↓isT, ↓rdAppend, ↓itemsOf, ↓rvOf, ↓argsOf, ↓argOf, Nat.reduceAdd, Nat.reduceLT, Nat.reduceSub, Int.reduceLT, Int.reduceLE, Int.reduceAdd, Int.reduceEq, Int.reduceNeg, Nat.reduceLeDiff, Nat.zero_add, Nat.reduceEqDiff, Nat.reduceBEq, ix41, ix42, ix43, ix40, List.length_cons, List.length_nil, List.map_cons, List.map_nil, List.replicate, List.cons_append, List.nil_append, List.getElem?_cons_zero, List.getElem?_cons_succ, List.set_cons_zero, List.set_cons_succ, Option.map_some, at0, at1, at2, at3, ix0, ix1, ix2, ix3, sh_int, sh_bl, sh_non, eqv_int, eqv_bl, eqv_str, decide_eq_true_eq, Bool.not_eq_true, Bool.not_true, Bool.not_false, Bool.false_eq_true, true_and, and_true, if_true, if_false, ite_true, ite_false, List.length_map, List.length_set, Sl.isD, List.mem_singleton, List.mem_cons, List.not_mem_nil, not_true_eq_false, not_false_eq_true, or_false]
      exact fin (some _) tp7 t7
    · obtain ⟨tp7, t7, hq, rfl⟩ := he
      walk_at "go"
      exact fin (some kk) tp7 t7
  · obtain ⟨tp5, t5, rfl⟩ := he
    walk_at "go"
    exact fin none tp5 t5
end
end Dlk33

set_option Elab.async false
set_option linter.all false
set_option maxRecDepth 100000
set_option maxHeartbeats 4000000
set_option autoImplicit false
namespace Dlk33
open PySem PySem.Spec L2 DL
local macro_rules | `(tactic| walk_at "go") => `(tactic| simp only [outE_i, outE_n, sz0, sz1, sz2, sz3, sz4, sz5, sz6, sz7, sz8, sz9, sz10, sz11, sz12, sz13, sz14, sz15, sz16, ↓tdFr, ↓frE, ↓rdDivmod, ↓rdNotIn, ↓tdTru, ↓rdMulW, ↓rdGcd, ↓rdRgV, ↓tdRgI, ↓tdEnum2, ↓tdZip2, ↓tdPar, ↓tdRevA, ↓tdRevR, ↓rdDivP, ↓tdTupRg, ↓tdSortSet, ↓tdRepV, ↓tdSwap, ↓rdLcm, ↓tdRepE, ↓rdSortedA, ↓rdMaxA, ↓rdInsert, ↓tdSw, ↓tdRevT, ↓rdSortedS, ↓startE, ↓tdSeq, ↓tdSet, ↓tdSetD, ↓tdDrop, ↓tdRet, ↓tdIfS, ↓tdNext, ↓tdAsg, ↓tdV, ↓tdC, ↓tdBin, ↓tdB, ↓tdCons, ↓tdNil, ↓tdTup, ↓tdLst, ↓tdTest, ↓tdAnd, ↓tdOr, ↓tdNot, ↓tdIf, ↓tdAndV, ↓tdOrV, ↓tdNotV, ↓tdNeg, ↓tdIsN, ↓tdNotN, ↓tdSl, ↓tdPart, ↓tdNoPart, ↓tdM, ↓tdSetIx, ↓tdAug, ↓tdPut, ↓tdGet2, ↓tdIsi, ↓tdListRg, ↓gdName, ↓gdNil, ↓gdCons, ↓gdTup, ↓tdIt, ↓tdRng1, ↓tdRng2, ↓tdCall, ↓tdNew, ↓tdJoin, ↓gcName, ↓gcNil, ↓gcCons, ↓gcTup, ↓tdYes, ↓res, ↓resR, ↓resAll, ↓rvD, ↓rdLen, ↓rdInt, ↓rdAbs, ↓rdMax2, ↓rdMin2, ↓rdOrd, ↓rdTuple, ↓rdList, ↓rdIx, ↓rdAdd, ↓rdSub, ↓rdMul, ↓rdMod, ↓rdDiv, ↓rdPow, ↓rdCmp, ↓rdEq, ↓rdNe, ↓rdIadd, ↓rdIn, ↓rdSorted, ↓rdSl, ↓isT, ↓rdAppend, ↓itemsOf, ↓rvOf, ↓argsOf, ↓argOf, Nat.reduceAdd, Nat.reduceLT, Nat.reduceSub, Int.reduceLT, Int.reduceLE, Int.reduceAdd, Int.reduceEq, Int.reduceNeg, Nat.reduceLeDiff, Nat.zero_add, Nat.reduceEqDiff, Nat.reduceBEq, ix41, ix42, ix43, ix40, List.length_cons, List.length_nil, List.map_cons, List.map_nil, List.replicate, List.cons_append, List.nil_append, List.getElem?_cons_zero, List.getElem?_cons_succ, List.set_cons_zero, List.set_cons_succ, Option.map_some, at0, at1, at2, at3, ix0, ix1, ix2, ix3, sh_int, sh_bl, sh_non, eqv_int, eqv_bl, eqv_str, decide_eq_true_eq, Bool.not_eq_true, Bool.not_true, Bool.not_false, Bool.false_eq_true, true_and, and_true, if_true, if_false, ite_true, ite_false, List.length_map, List.length_set, Sl.isD, List.mem_singleton, List.mem_cons, List.not_mem_nil, not_true_eq_false, not_false_eq_true, or_false])
local macro_rules | `(tactic| nomatch $xs,*) => `(tactic| simp only [$[$xs:term],*, outE_i, outE_n, sz0, sz1, sz2, sz3, sz4, sz5, sz6, sz7, sz8, sz9, sz10, sz11, sz12, sz13, sz14, sz15, sz16, ↓tdFr, ↓frE, ↓rdDivmod, ↓rdNotIn, ↓tdTru, ↓rdMulW, ↓rdGcd, ↓rdRgV, ↓tdRgI, ↓tdEnum2, ↓tdZip2, ↓tdPar, ↓tdRevA, ↓tdRevR, ↓rdDivP, ↓tdTupRg, ↓tdSortSet, ↓tdRepV, ↓tdSwap, ↓rdLcm, ↓tdRepE, ↓rdSortedA, ↓rdMaxA, ↓rdInsert, ↓tdSw, ↓tdRevT, ↓rdSortedS, ↓startE, ↓tdSeq, ↓tdSet, ↓tdSetD, ↓tdDrop, ↓tdRet, ↓tdIfS, ↓tdNext, ↓tdAsg, ↓tdV, ↓tdC, ↓tdBin, ↓tdB, ↓tdCons, ↓tdNil, ↓tdTup, ↓tdLst, ↓tdTest, ↓tdAnd, ↓tdOr, ↓tdNot, ↓tdIf, ↓tdAndV, ↓tdOrV, ↓tdNotV, ↓tdNeg, ↓tdIsN, ↓tdNotN, ↓tdSl, ↓tdPart, ↓tdNoPart, ↓tdM, ↓tdSetIx, ↓tdAug, ↓tdPut, ↓tdGet2, ↓tdIsi, ↓tdListRg, ↓gdName, ↓gdNil, ↓gdCons, ↓gdTup, ↓tdIt, ↓tdRng1, ↓tdRng2, ↓tdCall, ↓tdNew, ↓tdJoin, ↓gcName, ↓gcNil, ↓gcCons, ↓gcTup, ↓tdYes, ↓res, ↓resR, ↓resAll, ↓rvD, ↓rdLen, ↓rdInt, ↓rdAbs, ↓rdMax2, ↓rdMin2, ↓rdOrd, ↓rdTuple, ↓rdList, ↓rdIx, ↓rdAdd, ↓rdSub, ↓rdMul, ↓rdMod, ↓rdDiv, ↓rdPow, ↓rdCmp, ↓rdEq, ↓rdNe, ↓rdIadd, ↓rdIn, ↓rdSorted, ↓rdSl, ↓isT, ↓rdAppend, ↓itemsOf, ↓rvOf, ↓argsOf, ↓argOf, Nat.reduceAdd, Nat.reduceLT, Nat.reduceSub, Int.reduceLT, Int.reduceLE, Int.reduceAdd, Int.reduceEq, Int.reduceNeg, Nat.reduceLeDiff, Nat.zero_add, Nat.reduceEqDiff, Nat.reduceBEq, ix41, ix42, ix43, ix40, List.length_cons, List.length_nil, List.map_cons, List.map_nil, List.replicate, List.cons_append, List.nil_append, List.getElem?_cons_zero, List.getElem?_cons_succ, List.set_cons_zero, List.set_cons_succ, Option.map_some, at0, at1, at2, at3, ix0, ix1, ix2, ix3, sh_int, sh_bl, sh_non, eqv_int, eqv_bl, eqv_str, decide_eq_true_eq, Bool.not_eq_true, Bool.not_true, Bool.not_false, Bool.false_eq_true, true_and, and_true, if_true, if_false, ite_true, ite_false, List.length_map, List.length_set, Sl.isD, List.mem_singleton, List.mem_cons, List.not_mem_nil, not_true_eq_false, not_false_eq_true, or_false])
section
variable {args : List Sl} {Q : Sl → (Nat → Option Sl) → Prop}
theorem h_law_b_question {j : Nat} (hl : args.length = 3) (h : spR_law_b_question (j + 1) args Q) : t_law_b_question (spR_law_b_question j) (KD Q) (startE 7 args) := by
  obtain ⟨tp, ps, lv, rfl, hps, hlv, ht, k⟩ := h
  unfold t_law_b_question
  rw [pgsD]
  refine seq_i fun Kc hK => ?_
  walk_at "go"
  refine draw_i (by first | decide | omega) (by assumption) (by first | decide | omega) fun ch tp1 _ t1 ch0 ch1 => ?_
  walk_at "go"
  subst hK
  refine seq_i fun Kc hK => ?_
  have fin : ∀ (tp : List PyData), TapeOk tp → Kc [some (.l (tp)), some (.d (.list (ps.map pgD))), some (.d (.int lv)), some (.d (.int ch)), none, none, none] := by
    intro tp t2
    subst hK
    refine seq_i fun Kc hK => ?_
    walk_at "go"
    refine pick_map pgD ps PgOk (by rfl) (by have := hps.1; omega) t2 hps.2 fun p tp3 _ t3 hp => ?_
    have hn := hp.1
    have hnl := hn.1
    have hpl := hp.2.2.1
    walk_at "go"
    subst hK
    refine seq_i fun Kc hK => ?_
    by_cases c9 : ch = 9
    · nomatch c9, pgD
      refine ⟨small_of (by omega), ?_⟩
      refine draw_i (by omega) t3 (by omega) fun r tp4 _ t4 r0 r1 => ?_
      walk_at "go"
      refine ⟨small_of (by omega), ?_⟩
      have k2 := fun q os => k (.under q) tp4 os
      simp only [qD, QOk] at k2
      exact k2 _ _ ⟨by omega, tx_cut hn _ _⟩ t4 rfl
    have e9 : (ch == 9) = false := by simp [c9]
    nomatch c9, decide_false
    subst hK
    refine seq_i fun Kc hK => ?_
    by_cases c10 : ch = 10
    · nomatch c10, pgD
      refine ⟨small_of (by omega), ?_⟩
      refine pick_map .str (p.links ++ [p.name, ("z.eu/" : Str)]) Tx' (by rw [itemsOf, List.map_append]; rfl) (by rw [List.length_append]; simp; omega) t3 (fun z hz => ?_) fun z tp4 _ t4 hz4 => ?_
      · rcases List.mem_append.mp hz with q | q
        · exact hp.2.2.2 z q
        · simp only [List.mem_cons, List.not_mem_nil, or_false] at q
          rcases q with rfl | rfl
          · exact hn
          · exact tx_zeu
      walk_at "go"
      have k2 := fun q os => k (.links q) tp4 os
      simp only [qD, QOk] at k2
      exact k2 _ _ ⟨by omega, hz4⟩ t4 rfl
    nomatch c10, decide_false
    subst hK
    refine seq_i fun Kc hK => ?_
    by_cases c11 : ch = 11
    · nomatch c11, pgD
      refine draw_i (by first | decide | omega) (by assumption) (by first | decide | omega) fun r tp4 _ t4 r0 r1 => ?_
      walk_at "go"
      have k2 := fun q os => k (.since q) tp4 os
      simp only [qD, QOk] at k2
      exact k2 _ _ (by omega) t4 rfl
    nomatch c11, decide_false
    subst hK
    walk_at "go"
    refine ⟨tp3, ps, rfl, hps, t3, fun kd ph pt mo tp5 os hq t5 e5 => ?_⟩
    rw [← ios_eq e5]
    walk_at "go"
    exact k _ _ _ (QOk_mono (by omega) hq) t5 rfl
  by_cases c1 : 1 < lv
  · by_cases c2 : ch < 6
    · cases j with
      | zero => omega
      | succ j =>
        nomatch c1, c2, decide_true
        by_cases c3 : ch = 0
        · nomatch c3, decide_true
          refine ⟨tp1, ps, lv - 1, rfl, hps, by omega, t1, fun q tp5 os hq t5 e5 => ?_⟩
          rw [← ios_eq e5]
          walk_at "go"
          have k2 := fun os => k (.neg q) tp5 os
          simp only [qD] at k2
          exact k2 _ (QOk_neg.mpr hq) t5 rfl
        nomatch c3, decide_false
        refine lc_inv (fun xs => ∃ n : Int, xs = rngL 0 n ∧ 0 ≤ n ∧ n ≤ 4) (fun env => ∃ tp, TapeOk tp ∧ env = [some (.l (tp)), some (.d (.list (ps.map pgD))), some (.d (.int lv)), some (.d (.int ch)), none, none, none]) (fun y => ∃ q, y = qD q ∧ QOk (j + 1) q) (fun R hR => ?_) (fun xs hP => ?_) (fun xs x hP hx env hJ => ?_) (fun xs env acc hP hJ hlen hY => ?_)
        · walk_at "go"
          refine pick_ints [2, 2, 1, 3, 0, 2, 4, 2] (fun n => 0 ≤ n ∧ n ≤ 4) (by rfl) (by simp) t1 (by decide) fun n tp2 _ t2 hn => ?_
          walk_at "go"
          exact ⟨⟨by omega, by omega⟩, hR _ _ ⟨_, rfl, hn.1, hn.2⟩ ⟨_, t2, rfl⟩⟩
        · obtain ⟨n, rfl, n1, n2⟩ := hP
          rw [rng_len]
          exact small_of (by omega)
        · obtain ⟨tp, ht, rfl⟩ := hJ
          refine ⟨by simp [noOwn], fun A B hA hB => ?_⟩
          nomatch wipeE
          refine ⟨tp, ps, lv - 1, rfl, hps, by omega, ht, fun q tp5 os hq t5 e5 => ?_⟩
          rw [← ios_eq e5]
          nomatch mergeE
          exact ⟨hA, hB _ _ ⟨_, t5, rfl⟩ ⟨_, rfl, hq⟩⟩
        obtain ⟨n, rfl, n1, n2⟩ := hP
        obtain ⟨tp9, t9, rfl⟩ := hJ
        rw [rng_len] at hlen
        obtain ⟨qs, rfl, hqs⟩ := map_of qD hY
        rw [List.length_map] at hlen
        walk_at "go"
        refine draw_i (by first | decide | omega) (by assumption) (by first | decide | omega) fun r tp10 _ t10 r0 r1 => ?_
        have k2 := fun b os => k (.all b qs) tp10 os (QOk_all.mpr ⟨by omega, hqs⟩) t10
        simp only [q_all] at k2
        by_cases c4 : r = 0
        · subst c4
          walk_at "go"
          exact k2 true _ rfl
        · obtain rfl : r = 1 := by omega
          walk_at "go"
          exact k2 false _ rfl
    · nomatch c1, c2, decide_true, decide_false
      exact fin tp1 t1
  · nomatch c1, decide_false
    exact fin tp1 t1
theorem h_law_b_asked (hl : args.length = 2) (h : sp_law_b_asked args Q) : t_law_b_asked (KD Q) (startE 3 args) := by
  obtain ⟨tp, ps, rfl, hps, ht, k⟩ := h
  unfold t_law_b_asked
  rw [pgsD]
  refine seq_i fun Kc hK => ?_
  walk_at "go"
  refine pick_ints [1, 2, 2, 3, 3] (fun n => n ≤ ((2 + 1 : Nat) : Int)) (by rfl) (by simp) ht (by decide) fun lv tp1 _ t1 hlv => ?_
  walk_at "go"
  refine ⟨tp1, ps, lv, rfl, hps, hlv, t1, fun q tp2 os hq t2 e2 => ?_⟩
  rw [← ios_eq e2]
  walk_at "go"
  subst hK
  refine seq_i fun Kc hK => ?_
  have fin : ∀ (q : Qn) (tp : List PyData), QOk 5 q → TapeOk tp → Kc [some (.l (tp)), some (.d (.list (ps.map pgD))), some (.d (qD q))] := by
    intro q tp hq t3
    subst hK
    refine seq_i fun Kc hK => ?_
    walk_at "go"
    refine ⟨q, rfl, QOk_mono (e := 9) (by omega) hq, fun os => ?_⟩
    by_cases c : (16 : Int) < (sizeN q : Nat)
    · nomatch c, decide_true
      refine ⟨tp, ps, rfl, hps, t3, fun kd ph pt mo tp5 os hq2 t5 e5 => ?_⟩
      rw [← ios_eq e5]
      walk_at "go"
      have hph : PhOk ph := by rw [QOk] at hq2; exact hq2.2.1
      exact k _ _ _ (QOk_mono (by omega) hq2) (by rw [sizeN]; have := hph.1; omega) t5 rfl
    · nomatch c, decide_false
      subst hK
      walk_at "go"
      exact k _ _ _ hq (by omega) t3 rfl
  refine ifs_any (fun b e => ∃ tp, TapeOk tp ∧ e = [some (.l (tp)), some (.d (.list (ps.map pgD))), some (.d (qD q))]) (fun K hK2 => ?_) (fun e he => ?_) fun e he => ?_
  · walk_at "go"
    refine draw_i (by first | decide | omega) (by assumption) (by first | decide | omega) fun r tp5 _ t5 r0 r1 => ?_
    walk_at "go"
    exact hK2 _ _ ⟨_, t5, rfl⟩
  · obtain ⟨tp5, t5, rfl⟩ := he
    walk_at "go"
    refine ⟨tp5, ps, rfl, hps, t5, fun kd ph pt mo tp6 os hq2 t6 e6 => ?_⟩
    rw [← ios_eq e6]
    walk_at "go"
    have f2 := fin (.neg (.all true [.all false [.neg (.words kd ph pt mo)]])) tp6 (QOk_neg.mpr (QOk_all.mpr ⟨by simp, fun x hx => by rw [List.mem_singleton.mp hx]; exact QOk_all.mpr ⟨by simp, fun y hy => by rw [List.mem_singleton.mp hy]; exact QOk_neg.mpr hq2⟩⟩)) t6
    simp only [qD, qDs, wordB, if_true] at f2
    exact f2
  · obtain ⟨tp5, t5, rfl⟩ := he
    walk_at "go"
    exact fin q tp5 (QOk_mono (d := 3) (by omega) hq) t5
end
end Dlk33

set_option Elab.async false
set_option linter.all false
set_option maxRecDepth 100000
set_option maxHeartbeats 4000000
set_option autoImplicit false
namespace Dlk33
open PySem PySem.Spec L2 DL
local macro_rules | `(tactic| walk_at "go") => `(tactic| simp only [outE_i, outE_n, sz0, sz1, sz2, sz3, sz4, sz5, sz6, sz7, sz8, sz9, sz10, sz11, sz12, sz13, sz14, sz15, sz16, ↓tdFr, ↓frE, ↓rdDivmod, ↓rdNotIn, ↓tdTru, ↓rdMulW, ↓rdGcd, ↓rdRgV, ↓tdRgI, ↓tdEnum2, ↓tdZip2, ↓tdPar, ↓tdRevA, ↓tdRevR, ↓rdDivP, ↓tdTupRg, ↓tdSortSet, ↓tdRepV, ↓tdSwap, ↓rdLcm, ↓tdRepE, ↓rdSortedA, ↓rdMaxA, ↓rdInsert, ↓tdSw, ↓tdRevT, ↓rdSortedS, ↓startE, ↓tdSeq, ↓tdSet, ↓tdSetD, ↓tdDrop, ↓tdRet, ↓tdIfS, ↓tdNext, ↓tdAsg, ↓tdV, ↓tdC, ↓tdBin, ↓tdB, ↓tdCons, ↓tdNil, ↓tdTup, ↓tdLst, ↓tdTest, ↓tdAnd, ↓tdOr, ↓tdNot, ↓tdIf, ↓tdAndV, ↓tdOrV, ↓tdNotV, ↓tdNeg, ↓tdIsN, ↓tdNotN, ↓tdSl, ↓tdPart, ↓tdNoPart, ↓tdM, ↓tdSetIx, ↓tdAug, ↓tdPut, ↓tdGet2, ↓tdIsi, ↓tdListRg, ↓gdName, ↓gdNil, ↓gdCons, ↓gdTup, ↓tdIt, ↓tdRng1, ↓tdRng2, ↓tdCall, ↓tdNew, ↓tdJoin, ↓gcName, ↓gcNil, ↓gcCons, ↓gcTup, ↓tdYes, ↓res, ↓resR, ↓resAll, ↓rvD, ↓rdLen, ↓rdInt, ↓rdAbs, ↓rdMax2, ↓rdMin2, ↓rdOrd, ↓rdTuple, ↓rdList, ↓rdIx, ↓rdAdd, ↓rdSub, ↓rdMul, ↓rdMod, ↓rdDiv, ↓rdPow, ↓rdCmp, ↓rdEq, ↓rdNe, ↓rdIadd, ↓rdIn, ↓rdSorted, ↓rdSl, ↓isT, ↓rdAppend, ↓itemsOf, ↓rvOf, ↓argsOf, ↓argOf, Nat.reduceAdd, Nat.reduceLT, Nat.reduceSub, Int.reduceLT, Int.reduceLE, Int.reduceAdd, Int.reduceEq, Int.reduceNeg, Nat.reduceLeDiff, Nat.zero_add, Nat.reduceEqDiff, Nat.reduceBEq, ix41, ix42, ix43, ix40, List.length_cons, List.length_nil, List.map_cons, List.map_nil, List.replicate, List.cons_append, List.nil_append, List.getElem?_cons_zero, List.getElem?_cons_succ, List.set_cons_zero, List.set_cons_succ, Option.map_some, at0, at1, at2, at3, ix0, ix1, ix2, ix3, sh_int, sh_bl, sh_non, eqv_int, eqv_bl, eqv_str, decide_eq_true_eq, Bool.not_eq_true, Bool.not_true, Bool.not_false, Bool.false_eq_true, true_and, and_true, if_true, if_false, ite_true, ite_false, List.length_map, List.length_set, Sl.isD, List.mem_singleton, List.mem_cons, List.not_mem_nil, not_true_eq_false, not_false_eq_true, or_false])
local macro_rules | `(tactic| nomatch $xs,*) => `(tactic| simp only [$[$xs:term],*, outE_i, outE_n, sz0, sz1, sz2, sz3, sz4, sz5, sz6, sz7, sz8, sz9, sz10, sz11, sz12, sz13, sz14, sz15, sz16, ↓tdFr, ↓frE, ↓rdDivmod, ↓rdNotIn, ↓tdTru, ↓rdMulW, ↓rdGcd, ↓rdRgV, ↓tdRgI, ↓tdEnum2, ↓tdZip2, ↓tdPar, ↓tdRevA, ↓tdRevR, ↓rdDivP, ↓tdTupRg, ↓tdSortSet, ↓tdRepV, ↓tdSwap, ↓rdLcm, ↓tdRepE, ↓rdSortedA, ↓rdMaxA, ↓rdInsert, ↓tdSw, ↓tdRevT, ↓rdSortedS, ↓startE, ↓tdSeq, ↓tdSet, ↓tdSetD, ↓tdDrop, ↓tdRet, ↓tdIfS, ↓tdNext, ↓tdAsg, ↓tdV, ↓tdC, ↓tdBin, ↓tdB, ↓tdCons, ↓tdNil, ↓tdTup, ↓tdLst, ↓tdTest, ↓tdAnd, ↓tdOr, ↓tdNot, ↓tdIf, ↓tdAndV, ↓tdOrV, ↓tdNotV, ↓tdNeg, ↓tdIsN, ↓tdNotN, ↓tdSl, ↓tdPart, ↓tdNoPart, ↓tdM, ↓tdSetIx, ↓tdAug, ↓tdPut, ↓tdGet2, ↓tdIsi, ↓tdListRg, ↓gdName, ↓gdNil, ↓gdCons, ↓gdTup, ↓tdIt, ↓tdRng1, ↓tdRng2, ↓tdCall, ↓tdNew, ↓tdJoin, ↓gcName, ↓gcNil, ↓gcCons, ↓gcTup, ↓tdYes, ↓res, ↓resR, ↓resAll, ↓rvD, ↓rdLen, ↓rdInt, ↓rdAbs, ↓rdMax2, ↓rdMin2, ↓rdOrd, ↓rdTuple, ↓rdList, ↓rdIx, ↓rdAdd, ↓rdSub, ↓rdMul, ↓rdMod, ↓rdDiv, ↓rdPow, ↓rdCmp, ↓rdEq, ↓rdNe, ↓rdIadd, ↓rdIn, ↓rdSorted, ↓rdSl, ↓isT, ↓rdAppend, ↓itemsOf, ↓rvOf, ↓argsOf, ↓argOf, Nat.reduceAdd, Nat.reduceLT, Nat.reduceSub, Int.reduceLT, Int.reduceLE, Int.reduceAdd, Int.reduceEq, Int.reduceNeg, Nat.reduceLeDiff, Nat.zero_add, Nat.reduceEqDiff, Nat.reduceBEq, ix41, ix42, ix43, ix40, List.length_cons, List.length_nil, List.map_cons, List.map_nil, List.replicate, List.cons_append, List.nil_append, List.getElem?_cons_zero, List.getElem?_cons_succ, List.set_cons_zero, List.set_cons_succ, Option.map_some, at0, at1, at2, at3, ix0, ix1, ix2, ix3, sh_int, sh_bl, sh_non, eqv_int, eqv_bl, eqv_str, decide_eq_true_eq, Bool.not_eq_true, Bool.not_true, Bool.not_false, Bool.false_eq_true, true_and, and_true, if_true, if_false, ite_true, ite_false, List.length_map, List.length_set, Sl.isD, List.mem_singleton, List.mem_cons, List.not_mem_nil, not_true_eq_false, not_false_eq_true, or_false])
theorem ok_all {d : Nat} {b : Bool} {qs : List Qn} (h : qs.length ≤ 8) (g : ∀ q ∈ qs, QOk d q) : QOk (d + 1) (.all b qs) := QOk_all.mpr ⟨h, g⟩
theorem ok_all1 {d : Nat} {b : Bool} {q : Qn} (g : QOk d q) : QOk (d + 1) (.all b [q]) := ok_all (by simp) fun x hx => by rw [List.mem_singleton.mp hx]; exact g
theorem ok_e {d : Nat} {b : Bool} : QOk (d + 1) (.all b []) := ok_all (by simp) fun x hx => by cases hx
theorem ok_all2 {d : Nat} {b c : Bool} {q : Qn} (g : QOk (d + 1) q) : QOk (d + 2) (.all b [q, .all c []]) := ok_all (by simp) fun x hx => by
  simp only [List.mem_cons, List.not_mem_nil, or_false] at hx
  rcases hx with rfl | rfl
  · exact g
  · exact ok_e
theorem turn_pick {tp : List PyData} {q : Qn} {D : PyData} (e : D = qD q) (hq : QOk 5 q) {R : Sl → (Nat → Option Sl) → Prop} (ht : TapeOk tp) (k : ∀ q' tp' os, QOk 9 q' → TapeOk tp' → R (.d (qD q')) (ios (.l tp') os)) : sp_law_pick [.l tp, .d (.list [.tuple [.str "or", .tuple [D]], .tuple [.str "and", .tuple [D, .tuple [.str "and", .tuple []]]], .tuple [.str "or", .tuple [D, .tuple [.str "or", .tuple []]]], .tuple [.str "not", D]])] R := by
  subst e
  refine pick_map qD [.all false [q], .all true [q, .all true []], .all false [q, .all false []], .neg q] (QOk 9) ?_ (by simp) ht (fun n hn => ?_) fun n tp' os ht' hn => k n tp' os hn ht'
  · simp only [itemsOf, List.map_cons, List.map_nil, qD, qDs, wordB, if_true]
    rfl
  · simp only [List.mem_cons, List.not_mem_nil, or_false] at hn
    rcases hn with rfl | rfl | rfl | rfl
    · exact QOk_mono (d := 6) (by omega) (ok_all1 hq)
    · exact QOk_mono (d := 6) (by omega) (ok_all2 hq)
    · exact QOk_mono (d := 6) (by omega) (ok_all2 hq)
    · exact QOk_mono (d := 6) (by omega) (QOk_neg.mpr hq)
theorem leafW : ∀ q : Qn, (∃ b qs, q = .all b qs) ∨ ∃ w r, qD q = .tuple (.str w :: r) ∧ SeqAt.shaped (.str w) = true ∧ ([PyData.str "and", .str "or"].any fun z => PyData.eqv z (.str w)) = false
  | .all b qs => .inl ⟨b, qs, rfl⟩
  | .words .. => .inr ⟨"words", _, by rw [qD], shq_words, ao_words⟩
  | .neg .. => .inr ⟨"not", _, by rw [qD], shq_not, ao_not⟩
  | .under .. => .inr ⟨"under", _, by rw [qD], shq_under, ao_under⟩
  | .links .. => .inr ⟨"links", _, by rw [qD], shq_links, ao_links⟩
  | .since .. => .inr ⟨"since", _, by rw [qD], shq_since, ao_since⟩
theorem qs_perm {d : Nat} {qs : List Qn} {ys : List PyData} (p : ys.Perm (qs.map qD)) (h : ∀ q ∈ qs, QOk d q) : ∃ rs : List Qn, ys = rs.map qD ∧ rs.length = qs.length ∧ ∀ q ∈ rs, QOk d q := by
  obtain ⟨rs, rfl, hr⟩ := map_of (p := QOk d) qD (acc := ys) fun y hy => by
    obtain ⟨q, hq, rfl⟩ := List.mem_map.mp (p.mem_iff.mp hy)
    exact ⟨q, rfl, h q hq⟩
  have := p.length_eq
  rw [List.length_map, List.length_map] at this
  exact ⟨rs, rfl, this, hr⟩
theorem ifs_t {c : TDT} {t u : TDS} {D : DE} {env e' : En} (h : ∀ K : Bool → En → Prop, K true e' → c env K) (g : t D e') : tdIfS c t u D env := h _ (by rw [if_pos rfl]; exact g)
section
variable {args : List Sl} {Q : Sl → (Nat → Option Sl) → Prop}
theorem h_law_turned (hl : args.length = 2) (h : sp_law_turned args Q) : t_law_turned (KD Q) (startE 8 args) := by
  obtain ⟨tp, q, rfl, hq, ht, k⟩ := h
  unfold t_law_turned
  rcases leafW q with ⟨b, qs, rfl⟩ | ⟨w, r, e, sw, ao⟩
  · obtain ⟨hl8, hqs⟩ := QOk_all.mp hq
    rw [q_all]
    cases b with
    | true =>
      rw [show wordB true = "and" from rfl]
      refine seq_i fun Kc hK => ?_
      walk_at "go"
      subst hK
      refine seq_i fun Kc hK => ?_
      refine ifs_t (e' := [some (.l (tp)), some (.d (.tuple [.str "and", .tuple (qs.map qD)])), some (.d (.str "and")), none, none, none, none, none]) (fun K hK2 => ?_) ?_
      · nomatch shq_and, shl_ao, ao_and, decide_true, decide_false
        exact hK2
      refine seq_i fun Kd hKd => ?_
      nomatch shq_and, shq_and, nq_or_and, decide_true, decide_false
      subst hKd
      refine seq_i fun Kd hKd => ?_
      walk_at "go"
      refine ⟨tp, _, _, rfl, .inr rfl, by rw [List.length_map]; omega, ht, fun ys tp1 os py t1 e1 => ?_⟩
      rw [← ios_eq e1]
      obtain ⟨rs, rfl, hrl, hrs⟩ := qs_perm py hqs
      rw [hrl.symm] at hl8
      walk_at "go"
      subst hKd
      refine seq_i fun Kd hKd => ?_
      walk_at "go"
      refine draw_i (by first | decide | omega) (by assumption) (by first | decide | omega) fun ch tp2 _ t2 ch0 ch1 => ?_
      walk_at "go"
      subst hKd
      refine seq_i fun Kd hKd => ?_
      by_cases c0 : ch = 0
      · nomatch c0, decide_true
        refine lc_map rs qD (fun q => qD (.neg q)) (fun R hR => ?_) (small_of (by omega)) (by simp [noOwn]) (fun q hq2 A B hA hB => ?_) ?_
        · walk_at "go"
          exact hR
        · rw [qD] at hB
          nomatch wipeE, mergeE
          exact ⟨hA, hB⟩
        walk_at "go"
        have k2 := fun os => k (.neg (.all false (rs.map .neg))) tp2 os ((QOk_neg (d := 8)).mpr (QOk_mono (d := 6) (by omega) (ok_all (d := 5) (by rw [List.length_map]; omega) fun x hx => by
          obtain ⟨y, hy, rfl⟩ := List.mem_map.mp hx
          exact QOk_neg.mpr (hrs y hy)))) t2
        rw [qD, q_all, List.map_map] at k2
        exact k2 _ rfl
      nomatch c0, decide_false
      subst hKd
      refine seq_i fun Kd hKd => ?_
      have fin : Kd [some (.l (tp2)), some (.d (.tuple [.str "and", .tuple (qs.map qD)])), some (.d (.str "and")), some (.d (.str "or")), some (.d (.tuple (rs.map qD))), some (.d (.int ch)), none, none] := by
        subst hKd
        refine seq_i fun Kd hKd => ?_
        by_cases c2 : ch = 2
        · nomatch c2, decide_true
          have k2 := fun os => k (.all true [.all false [.all true rs]]) tp2 os (QOk_mono (d := 7) (by omega) (ok_all1 (ok_all1 (ok_all hl8 hrs)))) t2
          simp only [q_all, List.map_cons, List.map_nil, wordB, if_true] at k2
          exact k2 _ rfl
        nomatch c2, decide_false
        subst hKd
        walk_at "go"
        have k2 := fun os => k (.all true rs) tp2 os (QOk_mono (d := 5) (by omega) (ok_all hl8 hrs)) t2
        rw [q_all] at k2
        exact k2 _ rfl
      by_cases c1 : ch = 1
      · by_cases c3 : 0 < rs.length
        · have c4 : (0 : Int) < (rs.length : Nat) := by omega
          refine ifs_t (e' := [some (.l (tp2)), some (.d (.tuple [.str "and", .tuple (qs.map qD)])), some (.d (.str "and")), some (.d (.str "or")), some (.d (.tuple (rs.map qD))), some (.d (.int ch)), none, none]) (fun K hK2 => ?_) ?_
          · nomatch c1, c4, decide_true
            rw [c1] at hK2
            exact hK2
          refine seq_i fun Ke hKe => ?_
          walk_at "go"
          refine draw_i (by omega) t2 (by omega) fun r0 tp3 _ t3 r1 r2 => ?_
          obtain ⟨r, rfl⟩ : ∃ n : Nat, r0 = n := ⟨r0.toNat, by omega⟩
          walk_at "go"
          subst hKe
          have hc := cut_lo qD rs r
          have hd := cut_hi qD rs r
          nomatch hc, hd
          have k2 := fun os => k (.all true (rs.take r ++ [.all true (rs.drop r)])) tp3 os (QOk_mono (d := 6) (by omega) (ok_all (by rw [List.length_append, List.length_take, List.length_singleton]; omega) fun x hx => by
            rcases List.mem_append.mp hx with m | m
            · exact QOk_mono (d := 4) (by omega) (hrs x (List.mem_of_mem_take m))
            · rw [List.mem_singleton.mp m]; exact ok_all (by rw [List.length_drop]; omega) fun y hy => hrs y (List.mem_of_mem_drop hy))) t3
          simp only [q_all, List.map_append, List.map_cons, List.map_nil, wordB, if_true] at k2
          exact ⟨small_of (by rw [List.length_take]; omega), k2 _ rfl⟩
        · have c4 : ¬ (0 : Int) < (rs.length : Nat) := by omega
          nomatch c1, c4, decide_true, decide_false
          rw [c1] at fin
          exact fin
      · nomatch c1, decide_false
        exact fin
    | false =>
      rw [show wordB false = "or" from rfl]
      refine seq_i fun Kc hK => ?_
      walk_at "go"
      subst hK
      refine seq_i fun Kc hK => ?_
      refine ifs_t (e' := [some (.l (tp)), some (.d (.tuple [.str "or", .tuple (qs.map qD)])), some (.d (.str "or")), none, none, none, none, none]) (fun K hK2 => ?_) ?_
      · nomatch shq_or, shl_ao, ao_or, decide_true, decide_false
        exact hK2
      refine seq_i fun Kd hKd => ?_
      nomatch shq_or, shq_and, nq_or_and, decide_true, decide_false
      subst hKd
      refine seq_i fun Kd hKd => ?_
      walk_at "go"
      refine ⟨tp, _, _, rfl, .inr rfl, by rw [List.length_map]; omega, ht, fun ys tp1 os py t1 e1 => ?_⟩
      rw [← ios_eq e1]
      obtain ⟨rs, rfl, hrl, hrs⟩ := qs_perm py hqs
      rw [hrl.symm] at hl8
      walk_at "go"
      subst hKd
      refine seq_i fun Kd hKd => ?_
      walk_at "go"
      refine draw_i (by first | decide | omega) (by assumption) (by first | decide | omega) fun ch tp2 _ t2 ch0 ch1 => ?_
      walk_at "go"
      subst hKd
      refine seq_i fun Kd hKd => ?_
      by_cases c0 : ch = 0
      · nomatch c0, decide_true
        refine lc_map rs qD (fun q => qD (.neg q)) (fun R hR => ?_) (small_of (by omega)) (by simp [noOwn]) (fun q hq2 A B hA hB => ?_) ?_
        · walk_at "go"
          exact hR
        · rw [qD] at hB
          nomatch wipeE, mergeE
          exact ⟨hA, hB⟩
        walk_at "go"
        have k2 := fun os => k (.neg (.all true (rs.map .neg))) tp2 os ((QOk_neg (d := 8)).mpr (QOk_mono (d := 6) (by omega) (ok_all (d := 5) (by rw [List.length_map]; omega) fun x hx => by
          obtain ⟨y, hy, rfl⟩ := List.mem_map.mp hx
          exact QOk_neg.mpr (hrs y hy)))) t2
        rw [qD, q_all, List.map_map] at k2
        exact k2 _ rfl
      nomatch c0, decide_false
      subst hKd
      refine seq_i fun Kd hKd => ?_
      have fin : Kd [some (.l (tp2)), some (.d (.tuple [.str "or", .tuple (qs.map qD)])), some (.d (.str "or")), some (.d (.str "and")), some (.d (.tuple (rs.map qD))), some (.d (.int ch)), none, none] := by
        subst hKd
        refine seq_i fun Kd hKd => ?_
        by_cases c2 : ch = 2
        · nomatch c2, decide_true
          have k2 := fun os => k (.all true [.all false [.all false rs]]) tp2 os (QOk_mono (d := 7) (by omega) (ok_all1 (ok_all1 (ok_all hl8 hrs)))) t2
          simp only [q_all, List.map_cons, List.map_nil, wordB, if_true] at k2
          exact k2 _ rfl
        nomatch c2, decide_false
        subst hKd
        walk_at "go"
        have k2 := fun os => k (.all false rs) tp2 os (QOk_mono (d := 5) (by omega) (ok_all hl8 hrs)) t2
        rw [q_all] at k2
        exact k2 _ rfl
      by_cases c1 : ch = 1
      · by_cases c3 : 0 < rs.length
        · have c4 : (0 : Int) < (rs.length : Nat) := by omega
          refine ifs_t (e' := [some (.l (tp2)), some (.d (.tuple [.str "or", .tuple (qs.map qD)])), some (.d (.str "or")), some (.d (.str "and")), some (.d (.tuple (rs.map qD))), some (.d (.int ch)), none, none]) (fun K hK2 => ?_) ?_
          · nomatch c1, c4, decide_true
            rw [c1] at hK2
            exact hK2
          refine seq_i fun Ke hKe => ?_
          walk_at "go"
          refine draw_i (by omega) t2 (by omega) fun r0 tp3 _ t3 r1 r2 => ?_
          obtain ⟨r, rfl⟩ : ∃ n : Nat, r0 = n := ⟨r0.toNat, by omega⟩
          walk_at "go"
          subst hKe
          have hc := cut_lo qD rs r
          have hd := cut_hi qD rs r
          nomatch hc, hd
          have k2 := fun os => k (.all false (rs.take r ++ [.all false (rs.drop r)])) tp3 os (QOk_mono (d := 6) (by omega) (ok_all (by rw [List.length_append, List.length_take, List.length_singleton]; omega) fun x hx => by
            rcases List.mem_append.mp hx with m | m
            · exact QOk_mono (d := 4) (by omega) (hrs x (List.mem_of_mem_take m))
            · rw [List.mem_singleton.mp m]; exact ok_all (by rw [List.length_drop]; omega) fun y hy => hrs y (List.mem_of_mem_drop hy))) t3
          simp only [q_all, List.map_append, List.map_cons, List.map_nil, wordB, if_true] at k2
          exact ⟨small_of (by rw [List.length_take]; omega), k2 _ rfl⟩
        · have c4 : ¬ (0 : Int) < (rs.length : Nat) := by omega
          nomatch c1, c4, decide_true, decide_false
          rw [c1] at fin
          exact fin
      · nomatch c1, decide_false
        exact fin
  · rw [e]
    refine seq_i fun Kc hK => ?_
    walk_at "go"
    subst hK
    refine seq_i fun Kc hK => ?_
    nomatch sw, shl_ao, ao, decide_true, decide_false
    subst hK
    walk_at "go"
    refine turn_pick e.symm hq ht fun q' tp' os hq' ht' => ?_
    walk_at "go"
    exact k _ _ _ hq' ht' rfl
end
end Dlk33

set_option Elab.async false
set_option linter.all false
set_option maxRecDepth 100000
set_option maxHeartbeats 4000000
set_option autoImplicit false
namespace Dlk33
open PySem PySem.Spec L2 DL
local macro_rules | `(tactic| walk_at "go") => `(tactic| simp only [outE_i, outE_n, sz0, sz1, sz2, sz3, sz4, sz5, sz6, sz7, sz8, sz9, sz10, sz11, sz12, sz13, sz14, sz15, sz16, ↓tdFr, ↓frE, ↓rdDivmod, ↓rdNotIn, ↓tdTru, ↓rdMulW, ↓rdGcd, ↓rdRgV, ↓tdRgI, ↓tdEnum2, ↓tdZip2, ↓tdPar, ↓tdRevA, ↓tdRevR, ↓rdDivP, ↓tdTupRg, ↓tdSortSet, ↓tdRepV, ↓tdSwap, ↓rdLcm, ↓tdRepE, ↓rdSortedA, ↓rdMaxA, ↓rdInsert, ↓tdSw, ↓tdRevT, ↓rdSortedS, ↓startE, ↓tdSeq, ↓tdSet, ↓tdSetD, ↓tdDrop, ↓tdRet, ↓tdIfS, ↓tdNext, ↓tdAsg, ↓tdV, ↓tdC, ↓tdBin, ↓tdB, ↓tdCons, ↓tdNil, ↓tdTup, ↓tdLst, ↓tdTest, ↓tdAnd, ↓tdOr, ↓tdNot, ↓tdIf, ↓tdAndV, ↓tdOrV, ↓tdNotV, ↓tdNeg, ↓tdIsN, ↓tdNotN, ↓tdSl, ↓tdPart, ↓tdNoPart, ↓tdM, ↓tdSetIx, ↓tdAug, ↓tdPut, ↓tdGet2, ↓tdIsi, ↓tdListRg, ↓gdName, ↓gdNil, ↓gdCons, ↓gdTup, ↓tdIt, ↓tdRng1, ↓tdRng2, ↓tdCall, ↓tdNew, ↓tdJoin, ↓gcName, ↓gcNil, ↓gcCons, ↓gcTup, ↓tdYes, ↓res, ↓resR, ↓resAll, ↓rvD, ↓rdLen, ↓rdInt, ↓rdAbs, ↓rdMax2, ↓rdMin2, ↓rdOrd, ↓rdTuple, ↓rdList, ↓rdIx, ↓rdAdd, ↓rdSub, ↓rdMul, ↓rdMod, ↓rdDiv, ↓rdPow, ↓rdCmp, ↓rdEq, ↓rdNe, ↓rdIadd, ↓rdIn, ↓rdSorted, ↓rdSl, ↓isT, ↓rdAppend, ↓itemsOf, ↓rvOf, ↓argsOf, ↓argOf, Nat.reduceAdd, Nat.reduceLT, Nat.reduceSub, Int.reduceLT, Int.reduceLE, Int.reduceAdd, Int.reduceEq, Int.reduceNeg, Nat.reduceLeDiff, Nat.zero_add, Nat.reduceEqDiff, Nat.reduceBEq, ix41, ix42, ix43, ix40, List.length_cons, List.length_nil, List.map_cons, List.map_nil, List.replicate, List.cons_append, List.nil_append, List.getElem?_cons_zero, List.getElem?_cons_succ, List.set_cons_zero, List.set_cons_succ, Option.map_some, at0, at1, at2, at3, ix0, ix1, ix2, ix3, sh_int, sh_bl, sh_non, eqv_int, eqv_bl, eqv_str, decide_eq_true_eq, Bool.not_eq_true, Bool.not_true, Bool.not_false, Bool.false_eq_true, true_and, and_true, if_true, if_false, ite_true, ite_false, List.length_map, List.length_set, Sl.isD, List.mem_singleton, List.mem_cons, List.not_mem_nil, not_true_eq_false, not_false_eq_true, or_false])
local macro_rules | `(tactic| nomatch $xs,*) => `(tactic| simp only [$[$xs:term],*, outE_i, outE_n, sz0, sz1, sz2, sz3, sz4, sz5, sz6, sz7, sz8, sz9, sz10, sz11, sz12, sz13, sz14, sz15, sz16, ↓tdFr, ↓frE, ↓rdDivmod, ↓rdNotIn, ↓tdTru, ↓rdMulW, ↓rdGcd, ↓rdRgV, ↓tdRgI, ↓tdEnum2, ↓tdZip2, ↓tdPar, ↓tdRevA, ↓tdRevR, ↓rdDivP, ↓tdTupRg, ↓tdSortSet, ↓tdRepV, ↓tdSwap, ↓rdLcm, ↓tdRepE, ↓rdSortedA, ↓rdMaxA, ↓rdInsert, ↓tdSw, ↓tdRevT, ↓rdSortedS, ↓startE, ↓tdSeq, ↓tdSet, ↓tdSetD, ↓tdDrop, ↓tdRet, ↓tdIfS, ↓tdNext, ↓tdAsg, ↓tdV, ↓tdC, ↓tdBin, ↓tdB, ↓tdCons, ↓tdNil, ↓tdTup, ↓tdLst, ↓tdTest, ↓tdAnd, ↓tdOr, ↓tdNot, ↓tdIf, ↓tdAndV, ↓tdOrV, ↓tdNotV, ↓tdNeg, ↓tdIsN, ↓tdNotN, ↓tdSl, ↓tdPart, ↓tdNoPart, ↓tdM, ↓tdSetIx, ↓tdAug, ↓tdPut, ↓tdGet2, ↓tdIsi, ↓tdListRg, ↓gdName, ↓gdNil, ↓gdCons, ↓gdTup, ↓tdIt, ↓tdRng1, ↓tdRng2, ↓tdCall, ↓tdNew, ↓tdJoin, ↓gcName, ↓gcNil, ↓gcCons, ↓gcTup, ↓tdYes, ↓res, ↓resR, ↓resAll, ↓rvD, ↓rdLen, ↓rdInt, ↓rdAbs, ↓rdMax2, ↓rdMin2, ↓rdOrd, ↓rdTuple, ↓rdList, ↓rdIx, ↓rdAdd, ↓rdSub, ↓rdMul, ↓rdMod, ↓rdDiv, ↓rdPow, ↓rdCmp, ↓rdEq, ↓rdNe, ↓rdIadd, ↓rdIn, ↓rdSorted, ↓rdSl, ↓isT, ↓rdAppend, ↓itemsOf, ↓rvOf, ↓argsOf, ↓argOf, Nat.reduceAdd, Nat.reduceLT, Nat.reduceSub, Int.reduceLT, Int.reduceLE, Int.reduceAdd, Int.reduceEq, Int.reduceNeg, Nat.reduceLeDiff, Nat.zero_add, Nat.reduceEqDiff, Nat.reduceBEq, ix41, ix42, ix43, ix40, List.length_cons, List.length_nil, List.map_cons, List.map_nil, List.replicate, List.cons_append, List.nil_append, List.getElem?_cons_zero, List.getElem?_cons_succ, List.set_cons_zero, List.set_cons_succ, Option.map_some, at0, at1, at2, at3, ix0, ix1, ix2, ix3, sh_int, sh_bl, sh_non, eqv_int, eqv_bl, eqv_str, decide_eq_true_eq, Bool.not_eq_true, Bool.not_true, Bool.not_false, Bool.false_eq_true, true_and, and_true, if_true, if_false, ite_true, ite_false, List.length_map, List.length_set, Sl.isD, List.mem_singleton, List.mem_cons, List.not_mem_nil, not_true_eq_false, not_false_eq_true, or_false])
theorem case_i {w : Str} {t s d : PyData} {R : Sl → (Nat → Option Sl) → Prop} (h : Due w t s d) (k : ∀ c os, CaseOk c → R (.d c) os) : sp_law_case [.d (.str w), .d t, .d s] R := ⟨w, t, s, d, rfl, h, fun os => k _ os ⟨w, t, s, d, rfl, h⟩⟩
theorem app_ok {cs ds : List PyData} (h : ∀ c ∈ cs, CaseOk c) (hx : ∀ c ∈ ds, CaseOk c) : ∀ c ∈ cs ++ ds, CaseOk c := fun c hc => (List.mem_append.mp hc).elim (h c) (hx c)
theorem ok3 {a b c : PyData} (ha : CaseOk a) (hb : CaseOk b) (hc : CaseOk c) : ∀ x ∈ [a, b, c], CaseOk x := fun x hx => by
  simp only [List.mem_cons, List.not_mem_nil, or_false] at hx
  rcases hx with rfl | rfl | rfl <;> assumption
theorem ok2 {a b : PyData} (ha : CaseOk a) (hb : CaseOk b) : ∀ x ∈ [a, b], CaseOk x := fun x hx => by
  simp only [List.mem_cons, List.not_mem_nil, or_false] at hx
  rcases hx with rfl | rfl <;> assumption
theorem ok1 {a : PyData} (ha : CaseOk a) : ∀ x ∈ [a], CaseOk x := fun x hx => by rw [List.mem_singleton.mp hx]; exact ha
theorem at_of {xs : List PyData} {k : Int} (h : 0 ≤ k) (h2 : k < xs.length) : ∃ c, atI xs k = some c ∧ c ∈ xs := by
  obtain ⟨n, rfl⟩ : ∃ n : Nat, k = n := ⟨k.toNat, by omega⟩
  exact ⟨xs[n]'(by omega), atI_nat (List.getElem?_eq_getElem (by omega)), List.getElem_mem _⟩
theorem tx_e : Tx' "" := by unfold Tx' Sg; decide +kernel
theorem pgD_eq (p : Pg) : pgD p = .tuple [.str p.name, .int p.tick, .tuple [wsD p.words, .tuple (p.links.map .str), .bool p.sh, .bool p.fo]] := rfl
section
variable {args : List Sl} {Q : Sl → (Nat → Option Sl) → Prop}
theorem h_law (hl : args.length = 1) (h : sp_law args Q) : t_law (KD Q) (startE 13 args) := by
  obtain ⟨ns, rfl, k⟩ := h
  unfold t_law
  refine seq_i fun Kc hK => ?_
  walk_at "go"
  refine ⟨ns, rfl, fun tp os t1 => ?_⟩
  walk_at "go"
  subst hK
  refine seq_i fun Kc hK => ?_
  walk_at "go"
  refine ⟨tp, rfl, t1, fun ps tp1 os hps t1 e1 => ?_⟩
  rw [← ios_eq e1]
  have hpl := hps.1
  walk_at "go"
  subst hK
  refine seq_i fun Kc hK => ?_
  walk_at "go"
  refine ⟨tp1, ps, rfl, hps, t1, fun kd ph pt mo tp2 os hw t2 e2 => ?_⟩
  rw [← ios_eq e2]
  walk_at "go"
  have hph : PhOk ph := by rw [QOk] at hw; exact hw.2.1
  subst hK
  refine seq_i fun Kc hK => ?_
  walk_at "go"
  refine ⟨tp2, ps, rfl, hps, t2, fun q tp3 os hq hqs t3 e3 => ?_⟩
  rw [← ios_eq e3]
  walk_at "go"
  subst hK
  refine seq_i fun Kc hK => ?_
  walk_at "go"
  refine ⟨tp3, q, rfl, hq, t3, fun q' tp4 os hq' t4 e4 => ?_⟩
  rw [← ios_eq e4]
  walk_at "go"
  subst hK
  refine seq_i fun Kc hK => ?_
  have hq9 : QOk 9 q := QOk_mono (d := 5) (by omega) hq
  have hw9 : QOk 9 (.words kd ph pt mo) := QOk_mono (d := 1) (by omega) hw
  have fin : ∀ (u : Qn) (tp : List PyData), QOk 9 u → sizeN u ≤ 100 → TapeOk tp → Kc [some (.d (.list (ns.map .int))), some (.l (tp)), some (.d (.list (ps.map pgD))), some (.d (qD (.words kd ph pt mo))), some (.d (qD q)), some (.d (qD u)), none, none, none, none, none, none, none] := by
    intro u tp hu hus t5
    subst hK
    refine seq_i fun Kc hK => ?_
    walk_at "go"
    refine pick_map pgD ps PgOk (by rfl) (by omega) t5 hps.2 fun p tp6 _ t6 hp => ?_
    walk_at "go"
    subst hK
    refine seq_i fun Kc hK => ?_
    nomatch pgD_eq
    refine case_i (.places p.words kd ph pt mo hp.2.1 hph) fun c1 os1 hc1 => ?_
    walk_at "go"
    refine case_i (.score p q hp hq9) fun c2 os2 hc2 => ?_
    walk_at "go"
    refine case_i (.found p q hp hq9 hqs) fun c3 os3 hc3 => ?_
    walk_at "go"
    subst hK
    refine seq_i fun Kc hK => ?_
    walk_at "go"
    refine case_i (.size _ q hq9) fun c4 os4 hc4 => ?_
    walk_at "go"
    refine case_i (.score p u hp hu) fun c5 os5 hc5 => ?_
    walk_at "go"
    refine case_i (.score p (.words kd ph pt mo) hp hw9) fun c6 os6 hc6 => ?_
    walk_at "go"
    subst hK
    refine seq_i fun Kc hK => ?_
    walk_at "go"
    refine pick_map kD [none, none, some 0] (fun _ => True) (by rfl) (by simp) t6 (by simp) fun kd2 tp7 _ t7 _ => ?_
    walk_at "go"
    refine pick_ints [1, 3, 20] (fun n => 0 ≤ n ∧ n ≤ 20) (by rfl) (by simp) t7 (by decide) fun pt2 tp8 _ t8 hpt2 => ?_
    walk_at "go"
    refine pick_ints [20, 20, 12, 1] (fun n => 0 ≤ n ∧ n ≤ 20) (by rfl) (by simp) t8 (by decide) fun mo2 tp9 _ t9 hmo2 => ?_
    walk_at "go"
    subst hK
    refine seq_i fun Kc hK => ?_
    walk_at "go"
    refine pick_map pgD ps PgOk (by rfl) (by omega) t9 hps.2 fun p2 tp10 _ t10 hp2 => ?_
    walk_at "go"
    have hw2 : QOk 9 (.words kd2 [("", false, 0)] pt2 mo2) := by
      rw [QOk]
      exact ⟨by decide, ⟨by simp, fun m hm => by rw [List.mem_singleton.mp hm]; exact ⟨tx_e, by simp⟩⟩, hpt2, hmo2⟩
    have du := Due.score p2 _ hp2 hw2
    simp only [qD, phD, List.map_cons, List.map_nil] at du
    refine case_i du fun c7 os7 hc7 => ?_
    walk_at "go"
    refine ⟨by decide, ?_⟩
    subst hK
    refine seq_i fun Kc hK => ?_
    walk_at "go"
    refine case_i (.found p u hp hu hus) fun d1 os8 hd1 => ?_
    walk_at "go"
    refine case_i (.size _ u hu) fun d2 os9 hd2 => ?_
    walk_at "go"
    subst hK
    refine seq_i fun Kc hK => ?_
    refine for_i fun Kx hKx => ?_
    walk_at "go"
    refine hKx _ _ ⟨fun i env => ∃ ds x10, ((∀ c ∈ ds, CaseOk c) ∧ ds.length = 2 + 3 * i) ∧ env = [some (.d (.list (ns.map .int))), some (.l (tp10)), some (.d (.list (ps.map pgD))), some (.d (qD (.words kd ph pt mo))), some (.d (qD q)), some (.d (qD u)), some (.d (pgD p)), some (.l ([c1, c2, c3, c4, c5, c6, c7])), some (.d (qD (.words kd2 [("", false, 0)] pt2 mo2))), some (.d (.list ds)), x10, none, none], ⟨[d1, d2], none, ⟨ok2 hd1 hd2, rfl⟩, rfl⟩, fun i x env hx2 hP => ?_, fun env hP => ?_⟩
    · obtain ⟨ds, x10, ⟨hds, lds⟩, rfl⟩ := hP
      have hi := (List.getElem?_eq_some_iff.mp hx2).1
      rw [List.length_map] at hi
      rw [List.getElem?_map] at hx2
      obtain ⟨p3, hp3, rfl⟩ := Option.map_eq_some_iff.mp hx2
      have hp3 := hps.2 p3 (List.mem_of_getElem? hp3)
      nomatch pgD_eq
      refine case_i (.score p3 q hp3 hq9) fun e1 os1 he1 => ?_
      walk_at "go"
      refine case_i (.places p3.words kd ph pt mo hp3.2.1 hph) fun e2 os2 he2 => ?_
      walk_at "go"
      refine case_i (.score p3 u hp3 hu) fun e3 os3 he3 => ?_
      walk_at "go"
      refine ⟨small_of (by omega), ?_⟩
      refine ⟨ds ++ [e1, e2, e3], some (.d (pgD p3)), ⟨app_ok hds (ok3 he1 he2 he3), by rw [List.length_append, lds]; simp; omega⟩, rfl⟩
    · obtain ⟨ds, x10, ⟨hds, lds⟩, rfl⟩ := hP
      rw [List.length_map] at lds
      have hcs : ∀ c ∈ [c1, c2, c3, c4, c5, c6, c7], CaseOk c := app_ok (ok3 hc1 hc2 hc3) (app_ok (ok3 hc4 hc5 hc6) (ok1 hc7))
      subst hK
      dsimp only
      refine seq_i fun Kc hK => ?_
      refine for_i fun Kx hKx => ?_
      walk_at "go"
      refine ⟨tp10, 7, rfl, by omega, by omega, t10, fun ks tp11 os hks t11 e11 => ?_⟩
      rw [← ios_eq e11]
      walk_at "go"
      refine hKx _ _ ⟨fun o env => ∃ x11, env = [some (.d (.list (ns.map .int))), some (.l (tp11)), some (.d (.list (ps.map pgD))), some (.d (qD (.words kd ph pt mo))), some (.d (qD q)), some (.d (qD u)), some (.d (pgD p)), some (.l ([c1, c2, c3, c4, c5, c6, c7])), some (.d (qD (.words kd2 [("", false, 0)] pt2 mo2))), some (.d (.list ds)), x10, x11, none], ⟨_, rfl⟩, fun o x env hx2 hP => ?_, fun env hP => ?_⟩
      · obtain ⟨x11, rfl⟩ := hP
        rw [List.getElem?_map] at hx2
        obtain ⟨n, hn, rfl⟩ := Option.map_eq_some_iff.mp hx2
        obtain ⟨n0, n1⟩ := hks n (List.mem_of_getElem? hn)
        obtain ⟨c, hc, hcm⟩ := at_of (xs := [c1, c2, c3, c4, c5, c6, c7]) n0 n1
        nomatch hc
        refine ⟨c, rfl, hcs c hcm, fun os => ?_⟩
        walk_at "go"
        exact ⟨_, rfl⟩
      · obtain ⟨x11, rfl⟩ := hP
        subst hK
        dsimp only
        refine seq_i fun Kc hK => ?_
        refine for_i fun Kx hKx => ?_
        walk_at "go"
        refine ⟨small_of (by omega), ?_⟩
        refine hKx _ _ ⟨fun o env => ∃ x12, env = [some (.d (.list (ns.map .int))), some (.l (tp11)), some (.d (.list (ps.map pgD))), some (.d (qD (.words kd ph pt mo))), some (.d (qD q)), some (.d (qD u)), some (.d (pgD p)), some (.l ([c1, c2, c3, c4, c5, c6, c7])), some (.d (qD (.words kd2 [("", false, 0)] pt2 mo2))), some (.d (.list ds)), x10, x11, x12], ⟨_, rfl⟩, fun o x env hx2 hP => ?_, fun env hP => ?_⟩
        · obtain ⟨x12, rfl⟩ := hP
          walk_at "go"
          refine ⟨x, rfl, ?_, fun os => ?_⟩
          · exact app_ok hds hcs x (List.mem_of_getElem? hx2)
          walk_at "go"
          exact ⟨_, rfl⟩
        · obtain ⟨x12, rfl⟩ := hP
          subst hK
          dsimp only
          walk_at "go"
          exact k _
  refine ifs_any (fun b e => e = [some (.d (.list (ns.map .int))), some (.l (tp4)), some (.d (.list (ps.map pgD))), some (.d (qD (.words kd ph pt mo))), some (.d (qD q)), some (.d (qD q')), none, none, none, none, none, none, none] ∧ (b = false → sizeN q' ≤ 16)) (fun K hK2 => ?_) (fun e he => ?_) fun e he => ?_
  · walk_at "go"
    refine ⟨q', rfl, hq', fun os => ?_⟩
    by_cases c : (16 : Int) < (sizeN q' : Nat)
    · nomatch c, decide_true
      exact hK2 _ _ ⟨rfl, fun z => by cases z⟩
    · nomatch c, decide_false
      refine ⟨q', rfl, hq', fun n os => ?_⟩
      walk_at "go"
      exact hK2 _ _ ⟨rfl, fun _ => by omega⟩
  · obtain ⟨rfl, hs⟩ := he
    walk_at "go"
    refine ⟨tp4, ps, rfl, hps, t4, fun kd3 ph3 pt3 mo3 tp5 os hw3 t5 e5 => ?_⟩
    rw [← ios_eq e5]
    walk_at "go"
    have hph3 : PhOk ph3 := by rw [QOk] at hw3; exact hw3.2.1
    exact fin _ _ (QOk_mono (d := 1) (by omega) hw3) (by rw [sizeN]; have := hph3.1; omega) t5
  · obtain ⟨rfl, hs⟩ := he
    walk_at "go"
    exact fin _ _ hq' (by have := hs rfl; omega) t4
theorem law_start {ns : List Int} (hl : ns.length ≤ 63) : sp_law [.d (.list (ns.map .int))] fun s _ => s = .d (.bool true) := ⟨ns, rfl, fun _ => rfl⟩
end
end Dlk33

set_option Elab.async false
set_option linter.all false
set_option maxRecDepth 100000
set_option maxHeartbeats 0
set_option autoImplicit false
namespace Dlk33
open PySem PySem.Spec L2 DL
theorem rec_law_b_question {P : Program} {w : World} {K : PySem.W.Frag} {mg : Str → Option Value} {base : Heap} (T : Tx K mg) (G_law_draw : FnOk P w K mg base CX0 1 T.f_law_draw T.d_law_draw p_law_draw (spD K ([0], []) 2 sp_law_draw)) (G_law_pick : FnOk P w K mg base CX0 2 T.f_law_pick T.d_law_pick p_law_pick (spD K ([0], []) 2 sp_law_pick)) (G_law_b_phrase_question : FnOk P w K mg base CX0 3 T.f_law_b_phrase_question T.d_law_b_phrase_question p_law_b_phrase_question (spD K ([0], []) 2 sp_law_b_phrase_question)) : ∀ j : Nat, (FnOk P w K mg base CX0 (3 + j) T.f_law_b_question T.d_law_b_question p_law_b_question (spD K ([0], []) 3 (spR_law_b_question j))) := fun j => by
  induction j with
  | zero => exact ⟨fun vs H Q E h => by obtain ⟨_, _, _, _, _, _, _, h, _⟩ := h; exact h.elim, fun A outer s H args us vs Q E hr e b v h => by obtain ⟨_, _, _, _, _, _, _, h, _⟩ := h; exact h.elim⟩
  | succ j ih =>
    have I_law_b_question := ih
    exact ok_law_b_question T G_law_draw G_law_pick G_law_b_phrase_question I_law_b_question fun args Q hl h => h_law_b_question hl h
theorem rec_size {P : Program} {w : World} {K : PySem.W.Frag} {mg : Str → Option Value} {base : Heap} (T : Tx K mg) : ∀ j : Nat, (FnOk P w K mg base CX0 (0 + j) T.f_size T.d_size p_size (spD K ([], []) 1 (spR_size j))) := fun j => by
  induction j with
  | zero => exact ⟨fun vs H Q E h => by obtain ⟨_, _, _, _, _, _, _, h, _⟩ := h; exact h.elim, fun A outer s H args us vs Q E hr e b v h => by obtain ⟨_, _, _, _, _, _, _, h, _⟩ := h; exact h.elim⟩
  | succ j ih =>
    have I_size := ih
    exact ok_size T I_size fun args Q hl h => h_size hl h
theorem rec_questions_of_words {P : Program} {w : World} {K : PySem.W.Frag} {mg : Str → Option Value} {base : Heap} (T : Tx K mg) : ∀ j : Nat, (FnOk P w K mg base CX0 (0 + j) T.f_questions_of_words T.d_questions_of_words p_questions_of_words (spD K ([], []) 1 (spR_questions_of_words j))) := fun j => by
  induction j with
  | zero => exact ⟨fun vs H Q E h => by obtain ⟨_, _, _, _, _, _, _, h, _⟩ := h; exact h.elim, fun A outer s H args us vs Q E hr e b v h => by obtain ⟨_, _, _, _, _, _, _, h, _⟩ := h; exact h.elim⟩
  | succ j ih =>
    have I_questions_of_words := ih
    exact ok_questions_of_words T I_questions_of_words fun args Q hl h => h_questions_of_words hl h
theorem rec_law_s_size {P : Program} {w : World} {K : PySem.W.Frag} {mg : Str → Option Value} {base : Heap} (T : Tx K mg) : ∀ j : Nat, (FnOk P w K mg base CX0 (0 + j) T.f_law_s_size T.d_law_s_size p_law_s_size (spD K ([], []) 1 (spR_law_s_size j))) := fun j => by
  induction j with
  | zero => exact ⟨fun vs H Q E h => by obtain ⟨_, _, _, _, _, _, _, h, _⟩ := h; exact h.elim, fun A outer s H args us vs Q E hr e b v h => by obtain ⟨_, _, _, _, _, _, _, h, _⟩ := h; exact h.elim⟩
  | succ j ih =>
    have I_law_s_size := ih
    exact ok_law_s_size T I_law_s_size fun args Q hl h => h_law_s_size hl h
theorem rec_law_deep {P : Program} {w : World} {K : PySem.W.Frag} {mg : Str → Option Value} {base : Heap} (T : Tx K mg) : ∀ j : Nat, (FnOk P w K mg base CX0 (0 + j) T.f_law_deep T.d_law_deep p_law_deep (spD K ([], []) 1 (spR_law_deep j))) := fun j => by
  induction j with
  | zero => exact ⟨fun vs H Q E h => by obtain ⟨_, _, _, _, _, _, _, h, _⟩ := h; exact h.elim, fun A outer s H args us vs Q E hr e b v h => by obtain ⟨_, _, _, _, _, _, _, h, _⟩ := h; exact h.elim⟩
  | succ j ih =>
    have I_law_deep := ih
    exact ok_law_deep T I_law_deep fun args Q hl h => h_law_deep hl h
theorem rec_law_s_score {P : Program} {w : World} {K : PySem.W.Frag} {mg : Str → Option Value} {base : Heap} (T : Tx K mg) (G_law_s_places : FnOk P w K mg base CX0 2 T.f_law_s_places T.d_law_s_places p_law_s_places (spD K ([], []) 3 sp_law_s_places)) : ∀ j : Nat, (FnOk P w K mg base CX0 (2 + j) T.f_law_s_score T.d_law_s_score p_law_s_score (spD K ([], []) 2 (spR_law_s_score j))) := fun j => by
  induction j with
  | zero => exact ⟨fun vs H Q E h => by obtain ⟨_, _, _, _, _, _, _, h, _⟩ := h; exact h.elim, fun A outer s H args us vs Q E hr e b v h => by obtain ⟨_, _, _, _, _, _, _, h, _⟩ := h; exact h.elim⟩
  | succ j ih =>
    have I_law_s_score := ih
    exact ok_law_s_score T G_law_s_places I_law_s_score fun args Q hl h => h_law_s_score hl h
theorem rec_law_s_found {P : Program} {w : World} {K : PySem.W.Frag} {mg : Str → Option Value} {base : Heap} (T : Tx K mg) (G_law_s_places : FnOk P w K mg base CX0 2 T.f_law_s_places T.d_law_s_places p_law_s_places (spD K ([], []) 3 sp_law_s_places)) : ∀ j : Nat, (FnOk P w K mg base CX0 (2 + j) T.f_law_s_found T.d_law_s_found p_law_s_found (spD K ([], []) 2 (spR_law_s_found j))) := fun j => by
  induction j with
  | zero => exact ⟨fun vs H Q E h => by obtain ⟨_, _, _, _, _, _, _, h, _⟩ := h; exact h.elim, fun A outer s H args us vs Q E hr e b v h => by obtain ⟨_, _, _, _, _, _, _, h, _⟩ := h; exact h.elim⟩
  | succ j ih =>
    have I_law_s_found := ih
    exact ok_law_s_found T G_law_s_places I_law_s_found fun args Q hl h => h_law_s_found hl h
theorem rec_score_of_some {P : Program} {w : World} {K : PySem.W.Frag} {mg : Str → Option Value} {base : Heap} (T : Tx K mg) (G_nought_if : FnOk P w K mg base CX0 1 T.f_nought_if T.d_nought_if p_nought_if (spD K ([], []) 1 sp_nought_if)) (G_score_of_words : FnOk P w K mg base CX0 3 T.f_score_of_words T.d_score_of_words p_score_of_words (spD K ([], []) 2 sp_score_of_words)) : ∀ j : Nat, (FnOk P w K mg base CX0 (3 + j) T.f_score_of_some T.d_score_of_some p_score_of_some (spD K ([], []) 2 (spR_score_of_some j))) ∧ (FnOk P w K mg base CX0 (3 + j) T.f_score T.d_score p_score (spD K ([], []) 2 (spR_score j))) := fun j => by
  induction j with
  | zero => exact ⟨⟨fun vs H Q E h => by obtain ⟨_, _, _, _, _, _, _, h, _⟩ := h; exact h.elim, fun A outer s H args us vs Q E hr e b v h => by obtain ⟨_, _, _, _, _, _, _, h, _⟩ := h; exact h.elim⟩, ⟨fun vs H Q E h => by obtain ⟨_, _, _, _, _, _, _, h, _⟩ := h; exact h.elim, fun A outer s H args us vs Q E hr e b v h => by obtain ⟨_, _, _, _, _, _, _, h, _⟩ := h; exact h.elim⟩⟩
  | succ j ih =>
    obtain ⟨I_score_of_some, I_score⟩ := ih
    exact ⟨ok_score_of_some T I_score fun args Q hl h => h_score_of_some hl h, ok_score T G_nought_if G_score_of_words I_score_of_some I_score fun args Q hl h => h_score hl h⟩
theorem rec_law_same {P : Program} {w : World} {K : PySem.W.Frag} {mg : Str → Option Value} {base : Heap} (T : Tx K mg) : FnOk P w K mg base CX0 6 T.f_law_same T.d_law_same p_law_same (spD K ([], []) 2 sp_law_same) := by
  have all : ∀ j : Nat, FnOk P w K mg base CX0 j T.f_law_same T.d_law_same p_law_same (spD K ([], []) 2 (spSameD j)) := fun j => by
    induction j with
    | zero => exact ⟨fun vs H Q E h => by obtain ⟨_, _, _, _, _, _, _, h, _⟩ := h; exact h.elim, fun A outer s H args us vs Q E hr e b v h => by obtain ⟨_, _, _, _, _, _, _, h, _⟩ := h; exact h.elim⟩
    | succ j ih => exact ok_law_same T ih fun args Q hl h => hSame j args Q hl h
  exact all 6
theorem all_ok {P : Program} {w : World} {K : PySem.W.Frag} {mg : Str → Option Value} {base : Heap} (T : Tx K mg) : FnOk P w K mg base CX0 24 T.f_law T.d_law p_law (spD K ([], []) 1 sp_law) := by
  have G_fits_member := ok_fits_member (P := P) (w := w) (base := base) T  (fun _ _ hl h => h_fits_member hl h)
  have G_nought_if := ok_nought_if (P := P) (w := w) (base := base) T  (fun _ _ hl h => h_nought_if hl h)
  have G_law_tape := ok_law_tape (P := P) (w := w) (base := base) T  (fun _ _ hl h => h_law_tape hl h)
  have G_law_draw := ok_law_draw (P := P) (w := w) (base := base) T  (fun _ _ hl h => h_law_draw hl h)
  have G_law_s_fits := ok_law_s_fits (P := P) (w := w) (base := base) T  (fun _ _ hl h => h_law_s_fits hl h)
  have G_places := ok_places (P := P) (w := w) (base := base) T G_fits_member (fun _ _ hl h => h_places hl h)
  have G_law_pick := ok_law_pick (P := P) (w := w) (base := base) T G_law_draw (fun _ _ hl h => h_law_pick hl h)
  have G_law_turns := ok_law_turns (P := P) (w := w) (base := base) T G_law_draw (fun _ _ hl h => h_law_turns hl h)
  have G_law_shuffled := ok_law_shuffled (P := P) (w := w) (base := base) T G_law_draw (fun _ _ hl h => h_law_shuffled hl h)
  have G_law_s_places := ok_law_s_places (P := P) (w := w) (base := base) T G_law_s_fits (fun _ _ hl h => h_law_s_places hl h)
  have G_law_b_reading := ok_law_b_reading (P := P) (w := w) (base := base) T G_law_draw (fun _ _ hl h => h_law_b_reading hl h)
  have G_score_of_words := ok_score_of_words (P := P) (w := w) (base := base) T G_places (fun _ _ hl h => h_score_of_words hl h)
  have G_law_vocabulary := ok_law_vocabulary (P := P) (w := w) (base := base) T G_law_draw G_law_pick G_law_shuffled (fun _ _ hl h => h_law_vocabulary hl h)
  have G_law_some_words := ok_law_some_words (P := P) (w := w) (base := base) T G_law_draw G_law_pick (fun _ _ hl h => h_law_some_words hl h)
  have G_law_b_addresses := ok_law_b_addresses (P := P) (w := w) (base := base) T G_law_draw G_law_pick (fun _ _ hl h => h_law_b_addresses hl h)
  have G_law_b_phrase_question := ok_law_b_phrase_question (P := P) (w := w) (base := base) T G_law_draw G_law_pick (fun _ _ hl h => h_law_b_phrase_question hl h)
  have G_law_turned := ok_law_turned (P := P) (w := w) (base := base) T G_law_draw G_law_pick G_law_shuffled (fun _ _ hl h => h_law_turned hl h)
  have G_law_pages := ok_law_pages (P := P) (w := w) (base := base) T G_law_draw G_law_pick G_law_vocabulary G_law_some_words G_law_b_addresses G_law_b_reading (fun _ _ hl h => h_law_pages hl h)
  have G_law_same := rec_law_same (P := P) (w := w) (base := base) T 
  have R_law_b_question := rec_law_b_question (P := P) (w := w) (base := base) T G_law_draw G_law_pick G_law_b_phrase_question 3
  have G_law_b_question : FnOk P w K mg base CX0 6 T.f_law_b_question T.d_law_b_question p_law_b_question (spD K ([0], []) 3 sp_law_b_question) := R_law_b_question
  have R_size := rec_size (P := P) (w := w) (base := base) T  9
  have G_size : FnOk P w K mg base CX0 9 T.f_size T.d_size p_size (spD K ([], []) 1 sp_size) := R_size
  have R_questions_of_words := rec_questions_of_words (P := P) (w := w) (base := base) T  9
  have G_questions_of_words : FnOk P w K mg base CX0 9 T.f_questions_of_words T.d_questions_of_words p_questions_of_words (spD K ([], []) 1 sp_questions_of_words) := R_questions_of_words
  have R_law_s_size := rec_law_s_size (P := P) (w := w) (base := base) T  9
  have G_law_s_size : FnOk P w K mg base CX0 9 T.f_law_s_size T.d_law_s_size p_law_s_size (spD K ([], []) 1 sp_law_s_size) := R_law_s_size
  have R_law_deep := rec_law_deep (P := P) (w := w) (base := base) T  9
  have G_law_deep : FnOk P w K mg base CX0 9 T.f_law_deep T.d_law_deep p_law_deep (spD K ([], []) 1 sp_law_deep) := R_law_deep
  have G_found := ok_found (P := P) (w := w) (base := base) T G_places G_questions_of_words (fun _ _ hl h => h_found hl h)
  have G_law_b_asked := ok_law_b_asked (P := P) (w := w) (base := base) T G_law_draw G_law_pick G_law_s_size G_law_b_phrase_question G_law_b_question (fun _ _ hl h => h_law_b_asked hl h)
  have R_law_s_score := rec_law_s_score (P := P) (w := w) (base := base) T G_law_s_places 9
  have G_law_s_score : FnOk P w K mg base CX0 11 T.f_law_s_score T.d_law_s_score p_law_s_score (spD K ([], []) 2 sp_law_s_score) := R_law_s_score
  have R_law_s_found := rec_law_s_found (P := P) (w := w) (base := base) T G_law_s_places 9
  have G_law_s_found : FnOk P w K mg base CX0 11 T.f_law_s_found T.d_law_s_found p_law_s_found (spD K ([], []) 2 sp_law_s_found) := R_law_s_found
  have G_law_case := ok_law_case (P := P) (w := w) (base := base) T G_law_s_places G_law_s_size G_law_s_score G_law_s_found (fun _ _ hl h => h_law_case hl h)
  have R_score_of_some := rec_score_of_some (P := P) (w := w) (base := base) T G_nought_if G_score_of_words 18
  have G_score_of_some : FnOk P w K mg base CX0 21 T.f_score_of_some T.d_score_of_some p_score_of_some (spD K ([], []) 2 sp_score_of_some) := R_score_of_some.1
  have G_score : FnOk P w K mg base CX0 21 T.f_score T.d_score p_score (spD K ([], []) 2 sp_score) := R_score_of_some.2
  have G_law_told := ok_law_told (P := P) (w := w) (base := base) T G_places G_size G_score G_found (fun _ _ hl h => h_law_told hl h)
  have G_law_right := ok_law_right (P := P) (w := w) (base := base) T G_law_same G_law_told (fun _ _ hl h => h_law_right hl h)
  have G_law := ok_law (P := P) (w := w) (base := base) T G_law_tape G_law_pick G_law_turns G_law_s_size G_law_b_phrase_question G_law_b_asked G_law_case G_law_right G_law_pages G_law_turned G_law_deep (fun _ _ hl h => h_law hl h)
  exact G_law
theorem all_mk {l : PySem.W.OpenLaw} {w : World} {K : PySem.W.Frag} {h : Heap} {mg : Str → Option Value} {fa : Addr} (X : K.In h) (G : h.Ns mainGlobals mg) (hfa : mg "law" = some (.ref fa))
    {f0 : Addr} {o0 n0 : Option Addr} {sl0 : Array (Option Value)} {v0 w0 x0 y0 c0 z0 : Value} (a0 : PySem.W.nsIn K mainGlobals "fits_member" = some (some (.ref f0))) (l0 : K.lookup f0 = some ⟨v0, o0, .func (PySem.W.fnOf "fits_member" "fits_member" (defArgs s_fits_member) (defBody s_fits_member) (defScope s_fits_member) .none w0 x0 y0 n0 c0 z0), sl0⟩) (c_0 : PySem.W.codeIn K c0 "fits_member" = true) (k0 : PySem.W.keepIn K (.ref f0) = true)
    {f1 : Addr} {o1 n1 : Option Addr} {sl1 : Array (Option Value)} {v1 w1 x1 y1 c1 z1 : Value} (a1 : PySem.W.nsIn K mainGlobals "nought_if" = some (some (.ref f1))) (l1 : K.lookup f1 = some ⟨v1, o1, .func (PySem.W.fnOf "nought_if" "nought_if" (defArgs s_nought_if) (defBody s_nought_if) (defScope s_nought_if) .none w1 x1 y1 n1 c1 z1), sl1⟩) (c_1 : PySem.W.codeIn K c1 "nought_if" = true) (k1 : PySem.W.keepIn K (.ref f1) = true)
    {f2 : Addr} {o2 n2 : Option Addr} {sl2 : Array (Option Value)} {v2 w2 x2 y2 c2 z2 : Value} (a2 : PySem.W.nsIn K mainGlobals "_law_tape" = some (some (.ref f2))) (l2 : K.lookup f2 = some ⟨v2, o2, .func (PySem.W.fnOf "_law_tape" "_law_tape" (defArgs s_law_tape) (defBody s_law_tape) (defScope s_law_tape) .none w2 x2 y2 n2 c2 z2), sl2⟩) (c_2 : PySem.W.codeIn K c2 "_law_tape" = true) (k2 : PySem.W.keepIn K (.ref f2) = true)
    {f3 : Addr} {o3 n3 : Option Addr} {sl3 : Array (Option Value)} {v3 w3 x3 y3 c3 z3 : Value} (a3 : PySem.W.nsIn K mainGlobals "_law_draw" = some (some (.ref f3))) (l3 : K.lookup f3 = some ⟨v3, o3, .func (PySem.W.fnOf "_law_draw" "_law_draw" (defArgs s_law_draw) (defBody s_law_draw) (defScope s_law_draw) .none w3 x3 y3 n3 c3 z3), sl3⟩) (c_3 : PySem.W.codeIn K c3 "_law_draw" = true) (k3 : PySem.W.keepIn K (.ref f3) = true)
    {f4 : Addr} {o4 n4 : Option Addr} {sl4 : Array (Option Value)} {v4 w4 x4 y4 c4 z4 : Value} (a4 : PySem.W.nsIn K mainGlobals "_law_s_fits" = some (some (.ref f4))) (l4 : K.lookup f4 = some ⟨v4, o4, .func (PySem.W.fnOf "_law_s_fits" "_law_s_fits" (defArgs s_law_s_fits) (defBody s_law_s_fits) (defScope s_law_s_fits) .none w4 x4 y4 n4 c4 z4), sl4⟩) (c_4 : PySem.W.codeIn K c4 "_law_s_fits" = true) (k4 : PySem.W.keepIn K (.ref f4) = true)
    {f5 : Addr} {o5 n5 : Option Addr} {sl5 : Array (Option Value)} {v5 w5 x5 y5 c5 z5 : Value} (a5 : PySem.W.nsIn K mainGlobals "places" = some (some (.ref f5))) (l5 : K.lookup f5 = some ⟨v5, o5, .func (PySem.W.fnOf "places" "places" (defArgs s_places) (defBody s_places) (defScope s_places) .none w5 x5 y5 n5 c5 z5), sl5⟩) (c_5 : PySem.W.codeIn K c5 "places" = true) (k5 : PySem.W.keepIn K (.ref f5) = true)
    {f6 : Addr} {o6 n6 : Option Addr} {sl6 : Array (Option Value)} {v6 w6 x6 y6 c6 z6 : Value} (a6 : PySem.W.nsIn K mainGlobals "_law_pick" = some (some (.ref f6))) (l6 : K.lookup f6 = some ⟨v6, o6, .func (PySem.W.fnOf "_law_pick" "_law_pick" (defArgs s_law_pick) (defBody s_law_pick) (defScope s_law_pick) .none w6 x6 y6 n6 c6 z6), sl6⟩) (c_6 : PySem.W.codeIn K c6 "_law_pick" = true) (k6 : PySem.W.keepIn K (.ref f6) = true)
    {f7 : Addr} {o7 n7 : Option Addr} {sl7 : Array (Option Value)} {v7 w7 x7 y7 c7 z7 : Value} (a7 : PySem.W.nsIn K mainGlobals "_law_turns" = some (some (.ref f7))) (l7 : K.lookup f7 = some ⟨v7, o7, .func (PySem.W.fnOf "_law_turns" "_law_turns" (defArgs s_law_turns) (defBody s_law_turns) (defScope s_law_turns) .none w7 x7 y7 n7 c7 z7), sl7⟩) (c_7 : PySem.W.codeIn K c7 "_law_turns" = true) (k7 : PySem.W.keepIn K (.ref f7) = true)
    {f8 : Addr} {o8 n8 : Option Addr} {sl8 : Array (Option Value)} {v8 w8 x8 y8 c8 z8 : Value} (a8 : PySem.W.nsIn K mainGlobals "_law_shuffled" = some (some (.ref f8))) (l8 : K.lookup f8 = some ⟨v8, o8, .func (PySem.W.fnOf "_law_shuffled" "_law_shuffled" (defArgs s_law_shuffled) (defBody s_law_shuffled) (defScope s_law_shuffled) .none w8 x8 y8 n8 c8 z8), sl8⟩) (c_8 : PySem.W.codeIn K c8 "_law_shuffled" = true) (k8 : PySem.W.keepIn K (.ref f8) = true)
    {f9 : Addr} {o9 n9 : Option Addr} {sl9 : Array (Option Value)} {v9 w9 x9 y9 c9 z9 : Value} (a9 : PySem.W.nsIn K mainGlobals "_law_s_places" = some (some (.ref f9))) (l9 : K.lookup f9 = some ⟨v9, o9, .func (PySem.W.fnOf "_law_s_places" "_law_s_places" (defArgs s_law_s_places) (defBody s_law_s_places) (defScope s_law_s_places) .none w9 x9 y9 n9 c9 z9), sl9⟩) (c_9 : PySem.W.codeIn K c9 "_law_s_places" = true) (k9 : PySem.W.keepIn K (.ref f9) = true)
    {f10 : Addr} {o10 n10 : Option Addr} {sl10 : Array (Option Value)} {v10 w10 x10 y10 c10 z10 : Value} (a10 : PySem.W.nsIn K mainGlobals "_law_b_reading" = some (some (.ref f10))) (l10 : K.lookup f10 = some ⟨v10, o10, .func (PySem.W.fnOf "_law_b_reading" "_law_b_reading" (defArgs s_law_b_reading) (defBody s_law_b_reading) (defScope s_law_b_reading) .none w10 x10 y10 n10 c10 z10), sl10⟩) (c_10 : PySem.W.codeIn K c10 "_law_b_reading" = true) (k10 : PySem.W.keepIn K (.ref f10) = true)
    {f11 : Addr} {o11 n11 : Option Addr} {sl11 : Array (Option Value)} {v11 w11 x11 y11 c11 z11 : Value} (a11 : PySem.W.nsIn K mainGlobals "score_of_words" = some (some (.ref f11))) (l11 : K.lookup f11 = some ⟨v11, o11, .func (PySem.W.fnOf "score_of_words" "score_of_words" (defArgs s_score_of_words) (defBody s_score_of_words) (defScope s_score_of_words) .none w11 x11 y11 n11 c11 z11), sl11⟩) (c_11 : PySem.W.codeIn K c11 "score_of_words" = true) (k11 : PySem.W.keepIn K (.ref f11) = true)
    {f12 : Addr} {o12 n12 : Option Addr} {sl12 : Array (Option Value)} {v12 w12 x12 y12 c12 z12 : Value} (a12 : PySem.W.nsIn K mainGlobals "_law_vocabulary" = some (some (.ref f12))) (l12 : K.lookup f12 = some ⟨v12, o12, .func (PySem.W.fnOf "_law_vocabulary" "_law_vocabulary" (defArgs s_law_vocabulary) (defBody s_law_vocabulary) (defScope s_law_vocabulary) .none w12 x12 y12 n12 c12 z12), sl12⟩) (c_12 : PySem.W.codeIn K c12 "_law_vocabulary" = true) (k12 : PySem.W.keepIn K (.ref f12) = true)
    {f13 : Addr} {o13 n13 : Option Addr} {sl13 : Array (Option Value)} {v13 w13 x13 y13 c13 z13 : Value} (a13 : PySem.W.nsIn K mainGlobals "_law_some_words" = some (some (.ref f13))) (l13 : K.lookup f13 = some ⟨v13, o13, .func (PySem.W.fnOf "_law_some_words" "_law_some_words" (defArgs s_law_some_words) (defBody s_law_some_words) (defScope s_law_some_words) .none w13 x13 y13 n13 c13 z13), sl13⟩) (c_13 : PySem.W.codeIn K c13 "_law_some_words" = true) (k13 : PySem.W.keepIn K (.ref f13) = true)
    {f14 : Addr} {o14 n14 : Option Addr} {sl14 : Array (Option Value)} {v14 w14 x14 y14 c14 z14 : Value} (a14 : PySem.W.nsIn K mainGlobals "_law_b_addresses" = some (some (.ref f14))) (l14 : K.lookup f14 = some ⟨v14, o14, .func (PySem.W.fnOf "_law_b_addresses" "_law_b_addresses" (defArgs s_law_b_addresses) (defBody s_law_b_addresses) (defScope s_law_b_addresses) .none w14 x14 y14 n14 c14 z14), sl14⟩) (c_14 : PySem.W.codeIn K c14 "_law_b_addresses" = true) (k14 : PySem.W.keepIn K (.ref f14) = true)
    {f15 : Addr} {o15 n15 : Option Addr} {sl15 : Array (Option Value)} {v15 w15 x15 y15 c15 z15 : Value} (a15 : PySem.W.nsIn K mainGlobals "_law_b_phrase_question" = some (some (.ref f15))) (l15 : K.lookup f15 = some ⟨v15, o15, .func (PySem.W.fnOf "_law_b_phrase_question" "_law_b_phrase_question" (defArgs s_law_b_phrase_question) (defBody s_law_b_phrase_question) (defScope s_law_b_phrase_question) .none w15 x15 y15 n15 c15 z15), sl15⟩) (c_15 : PySem.W.codeIn K c15 "_law_b_phrase_question" = true) (k15 : PySem.W.keepIn K (.ref f15) = true)
    {f16 : Addr} {o16 n16 : Option Addr} {sl16 : Array (Option Value)} {v16 w16 x16 y16 c16 z16 : Value} (a16 : PySem.W.nsIn K mainGlobals "_law_turned" = some (some (.ref f16))) (l16 : K.lookup f16 = some ⟨v16, o16, .func (PySem.W.fnOf "_law_turned" "_law_turned" (defArgs s_law_turned) (defBody s_law_turned) (defScope s_law_turned) .none w16 x16 y16 n16 c16 z16), sl16⟩) (c_16 : PySem.W.codeIn K c16 "_law_turned" = true) (k16 : PySem.W.keepIn K (.ref f16) = true)
    {f17 : Addr} {o17 n17 : Option Addr} {sl17 : Array (Option Value)} {v17 w17 x17 y17 c17 z17 : Value} (a17 : PySem.W.nsIn K mainGlobals "_law_pages" = some (some (.ref f17))) (l17 : K.lookup f17 = some ⟨v17, o17, .func (PySem.W.fnOf "_law_pages" "_law_pages" (defArgs s_law_pages) (defBody s_law_pages) (defScope s_law_pages) .none w17 x17 y17 n17 c17 z17), sl17⟩) (c_17 : PySem.W.codeIn K c17 "_law_pages" = true) (k17 : PySem.W.keepIn K (.ref f17) = true)
    {f18 : Addr} {o18 n18 : Option Addr} {sl18 : Array (Option Value)} {v18 w18 x18 y18 c18 z18 : Value} (a18 : PySem.W.nsIn K mainGlobals "_law_same" = some (some (.ref f18))) (l18 : K.lookup f18 = some ⟨v18, o18, .func (PySem.W.fnOf "_law_same" "_law_same" (defArgs s_law_same) (defBody s_law_same) (defScope s_law_same) .none w18 x18 y18 n18 c18 z18), sl18⟩) (c_18 : PySem.W.codeIn K c18 "_law_same" = true) (k18 : PySem.W.keepIn K (.ref f18) = true)
    {f19 : Addr} {o19 n19 : Option Addr} {sl19 : Array (Option Value)} {v19 w19 x19 y19 c19 z19 : Value} (a19 : PySem.W.nsIn K mainGlobals "_law_b_question" = some (some (.ref f19))) (l19 : K.lookup f19 = some ⟨v19, o19, .func (PySem.W.fnOf "_law_b_question" "_law_b_question" (defArgs s_law_b_question) (defBody s_law_b_question) (defScope s_law_b_question) .none w19 x19 y19 n19 c19 z19), sl19⟩) (c_19 : PySem.W.codeIn K c19 "_law_b_question" = true) (k19 : PySem.W.keepIn K (.ref f19) = true)
    {f20 : Addr} {o20 n20 : Option Addr} {sl20 : Array (Option Value)} {v20 w20 x20 y20 c20 z20 : Value} (a20 : PySem.W.nsIn K mainGlobals "size" = some (some (.ref f20))) (l20 : K.lookup f20 = some ⟨v20, o20, .func (PySem.W.fnOf "size" "size" (defArgs s_size) (defBody s_size) (defScope s_size) .none w20 x20 y20 n20 c20 z20), sl20⟩) (c_20 : PySem.W.codeIn K c20 "size" = true) (k20 : PySem.W.keepIn K (.ref f20) = true)
    {f21 : Addr} {o21 n21 : Option Addr} {sl21 : Array (Option Value)} {v21 w21 x21 y21 c21 z21 : Value} (a21 : PySem.W.nsIn K mainGlobals "questions_of_words" = some (some (.ref f21))) (l21 : K.lookup f21 = some ⟨v21, o21, .func (PySem.W.fnOf "questions_of_words" "questions_of_words" (defArgs s_questions_of_words) (defBody s_questions_of_words) (defScope s_questions_of_words) .none w21 x21 y21 n21 c21 z21), sl21⟩) (c_21 : PySem.W.codeIn K c21 "questions_of_words" = true) (k21 : PySem.W.keepIn K (.ref f21) = true)
    {f22 : Addr} {o22 n22 : Option Addr} {sl22 : Array (Option Value)} {v22 w22 x22 y22 c22 z22 : Value} (a22 : PySem.W.nsIn K mainGlobals "_law_s_size" = some (some (.ref f22))) (l22 : K.lookup f22 = some ⟨v22, o22, .func (PySem.W.fnOf "_law_s_size" "_law_s_size" (defArgs s_law_s_size) (defBody s_law_s_size) (defScope s_law_s_size) .none w22 x22 y22 n22 c22 z22), sl22⟩) (c_22 : PySem.W.codeIn K c22 "_law_s_size" = true) (k22 : PySem.W.keepIn K (.ref f22) = true)
    {f23 : Addr} {o23 n23 : Option Addr} {sl23 : Array (Option Value)} {v23 w23 x23 y23 c23 z23 : Value} (a23 : PySem.W.nsIn K mainGlobals "_law_deep" = some (some (.ref f23))) (l23 : K.lookup f23 = some ⟨v23, o23, .func (PySem.W.fnOf "_law_deep" "_law_deep" (defArgs s_law_deep) (defBody s_law_deep) (defScope s_law_deep) .none w23 x23 y23 n23 c23 z23), sl23⟩) (c_23 : PySem.W.codeIn K c23 "_law_deep" = true) (k23 : PySem.W.keepIn K (.ref f23) = true)
    {f24 : Addr} {o24 n24 : Option Addr} {sl24 : Array (Option Value)} {v24 w24 x24 y24 c24 z24 : Value} (a24 : PySem.W.nsIn K mainGlobals "found" = some (some (.ref f24))) (l24 : K.lookup f24 = some ⟨v24, o24, .func (PySem.W.fnOf "found" "found" (defArgs s_found) (defBody s_found) (defScope s_found) .none w24 x24 y24 n24 c24 z24), sl24⟩) (c_24 : PySem.W.codeIn K c24 "found" = true) (k24 : PySem.W.keepIn K (.ref f24) = true)
    {f25 : Addr} {o25 n25 : Option Addr} {sl25 : Array (Option Value)} {v25 w25 x25 y25 c25 z25 : Value} (a25 : PySem.W.nsIn K mainGlobals "_law_b_asked" = some (some (.ref f25))) (l25 : K.lookup f25 = some ⟨v25, o25, .func (PySem.W.fnOf "_law_b_asked" "_law_b_asked" (defArgs s_law_b_asked) (defBody s_law_b_asked) (defScope s_law_b_asked) .none w25 x25 y25 n25 c25 z25), sl25⟩) (c_25 : PySem.W.codeIn K c25 "_law_b_asked" = true) (k25 : PySem.W.keepIn K (.ref f25) = true)
    {f26 : Addr} {o26 n26 : Option Addr} {sl26 : Array (Option Value)} {v26 w26 x26 y26 c26 z26 : Value} (a26 : PySem.W.nsIn K mainGlobals "_law_s_score" = some (some (.ref f26))) (l26 : K.lookup f26 = some ⟨v26, o26, .func (PySem.W.fnOf "_law_s_score" "_law_s_score" (defArgs s_law_s_score) (defBody s_law_s_score) (defScope s_law_s_score) .none w26 x26 y26 n26 c26 z26), sl26⟩) (c_26 : PySem.W.codeIn K c26 "_law_s_score" = true) (k26 : PySem.W.keepIn K (.ref f26) = true)
    {f27 : Addr} {o27 n27 : Option Addr} {sl27 : Array (Option Value)} {v27 w27 x27 y27 c27 z27 : Value} (a27 : PySem.W.nsIn K mainGlobals "_law_s_found" = some (some (.ref f27))) (l27 : K.lookup f27 = some ⟨v27, o27, .func (PySem.W.fnOf "_law_s_found" "_law_s_found" (defArgs s_law_s_found) (defBody s_law_s_found) (defScope s_law_s_found) .none w27 x27 y27 n27 c27 z27), sl27⟩) (c_27 : PySem.W.codeIn K c27 "_law_s_found" = true) (k27 : PySem.W.keepIn K (.ref f27) = true)
    {f28 : Addr} {o28 n28 : Option Addr} {sl28 : Array (Option Value)} {v28 w28 x28 y28 c28 z28 : Value} (a28 : PySem.W.nsIn K mainGlobals "_law_case" = some (some (.ref f28))) (l28 : K.lookup f28 = some ⟨v28, o28, .func (PySem.W.fnOf "_law_case" "_law_case" (defArgs s_law_case) (defBody s_law_case) (defScope s_law_case) .none w28 x28 y28 n28 c28 z28), sl28⟩) (c_28 : PySem.W.codeIn K c28 "_law_case" = true) (k28 : PySem.W.keepIn K (.ref f28) = true)
    {f29 : Addr} {o29 n29 : Option Addr} {sl29 : Array (Option Value)} {v29 w29 x29 y29 c29 z29 : Value} (a29 : PySem.W.nsIn K mainGlobals "score_of_some" = some (some (.ref f29))) (l29 : K.lookup f29 = some ⟨v29, o29, .func (PySem.W.fnOf "score_of_some" "score_of_some" (defArgs s_score_of_some) (defBody s_score_of_some) (defScope s_score_of_some) .none w29 x29 y29 n29 c29 z29), sl29⟩) (c_29 : PySem.W.codeIn K c29 "score_of_some" = true) (k29 : PySem.W.keepIn K (.ref f29) = true)
    {f30 : Addr} {o30 n30 : Option Addr} {sl30 : Array (Option Value)} {v30 w30 x30 y30 c30 z30 : Value} (a30 : PySem.W.nsIn K mainGlobals "score" = some (some (.ref f30))) (l30 : K.lookup f30 = some ⟨v30, o30, .func (PySem.W.fnOf "score" "score" (defArgs s_score) (defBody s_score) (defScope s_score) .none w30 x30 y30 n30 c30 z30), sl30⟩) (c_30 : PySem.W.codeIn K c30 "score" = true) (k30 : PySem.W.keepIn K (.ref f30) = true)
    {f31 : Addr} {o31 n31 : Option Addr} {sl31 : Array (Option Value)} {v31 w31 x31 y31 c31 z31 : Value} (a31 : PySem.W.nsIn K mainGlobals "_law_told" = some (some (.ref f31))) (l31 : K.lookup f31 = some ⟨v31, o31, .func (PySem.W.fnOf "_law_told" "_law_told" (defArgs s_law_told) (defBody s_law_told) (defScope s_law_told) .none w31 x31 y31 n31 c31 z31), sl31⟩) (c_31 : PySem.W.codeIn K c31 "_law_told" = true) (k31 : PySem.W.keepIn K (.ref f31) = true)
    {f32 : Addr} {o32 n32 : Option Addr} {sl32 : Array (Option Value)} {v32 w32 x32 y32 c32 z32 : Value} (a32 : PySem.W.nsIn K mainGlobals "_law_right" = some (some (.ref f32))) (l32 : K.lookup f32 = some ⟨v32, o32, .func (PySem.W.fnOf "_law_right" "_law_right" (defArgs s_law_right) (defBody s_law_right) (defScope s_law_right) .none w32 x32 y32 n32 c32 z32), sl32⟩) (c_32 : PySem.W.codeIn K c32 "_law_right" = true) (k32 : PySem.W.keepIn K (.ref f32) = true)
    {f33 : Addr} {o33 n33 : Option Addr} {sl33 : Array (Option Value)} {v33 w33 x33 y33 c33 z33 : Value} (a33 : PySem.W.nsIn K mainGlobals "law" = some (some (.ref f33))) (l33 : K.lookup f33 = some ⟨v33, o33, .func (PySem.W.fnOf "law" "law" (defArgs s_law) (defBody s_law) (defScope s_law) .none w33 x33 y33 n33 c33 z33), sl33⟩) (c_33 : PySem.W.codeIn K c33 "law" = true) (k33 : PySem.W.keepIn K (.ref f33) = true)
    (zb_abs : PySem.W.nsIn K mainGlobals "abs" = some none)
    (zb_any : PySem.W.nsIn K mainGlobals "any" = some none)
    (zb_bool : PySem.W.nsIn K mainGlobals "bool" = some none)
    (zb_enumerate : PySem.W.nsIn K mainGlobals "enumerate" = some none)
    (zb_int : PySem.W.nsIn K mainGlobals "int" = some none)
    (zb_isinstance : PySem.W.nsIn K mainGlobals "isinstance" = some none)
    (zb_len : PySem.W.nsIn K mainGlobals "len" = some none)
    (zb_list : PySem.W.nsIn K mainGlobals "list" = some none)
    (zb_max : PySem.W.nsIn K mainGlobals "max" = some none)
    (zb_min : PySem.W.nsIn K mainGlobals "min" = some none)
    (zb_range : PySem.W.nsIn K mainGlobals "range" = some none)
    (zb_sorted : PySem.W.nsIn K mainGlobals "sorted" = some none)
    (zb_str : PySem.W.nsIn K mainGlobals "str" = some none)
    (zb_sum : PySem.W.nsIn K mainGlobals "sum" = some none)
    (zb_tuple : PySem.W.nsIn K mainGlobals "tuple" = some none)
    : ∃ fd : FuncData, (∀ (s : Shared) (v : Value), BindsTo s fd ⟨[v], []⟩ [("script", v)]) ∧ ∀ base : Heap, K.In base → base.Ns mainGlobals mg → FnOk l.prog w K mg base CX0 24 fa fd ["script"] (spD K ([], []) 1 sp_law) := by
  have e := hfa.symm.trans (PySem.W.mg_of X G a33)
  cases e
  have F0 := fun_mk (st := s_fits_member) l0 c_0 k0
  have b0 := F0.binds (ps := p_fits_member) fun _ _ _ _ _ _ us hl => match us, hl with | [_, _, _], _ => rfl
  have F1 := fun_mk (st := s_nought_if) l1 c_1 k1
  have b1 := F1.binds (ps := p_nought_if) fun _ _ _ _ _ _ us hl => match us, hl with | [_], _ => rfl
  have F2 := fun_mk (st := s_law_tape) l2 c_2 k2
  have b2 := F2.binds (ps := p_law_tape) fun _ _ _ _ _ _ us hl => match us, hl with | [_], _ => rfl
  have F3 := fun_mk (st := s_law_draw) l3 c_3 k3
  have b3 := F3.binds (ps := p_law_draw) fun _ _ _ _ _ _ us hl => match us, hl with | [_, _], _ => rfl
  have F4 := fun_mk (st := s_law_s_fits) l4 c_4 k4
  have b4 := F4.binds (ps := p_law_s_fits) fun _ _ _ _ _ _ us hl => match us, hl with | [_, _, _], _ => rfl
  have F5 := fun_mk (st := s_places) l5 c_5 k5
  have b5 := F5.binds (ps := p_places) fun _ _ _ _ _ _ us hl => match us, hl with | [_, _, _], _ => rfl
  have F6 := fun_mk (st := s_law_pick) l6 c_6 k6
  have b6 := F6.binds (ps := p_law_pick) fun _ _ _ _ _ _ us hl => match us, hl with | [_, _], _ => rfl
  have F7 := fun_mk (st := s_law_turns) l7 c_7 k7
  have b7 := F7.binds (ps := p_law_turns) fun _ _ _ _ _ _ us hl => match us, hl with | [_, _], _ => rfl
  have F8 := fun_mk (st := s_law_shuffled) l8 c_8 k8
  have b8 := F8.binds (ps := p_law_shuffled) fun _ _ _ _ _ _ us hl => match us, hl with | [_, _], _ => rfl
  have F9 := fun_mk (st := s_law_s_places) l9 c_9 k9
  have b9 := F9.binds (ps := p_law_s_places) fun _ _ _ _ _ _ us hl => match us, hl with | [_, _, _], _ => rfl
  have F10 := fun_mk (st := s_law_b_reading) l10 c_10 k10
  have b10 := F10.binds (ps := p_law_b_reading) fun _ _ _ _ _ _ us hl => match us, hl with | [_, _, _], _ => rfl
  have F11 := fun_mk (st := s_score_of_words) l11 c_11 k11
  have b11 := F11.binds (ps := p_score_of_words) fun _ _ _ _ _ _ us hl => match us, hl with | [_, _], _ => rfl
  have F12 := fun_mk (st := s_law_vocabulary) l12 c_12 k12
  have b12 := F12.binds (ps := p_law_vocabulary) fun _ _ _ _ _ _ us hl => match us, hl with | [_], _ => rfl
  have F13 := fun_mk (st := s_law_some_words) l13 c_13 k13
  have b13 := F13.binds (ps := p_law_some_words) fun _ _ _ _ _ _ us hl => match us, hl with | [_, _, _], _ => rfl
  have F14 := fun_mk (st := s_law_b_addresses) l14 c_14 k14
  have b14 := F14.binds (ps := p_law_b_addresses) fun _ _ _ _ _ _ us hl => match us, hl with | [_, _], _ => rfl
  have F15 := fun_mk (st := s_law_b_phrase_question) l15 c_15 k15
  have b15 := F15.binds (ps := p_law_b_phrase_question) fun _ _ _ _ _ _ us hl => match us, hl with | [_, _], _ => rfl
  have F16 := fun_mk (st := s_law_turned) l16 c_16 k16
  have b16 := F16.binds (ps := p_law_turned) fun _ _ _ _ _ _ us hl => match us, hl with | [_, _], _ => rfl
  have F17 := fun_mk (st := s_law_pages) l17 c_17 k17
  have b17 := F17.binds (ps := p_law_pages) fun _ _ _ _ _ _ us hl => match us, hl with | [_], _ => rfl
  have F18 := fun_mk (st := s_law_same) l18 c_18 k18
  have b18 := F18.binds (ps := p_law_same) fun _ _ _ _ _ _ us hl => match us, hl with | [_, _], _ => rfl
  have F19 := fun_mk (st := s_law_b_question) l19 c_19 k19
  have b19 := F19.binds (ps := p_law_b_question) fun _ _ _ _ _ _ us hl => match us, hl with | [_, _, _], _ => rfl
  have F20 := fun_mk (st := s_size) l20 c_20 k20
  have b20 := F20.binds (ps := p_size) fun _ _ _ _ _ _ us hl => match us, hl with | [_], _ => rfl
  have F21 := fun_mk (st := s_questions_of_words) l21 c_21 k21
  have b21 := F21.binds (ps := p_questions_of_words) fun _ _ _ _ _ _ us hl => match us, hl with | [_], _ => rfl
  have F22 := fun_mk (st := s_law_s_size) l22 c_22 k22
  have b22 := F22.binds (ps := p_law_s_size) fun _ _ _ _ _ _ us hl => match us, hl with | [_], _ => rfl
  have F23 := fun_mk (st := s_law_deep) l23 c_23 k23
  have b23 := F23.binds (ps := p_law_deep) fun _ _ _ _ _ _ us hl => match us, hl with | [_], _ => rfl
  have F24 := fun_mk (st := s_found) l24 c_24 k24
  have b24 := F24.binds (ps := p_found) fun _ _ _ _ _ _ us hl => match us, hl with | [_, _], _ => rfl
  have F25 := fun_mk (st := s_law_b_asked) l25 c_25 k25
  have b25 := F25.binds (ps := p_law_b_asked) fun _ _ _ _ _ _ us hl => match us, hl with | [_, _], _ => rfl
  have F26 := fun_mk (st := s_law_s_score) l26 c_26 k26
  have b26 := F26.binds (ps := p_law_s_score) fun _ _ _ _ _ _ us hl => match us, hl with | [_, _], _ => rfl
  have F27 := fun_mk (st := s_law_s_found) l27 c_27 k27
  have b27 := F27.binds (ps := p_law_s_found) fun _ _ _ _ _ _ us hl => match us, hl with | [_, _], _ => rfl
  have F28 := fun_mk (st := s_law_case) l28 c_28 k28
  have b28 := F28.binds (ps := p_law_case) fun _ _ _ _ _ _ us hl => match us, hl with | [_, _, _], _ => rfl
  have F29 := fun_mk (st := s_score_of_some) l29 c_29 k29
  have b29 := F29.binds (ps := p_score_of_some) fun _ _ _ _ _ _ us hl => match us, hl with | [_, _], _ => rfl
  have F30 := fun_mk (st := s_score) l30 c_30 k30
  have b30 := F30.binds (ps := p_score) fun _ _ _ _ _ _ us hl => match us, hl with | [_, _], _ => rfl
  have F31 := fun_mk (st := s_law_told) l31 c_31 k31
  have b31 := F31.binds (ps := p_law_told) fun _ _ _ _ _ _ us hl => match us, hl with | [_, _, _], _ => rfl
  have F32 := fun_mk (st := s_law_right) l32 c_32 k32
  have b32 := F32.binds (ps := p_law_right) fun _ _ _ _ _ _ us hl => match us, hl with | [_], _ => rfl
  have F33 := fun_mk (st := s_law) l33 c_33 k33
  have b33 := F33.binds (ps := p_law) fun _ _ _ _ _ _ us hl => match us, hl with | [_], _ => rfl
  refine ⟨PySem.W.fnOf "law" "law" (defArgs s_law) (defBody s_law) (defScope s_law) .none w33 x33 y33 n33 c33 z33, fun s v => .of_eq rfl, fun base _ _ => ?_⟩
  exact all_ok (⟨_, _, F0, PySem.W.mg_of X G a0, b0, _, _, F1, PySem.W.mg_of X G a1, b1, _, _, F2, PySem.W.mg_of X G a2, b2, _, _, F3, PySem.W.mg_of X G a3, b3, _, _, F4, PySem.W.mg_of X G a4, b4, _, _, F5, PySem.W.mg_of X G a5, b5, _, _, F6, PySem.W.mg_of X G a6, b6, _, _, F7, PySem.W.mg_of X G a7, b7, _, _, F8, PySem.W.mg_of X G a8, b8, _, _, F9, PySem.W.mg_of X G a9, b9, _, _, F10, PySem.W.mg_of X G a10, b10, _, _, F11, PySem.W.mg_of X G a11, b11, _, _, F12, PySem.W.mg_of X G a12, b12, _, _, F13, PySem.W.mg_of X G a13, b13, _, _, F14, PySem.W.mg_of X G a14, b14, _, _, F15, PySem.W.mg_of X G a15, b15, _, _, F16, PySem.W.mg_of X G a16, b16, _, _, F17, PySem.W.mg_of X G a17, b17, _, _, F18, PySem.W.mg_of X G a18, b18, _, _, F19, PySem.W.mg_of X G a19, b19, _, _, F20, PySem.W.mg_of X G a20, b20, _, _, F21, PySem.W.mg_of X G a21, b21, _, _, F22, PySem.W.mg_of X G a22, b22, _, _, F23, PySem.W.mg_of X G a23, b23, _, _, F24, PySem.W.mg_of X G a24, b24, _, _, F25, PySem.W.mg_of X G a25, b25, _, _, F26, PySem.W.mg_of X G a26, b26, _, _, F27, PySem.W.mg_of X G a27, b27, _, _, F28, PySem.W.mg_of X G a28, b28, _, _, F29, PySem.W.mg_of X G a29, b29, _, _, F30, PySem.W.mg_of X G a30, b30, _, _, F31, PySem.W.mg_of X G a31, b31, _, _, F32, PySem.W.mg_of X G a32, b32, _, _, F33, PySem.W.mg_of X G a33, b33, PySem.W.mg_none_of X G zb_abs, PySem.W.mg_none_of X G zb_any, PySem.W.mg_none_of X G zb_bool, PySem.W.mg_none_of X G zb_enumerate, PySem.W.mg_none_of X G zb_int, PySem.W.mg_none_of X G zb_isinstance, PySem.W.mg_none_of X G zb_len, PySem.W.mg_none_of X G zb_list, PySem.W.mg_none_of X G zb_max, PySem.W.mg_none_of X G zb_min, PySem.W.mg_none_of X G zb_range, PySem.W.mg_none_of X G zb_sorted, PySem.W.mg_none_of X G zb_str, PySem.W.mg_none_of X G zb_sum, PySem.W.mg_none_of X G zb_tuple⟩ : Tx K mg)
end Dlk33
open PySem PySem.W PyProof.Rows
set_option maxHeartbeats 0 in
theorem PySem.Challenge.cw_gatherhouse_k33_what_questions_give_holds : PySem.Challenge.rw_gatherhouse_k33_what_questions_give.Holds := by
  w_on; o_law; k_head; (case hw => w_witness2)
  k_fill
  refine L2.walk_of (l := PySem.Challenge.rw_gatherhouse_k33_what_questions_give) (n := 63) (k := 24) (x := "script") (CX := fun _ => L2.CX0) (sp := fun w => DL.spD _ ([], []) 1 Dlk33.sp_law) rfl (by decide) rfl ⟨rfl, by decide, by decide⟩ (fun w h Y => PySem.W.kIn_of Y) ?F (fun _ _ a ns hl _ hS => DL.law_sp hS (Dlk33.law_start hl)) (fun _ _ _ _ _ h => h)
  case F =>
    intro w mg fa h KX G hmg
    refine' Dlk33.all_mk KX G hmg ?a0 ?l0 ?c_0 ?k0 ?a1 ?l1 ?c_1 ?k1 ?a2 ?l2 ?c_2 ?k2 ?a3 ?l3 ?c_3 ?k3 ?a4 ?l4 ?c_4 ?k4 ?a5 ?l5 ?c_5 ?k5 ?a6 ?l6 ?c_6 ?k6 ?a7 ?l7 ?c_7 ?k7 ?a8 ?l8 ?c_8 ?k8 ?a9 ?l9 ?c_9 ?k9 ?a10 ?l10 ?c_10 ?k10 ?a11 ?l11 ?c_11 ?k11 ?a12 ?l12 ?c_12 ?k12 ?a13 ?l13 ?c_13 ?k13 ?a14 ?l14 ?c_14 ?k14 ?a15 ?l15 ?c_15 ?k15 ?a16 ?l16 ?c_16 ?k16 ?a17 ?l17 ?c_17 ?k17 ?a18 ?l18 ?c_18 ?k18 ?a19 ?l19 ?c_19 ?k19 ?a20 ?l20 ?c_20 ?k20 ?a21 ?l21 ?c_21 ?k21 ?a22 ?l22 ?c_22 ?k22 ?a23 ?l23 ?c_23 ?k23 ?a24 ?l24 ?c_24 ?k24 ?a25 ?l25 ?c_25 ?k25 ?a26 ?l26 ?c_26 ?k26 ?a27 ?l27 ?c_27 ?k27 ?a28 ?l28 ?c_28 ?k28 ?a29 ?l29 ?c_29 ?k29 ?a30 ?l30 ?c_30 ?k30 ?a31 ?l31 ?c_31 ?k31 ?a32 ?l32 ?c_32 ?k32 ?a33 ?l33 ?c_33 ?k33 ?zb_abs ?zb_any ?zb_bool ?zb_enumerate ?zb_int ?zb_isinstance ?zb_len ?zb_list ?zb_max ?zb_min ?zb_range ?zb_sorted ?zb_str ?zb_sum ?zb_tuple
    (case a0 => k_is); (case l0 => k_is); (case c_0 => k_is); (case k0 => k_is); (case a1 => k_is); (case l1 => k_is); (case c_1 => k_is); (case k1 => k_is); (case a2 => k_is); (case l2 => k_is); (case c_2 => k_is); (case k2 => k_is); (case a3 => k_is); (case l3 => k_is); (case c_3 => k_is); (case k3 => k_is); (case a4 => k_is); (case l4 => k_is); (case c_4 => k_is); (case k4 => k_is); (case a5 => k_is); (case l5 => k_is); (case c_5 => k_is); (case k5 => k_is); (case a6 => k_is); (case l6 => k_is); (case c_6 => k_is); (case k6 => k_is); (case a7 => k_is); (case l7 => k_is); (case c_7 => k_is); (case k7 => k_is); (case a8 => k_is); (case l8 => k_is); (case c_8 => k_is); (case k8 => k_is); (case a9 => k_is); (case l9 => k_is); (case c_9 => k_is); (case k9 => k_is); (case a10 => k_is); (case l10 => k_is); (case c_10 => k_is); (case k10 => k_is); (case a11 => k_is); (case l11 => k_is); (case c_11 => k_is); (case k11 => k_is); (case a12 => k_is); (case l12 => k_is); (case c_12 => k_is); (case k12 => k_is); (case a13 => k_is); (case l13 => k_is); (case c_13 => k_is); (case k13 => k_is); (case a14 => k_is); (case l14 => k_is); (case c_14 => k_is); (case k14 => k_is); (case a15 => k_is); (case l15 => k_is); (case c_15 => k_is); (case k15 => k_is); (case a16 => k_is); (case l16 => k_is); (case c_16 => k_is); (case k16 => k_is); (case a17 => k_is); (case l17 => k_is); (case c_17 => k_is); (case k17 => k_is); (case a18 => k_is); (case l18 => k_is); (case c_18 => k_is); (case k18 => k_is); (case a19 => k_is); (case l19 => k_is); (case c_19 => k_is); (case k19 => k_is); (case a20 => k_is); (case l20 => k_is); (case c_20 => k_is); (case k20 => k_is); (case a21 => k_is); (case l21 => k_is); (case c_21 => k_is); (case k21 => k_is); (case a22 => k_is); (case l22 => k_is); (case c_22 => k_is); (case k22 => k_is); (case a23 => k_is); (case l23 => k_is); (case c_23 => k_is); (case k23 => k_is); (case a24 => k_is); (case l24 => k_is); (case c_24 => k_is); (case k24 => k_is); (case a25 => k_is); (case l25 => k_is); (case c_25 => k_is); (case k25 => k_is); (case a26 => k_is); (case l26 => k_is); (case c_26 => k_is); (case k26 => k_is); (case a27 => k_is); (case l27 => k_is); (case c_27 => k_is); (case k27 => k_is); (case a28 => k_is); (case l28 => k_is); (case c_28 => k_is); (case k28 => k_is); (case a29 => k_is); (case l29 => k_is); (case c_29 => k_is); (case k29 => k_is); (case a30 => k_is); (case l30 => k_is); (case c_30 => k_is); (case k30 => k_is); (case a31 => k_is); (case l31 => k_is); (case c_31 => k_is); (case k31 => k_is); (case a32 => k_is); (case l32 => k_is); (case c_32 => k_is); (case k32 => k_is); (case a33 => k_is); (case l33 => k_is); (case c_33 => k_is); (case k33 => k_is); (case zb_abs => k_is); (case zb_any => k_is); (case zb_bool => k_is); (case zb_enumerate => k_is); (case zb_int => k_is); (case zb_isinstance => k_is); (case zb_len => k_is); (case zb_list => k_is); (case zb_max => k_is); (case zb_min => k_is); (case zb_range => k_is); (case zb_sorted => k_is); (case zb_str => k_is); (case zb_sum => k_is); (case zb_tuple => k_is)
