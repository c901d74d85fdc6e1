import PyProof.Rows.All
import Wide.All
import OpenK.AllK
import Wide.FinOn
import HandS.ForMost
import HandS.Wide
import HandS.Walk
import HandS.IsInst
import HandS.Style
import HandS.CallLocal
import HandS.Lambda
import HandS.NestedK
import HandS.EndTab
import HandS.HeadWalk
import HandS.Head2
import HandS.HeadHook4
import KE.KTupSum
import KE.KDictKeyed
import KE.KDictDisplayH
import KE.KDictCopyH
import PySem.Challenge.RW_dueturns_k22_whole_no_row_is_fairer
set_option Elab.async false
set_option linter.all false
set_option maxRecDepth 100000
set_option maxHeartbeats 0
/-! A logic of data over the hand layer: what expressions and statements do to plain data, the heap out of sight. -/
namespace Du
open PySem PySem.Spec PyProof.Rows L2

/-! ### data in the heap -/
section
variable (K : PySem.W.Frag) (C : Addr)
mutual
/-- the value v is the datum d, all of it to be read in G -/
inductive At (G : Hp) : V → PyData → Prop
  | non : At G .non .none
  | bl (b : Bool) : At G (.bl b) (.bool b)
  | int (i : Int) : At G (.int i) (.int i)
  | str (x : Str) : At G (.str x) (.str x)
  | lst {a : Addr} {xs : List V} {ds : List PyData} : G a = some (.lst xs) → AtAll G xs ds → At G (.ref a) (.list ds)
  | tup {a : Addr} {xs : List V} {ds : List PyData} : SqT K G a xs → AtAll G xs ds → At G (.ref a) (.tuple ds)
  | plan {a dx : Addr} {vk vt : V} {dk dt : PyData} : G a = some (.ins C dx [("kept", vk), ("table", vt)]) → At G vk dk → At G vt dt → At G (.ref a) (.dict [(dk, dt)])
  /-- a plan that is being made: no table so far -/
  | plan0 {a dx : Addr} {vk : V} {dk : PyData} : G a = some (.ins C dx [("kept", vk)]) → At G vk dk → At G (.ref a) (.dict [(dk, .none)])
inductive AtAll (G : Hp) : List V → List PyData → Prop
  | nil : AtAll G [] []
  | cons {v : V} {vs : List V} {d : PyData} {ds : List PyData} : At G v d → AtAll G vs ds → AtAll G (v :: vs) (d :: ds)
end
end
theorem sqT_mono {K : PySem.W.Frag} {G G' : Hp} {a : Addr} {xs : List V} (e : Same G G') (h : SqT K G a xs) : SqT K G' a xs := by
  rcases h with (h | ⟨o, h⟩) | h
  · exact .inl (.inl (e _ _ h))
  · exact .inl (.inr ⟨o, e _ _ h⟩)
  · exact .inr h
section
variable {K : PySem.W.Frag} {C : Addr} {G G' : Hp}
mutual
theorem At.mono (e : ∀ b o, G b = some o → (∀ ps, o ≠ .tbl ps) → G' b = some o) : ∀ {v : V} {d : PyData}, At K C G v d → At K C G' v d
  | _, _, .non => .non
  | _, _, .bl b => .bl b
  | _, _, .int i => .int i
  | _, _, .str x => .str x
  | _, _, .lst h hs => .lst (e _ _ h (fun _ z => nomatch z)) (AtAll.mono e hs)
  | _, _, .tup h hs => .tup (by
      rcases h with (h | ⟨o, h⟩) | h
      · exact .inl (.inl (e _ _ h (fun _ z => nomatch z)))
      · exact .inl (.inr ⟨o, e _ _ h (fun _ z => nomatch z)⟩)
      · exact .inr h) (AtAll.mono e hs)
  | _, _, .plan h h1 h2 => .plan (e _ _ h (fun _ z => nomatch z)) (At.mono e h1) (At.mono e h2)
  | _, _, .plan0 h h1 => .plan0 (e _ _ h (fun _ z => nomatch z)) (At.mono e h1)
theorem AtAll.mono (e : ∀ b o, G b = some o → (∀ ps, o ≠ .tbl ps) → G' b = some o) : ∀ {vs : List V} {ds : List PyData}, AtAll K C G vs ds → AtAll K C G' vs ds
  | _, _, .nil => .nil
  | _, _, .cons h hs => .cons (At.mono e h) (AtAll.mono e hs)
end
theorem At.up (e : Same G G') {v : V} {d : PyData} (h : At K C G v d) : At K C G' v d := h.mono fun b o x _ => e b o x
theorem AtAll.up (e : Same G G') {vs : List V} {ds : List PyData} (h : AtAll K C G vs ds) : AtAll K C G' vs ds := h.mono fun b o x _ => e b o x
theorem AtAll.len : ∀ {vs : List V} {ds : List PyData}, AtAll K C G vs ds → vs.length = ds.length
  | _, _, .nil => rfl
  | _, _, .cons _ h => congrArg Nat.succ h.len
theorem AtAll.get : ∀ {vs : List V} {ds : List PyData} {i : Nat} {d : PyData}, AtAll K C G vs ds → ds[i]? = some d → ∃ v, vs[i]? = some v ∧ At K C G v d
  | _, _, _, _, .nil, e => by simp at e
  | _, _, 0, _, .cons h _, e => by
    have e : _ = _ := Option.some.inj e
    subst e
    exact ⟨_, rfl, h⟩
  | _, _, i + 1, _, .cons _ t, e => by
    obtain ⟨v, h1, h2⟩ := AtAll.get (i := i) t e
    exact ⟨v, h1, h2⟩
theorem AtAll.get' : ∀ {vs : List V} {ds : List PyData} {i : Nat} {v : V}, AtAll K C G vs ds → vs[i]? = some v → ∃ d, ds[i]? = some d ∧ At K C G v d
  | _, _, _, _, .nil, e => by simp at e
  | _, _, 0, _, .cons h _, e => by
    have e : _ = _ := Option.some.inj e
    subst e
    exact ⟨_, rfl, h⟩
  | _, _, i + 1, _, .cons _ t, e => by
    obtain ⟨v, h1, h2⟩ := AtAll.get' (i := i) t e
    exact ⟨v, h1, h2⟩
theorem AtAll.app : ∀ {vs ws : List V} {ds es : List PyData}, AtAll K C G vs ds → AtAll K C G ws es → AtAll K C G (vs ++ ws) (ds ++ es)
  | _, _, _, _, .nil, s => s
  | _, _, _, _, .cons h t, s => .cons h (AtAll.app t s)
theorem AtAll.set {v : V} {d : PyData} (h : At K C G v d) : ∀ {vs : List V} {ds : List PyData} (i : Nat), AtAll K C G vs ds → AtAll K C G (vs.set i v) (ds.set i d)
  | _, _, _, .nil => .nil
  | _, _, 0, .cons _ t => .cons h t
  | _, _, i + 1, .cons q t => .cons q (AtAll.set h i t)
theorem AtAll.take : ∀ {vs : List V} {ds : List PyData} (n : Nat), AtAll K C G vs ds → AtAll K C G (vs.take n) (ds.take n)
  | _, _, 0, _ => .nil
  | _, _, _ + 1, .nil => .nil
  | _, _, n + 1, .cons h t => .cons h (AtAll.take n t)
theorem AtAll.drop : ∀ {vs : List V} {ds : List PyData} (n : Nat), AtAll K C G vs ds → AtAll K C G (vs.drop n) (ds.drop n)
  | _, _, 0, r => r
  | _, _, _ + 1, .nil => .nil
  | _, _, n + 1, .cons _ t => AtAll.drop n t
theorem AtAll.rev : ∀ {vs : List V} {ds : List PyData}, AtAll K C G vs ds → AtAll K C G vs.reverse ds.reverse
  | _, _, .nil => .nil
  | _, _, .cons h t => by
    rw [List.reverse_cons, List.reverse_cons]
    exact AtAll.app (AtAll.rev t) (.cons h .nil)
theorem AtAll.rep {vs : List V} {ds : List PyData} (h : AtAll K C G vs ds) : ∀ k : Nat, AtAll K C G (List.replicate k vs).flatten (List.replicate k ds).flatten
  | 0 => .nil
  | k + 1 => by
    rw [List.replicate_succ, List.replicate_succ, List.flatten_cons, List.flatten_cons]
    exact AtAll.app h (AtAll.rep h k)
theorem AtAll.ints : ∀ {vs : List V} {ns : List Int}, AtAll K C G vs (ns.map PyData.int) → vs = ns.map V.int
  | _, [], .nil => rfl
  | _, n :: ns, .cons h t => by
    cases h
    rw [AtAll.ints t]
    rfl
theorem AtAll.ofInts : ∀ ns : List Int, AtAll K C G (ns.map V.int) (ns.map PyData.int)
  | [] => .nil
  | n :: ns => .cons (.int n) (AtAll.ofInts ns)
end

/-! ### hidden addresses -/
open Classical in
noncomputable def hid (S : Addr → Prop) (H : Hp) : Hp := fun b => if S b then none else H b
section
variable {S S' : Addr → Prop} {H H' : Hp} {l : Addr} {o : HO}
theorem hid_some (h : hid S H l = some o) : ¬ S l ∧ H l = some o := by
  unfold hid at h
  by_cases q : S l
  · rw [if_pos q] at h
    cases h
  · rw [if_neg q] at h
    exact ⟨q, h⟩
theorem hid_of (h : ¬ S l) : hid S H l = H l := by
  unfold hid
  rw [if_neg h]
theorem hid_le : Same (hid S H) H := fun b o h => (hid_some h).2
theorem hid_mono (e : Same H H') : Same (hid S H) (hid S H') := fun b o h => by
  obtain ⟨h1, h2⟩ := hid_some h
  rw [hid_of h1]
  exact e _ _ h2
theorem hid_sub (e : ∀ b, S' b → S b) : Same (hid S H) (hid S' H) := fun b o h => by
  obtain ⟨h1, h2⟩ := hid_some h
  rw [hid_of fun q => h1 (e b q)]
  exact h2
theorem hid_upd (h : S l) : hid S (upd H l o) = hid S H := by
  funext b
  unfold hid
  by_cases q : S b
  · rw [if_pos q, if_pos q]
  · rw [if_neg q, if_neg q, upd_ne (fun z => q (by rw [z]; exact h))]
/-- one address more -/
def more (S : Addr → Prop) (l : Addr) : Addr → Prop := fun b => S b ∨ b = l
theorem hid_more (e : Same H H') (h : H l = none) : Same (hid S H) (hid (more S l) H') := fun b o x => by
  obtain ⟨h1, h2⟩ := hid_some x
  rw [hid_of]
  · exact e _ _ h2
  · rintro (z | z)
    · exact h1 z
    · rw [z, h] at h2
      cases h2
theorem same_new (h : H l = none) : Same H (upd H l o) := fun b u q => by
  rw [upd_ne (ne_of_none q h)]
  exact q
theorem same_mut (e : Same H H') (h : H l = none) : Same H (upd H' l o) := fun b u q => by
  rw [upd_ne (ne_of_none q h)]
  exact e _ _ q
end

/-! ### slots -/
/-- a slot: not known, a datum, a list of its own (that may be changed) -/
inductive Sl where
  | no | v (d : PyData) | own (ds : List PyData)
/-- the slots' data; S: what is hidden (the callers', and the lists of one's own); S0, H0: hidden and there at the entry -/
structure Conc (K : PySem.W.Frag) (C : Addr) (S0 : Addr → Prop) (H0 : Hp) (S : Addr → Prop) (D : List Sl) (st : L2.St) (H : Hp) : Prop where
  len : st.length = D.length
  sub : ∀ b, S0 b → S b
  dom0 : ∀ b, S0 b → H0 b ≠ none
  dom : ∀ b, S b → H b ≠ none
  old : Same H0 H
  val : ∀ (i : Nat) (d : PyData), D[i]? = some (.v d) → ∃ v, st[i]? = some (some v) ∧ At K C (hid S H) v d
  own : ∀ (i : Nat) (ds : List PyData), D[i]? = some (.own ds) → ∃ l vs, st[i]? = some (some (.ref l)) ∧ S l ∧ H0 l = none ∧ H l = some (.lst vs) ∧ AtAll K C (hid S H) vs ds
  sep : ∀ (i j : Nat) (ds es : List PyData) (l : Addr), D[i]? = some (.own ds) → D[j]? = some (.own es) → st[i]? = some (some (.ref l)) → st[j]? = some (some (.ref l)) → i = j
section
variable {K : PySem.W.Frag} {C : Addr} {S0 S : Addr → Prop} {H0 H H' : Hp} {D : List Sl} {st : L2.St}
theorem Conc.up (c : Conc K C S0 H0 S D st H) (e : Same H H') : Conc K C S0 H0 S D st H' where
  len := c.len
  sub := c.sub
  dom0 := c.dom0
  dom := fun b h q => by
    cases x : H b with
    | none => exact c.dom b h x
    | some o =>
      rw [e b o x] at q
      cases q
  old := c.old.trans e
  val := fun i d h => by
    obtain ⟨v, h1, h2⟩ := c.val i d h
    exact ⟨v, h1, h2.up (hid_mono e)⟩
  own := fun i ds h => by
    obtain ⟨l, vs, h1, h2, h3, h4, h5⟩ := c.own i ds h
    exact ⟨l, vs, h1, h2, h3, e _ _ h4, h5.up (hid_mono e)⟩
  sep := c.sep
/-- a slot takes a datum -/
theorem Conc.set (c : Conc K C S0 H0 S D st H) {i : Nat} {v : V} {d : PyData} (h : At K C (hid S H) v d) : Conc K C S0 H0 S (D.set i (.v d)) (st.set i (some v)) H where
  len := by rw [List.length_set, List.length_set, c.len]
  sub := c.sub
  dom0 := c.dom0
  dom := c.dom
  old := c.old
  val := fun j e q => by
    by_cases ij : i = j
    · subst ij
      have hj : i < D.length := by
        have := (List.getElem?_eq_some_iff.mp q).1
        rwa [List.length_set] at this
      rw [List.getElem?_set_self hj] at q
      cases q
      exact ⟨v, by rw [List.getElem?_set_self (by rw [c.len]; exact hj)], h⟩
    · rw [List.getElem?_set_ne ij] at q
      rw [List.getElem?_set_ne ij]
      exact c.val j e q
  own := fun j ds q => by
    by_cases ij : i = j
    · subst ij
      have hj : i < D.length := by
        have := (List.getElem?_eq_some_iff.mp q).1
        rwa [List.length_set] at this
      rw [List.getElem?_set_self hj] at q
      cases q
    · rw [List.getElem?_set_ne ij] at q
      rw [List.getElem?_set_ne ij]
      exact c.own j ds q
  sep := fun j k ds es l q1 q2 => by
    have nj : ∀ {j : Nat} {ds : List PyData}, (D.set i (.v d))[j]? = some (.own ds) → i ≠ j := fun {j ds} q ij => by
      subst ij
      have hj : i < D.length := by
        have := (List.getElem?_eq_some_iff.mp q).1
        rwa [List.length_set] at this
      rw [List.getElem?_set_self hj] at q
      cases q
    have a := nj q1
    have b := nj q2
    rw [List.getElem?_set_ne a] at q1
    rw [List.getElem?_set_ne b] at q2
    rw [List.getElem?_set_ne a, List.getElem?_set_ne b]
    exact c.sep j k ds es l q1 q2
/-- a slot takes a new list as its own -/
theorem Conc.setOwn (c : Conc K C S0 H0 S D st H) (e : Same H H') {i : Nat} {l : Addr} {vs : List V} {ds : List PyData} (hl : H l = none) (hl' : H' l = some (.lst vs)) (h : AtAll K C (hid (more S l) H') vs ds) :
    Conc K C S0 H0 (more S l) (D.set i (.own ds)) (st.set i (some (.ref l))) H' := by
  have c' := c.up e
  have nS : ¬ S l := fun z => c.dom l z hl
  have up : Same (hid S H) (hid (more S l) H') := hid_more e hl
  have ne_old : ∀ {j : Nat} {ds : List PyData}, D[j]? = some (.own ds) → st[j]? ≠ some (some (.ref l)) := fun {j ds} q z => by
    obtain ⟨l', vs, h1, h2, _⟩ := c.own j ds q
    rw [z] at h1
    cases h1
    exact nS h2
  refine ⟨by rw [List.length_set, List.length_set, c.len], fun b z => .inl (c.sub b z), c.dom0, fun b z => ?_, c'.old, fun j d q => ?_, fun j es q => ?_, fun j k es fs m q1 q2 h1 h2 => ?_⟩
  · rcases z with z | z
    · exact c'.dom b z
    · rw [z, hl']
      simp
  · by_cases ij : i = j
    · subst ij
      have hj : i < D.length := by
        have := (List.getElem?_eq_some_iff.mp q).1
        rwa [List.length_set] at this
      rw [List.getElem?_set_self hj] at q
      cases q
    · rw [List.getElem?_set_ne ij] at q
      rw [List.getElem?_set_ne ij]
      obtain ⟨v, h1, h2⟩ := c.val j d q
      exact ⟨v, h1, h2.up up⟩
  · by_cases ij : i = j
    · subst ij
      have hj : i < D.length := by
        have := (List.getElem?_eq_some_iff.mp q).1
        rwa [List.length_set] at this
      rw [List.getElem?_set_self hj] at q
      cases q
      refine ⟨l, vs, by rw [List.getElem?_set_self (by rw [c.len]; exact hj)], .inr rfl, ?_, hl', h⟩
      cases x : H0 l with
      | none => rfl
      | some o =>
        rw [c.old _ _ x] at hl
        cases hl
    · rw [List.getElem?_set_ne ij] at q
      rw [List.getElem?_set_ne ij]
      obtain ⟨m, ws, h1, h2, h3, h4, h5⟩ := c.own j es q
      exact ⟨m, ws, h1, .inl h2, h3, e _ _ h4, h5.up up⟩
  · by_cases ij : i = j
    · by_cases ik : i = k
      · rw [← ij, ← ik]
      · subst ij
        have hj : i < D.length := by
          have := (List.getElem?_eq_some_iff.mp q1).1
          rwa [List.length_set] at this
        rw [List.getElem?_set_self (by rw [c.len]; exact hj)] at h1
        cases h1
        rw [List.getElem?_set_ne ik] at q2 h2
        exact absurd h2 (ne_old q2)
    · by_cases ik : i = k
      · subst ik
        have hj : i < D.length := by
          have := (List.getElem?_eq_some_iff.mp q2).1
          rwa [List.length_set] at this
        rw [List.getElem?_set_self (by rw [c.len]; exact hj)] at h2
        cases h2
        rw [List.getElem?_set_ne ij] at q1 h1
        exact absurd h1 (ne_old q1)
      · rw [List.getElem?_set_ne ij] at q1 h1
        rw [List.getElem?_set_ne ik] at q2 h2
        exact c.sep j k es fs m q1 q2 h1 h2
/-- a list of its own is changed -/
theorem Conc.change (c : Conc K C S0 H0 S D st H) {i : Nat} {l : Addr} {vs : List V} {ds es : List PyData} (q : D[i]? = some (.own ds)) (hl : st[i]? = some (some (.ref l))) (h : AtAll K C (hid S H) vs es) :
    Conc K C S0 H0 S (D.set i (.own es)) st (upd H l (.lst vs)) := by
  obtain ⟨l', vs', h1, h2, h3, h4, h5⟩ := c.own i ds q
  rw [hl] at h1
  cases h1
  have hD : i < D.length := (List.getElem?_eq_some_iff.mp q).1
  refine ⟨by rw [List.length_set, c.len], c.sub, c.dom0, fun b z => ?_, same_mut c.old h3, fun j d x => ?_, fun j fs x => ?_, fun j k fs gs m q1 q2 => ?_⟩
  · by_cases e : b = l
    · rw [e, upd_same]
      simp
    · rw [upd_ne e]
      exact c.dom b z
  · rw [hid_upd h2]
    by_cases ij : i = j
    · subst ij
      rw [List.getElem?_set_self hD] at x
      cases x
    · rw [List.getElem?_set_ne ij] at x
      exact c.val j d x
  · rw [hid_upd h2]
    by_cases ij : i = j
    · subst ij
      rw [List.getElem?_set_self hD] at x
      cases x
      exact ⟨l, vs, hl, h2, h3, upd_same, h⟩
    · rw [List.getElem?_set_ne ij] at x
      obtain ⟨m, ws, g1, g2, g3, g4, g5⟩ := c.own j fs x
      have nm : m ≠ l := fun z => ij (c.sep i j ds fs l q x hl (by rw [← z]; exact g1))
      exact ⟨m, ws, g1, g2, g3, by rw [upd_ne nm]; exact g4, g5⟩
  · have old : ∀ {j : Nat} {fs : List PyData}, (D.set i (.own es))[j]? = some (.own fs) → ∃ gs, D[j]? = some (.own gs) := fun {j fs} x => by
      by_cases ij : i = j
      · subst ij
        exact ⟨_, q⟩
      · rw [List.getElem?_set_ne ij] at x
        exact ⟨_, x⟩
    obtain ⟨_, a⟩ := old q1
    obtain ⟨_, b⟩ := old q2
    exact c.sep j k _ _ m a b
/-- a list of its own becomes a datum -/
theorem Conc.give (c : Conc K C S0 H0 S D st H) {i : Nat} {ds : List PyData} (q : D[i]? = some (.own ds)) : ∃ S', (∀ b, S' b → S b) ∧ Conc K C S0 H0 S' (D.set i (.v (.list ds))) st H := by
  obtain ⟨l, vs, h1, h2, h3, h4, h5⟩ := c.own i ds q
  have hD : i < D.length := (List.getElem?_eq_some_iff.mp q).1
  have sb : ∀ b, (fun b => S b ∧ b ≠ l) b → S b := fun b z => z.1
  refine ⟨fun b => S b ∧ b ≠ l, sb, by rw [List.length_set, c.len], fun b z => ⟨c.sub b z, fun e => c.dom0 b z (by rw [e]; exact h3)⟩, c.dom0, fun b z => c.dom b z.1, c.old, fun j d x => ?_, fun j fs x => ?_, fun j k fs gs m q1 q2 => ?_⟩
  · by_cases ij : i = j
    · subst ij
      rw [List.getElem?_set_self hD] at x
      cases x
      exact ⟨.ref l, h1, .lst (by rw [hid_of (fun z => z.2 rfl)]; exact h4) (h5.up (hid_sub sb))⟩
    · rw [List.getElem?_set_ne ij] at x
      obtain ⟨v, g1, g2⟩ := c.val j d x
      exact ⟨v, g1, g2.up (hid_sub sb)⟩
  · by_cases ij : i = j
    · subst ij
      rw [List.getElem?_set_self hD] at x
      cases x
    · rw [List.getElem?_set_ne ij] at x
      obtain ⟨m, ws, g1, g2, g3, g4, g5⟩ := c.own j fs x
      exact ⟨m, ws, g1, ⟨g2, fun z => ij (c.sep i j ds fs l q x h1 (by rw [← z]; exact g1))⟩, g3, g4, g5.up (hid_sub sb)⟩
  · have old : ∀ {j : Nat} {fs : List PyData}, (D.set i (.v (.list ds)))[j]? = some (.own fs) → D[j]? = some (.own fs) := fun {j fs} x => by
      by_cases ij : i = j
      · subst ij
        rw [List.getElem?_set_self hD] at x
        cases x
      · rw [List.getElem?_set_ne ij] at x
        exact x
    exact c.sep j k _ _ m (old q1) (old q2)
end
/-- b knows less than a -/
def Wk : List Sl → List Sl → Prop
  | [], [] => True
  | a :: r, b :: q => (b = .no ∨ b = a) ∧ Wk r q
  | _, _ => False
theorem Wk.refl : ∀ D : List Sl, Wk D D
  | [] => trivial
  | _ :: r => ⟨.inr rfl, Wk.refl r⟩
theorem Wk.len : ∀ {D E : List Sl}, Wk D E → D.length = E.length
  | [], [], _ => rfl
  | _ :: _, _ :: _, h => congrArg Nat.succ (Wk.len h.2)
  | [], _ :: _, h => h.elim
  | _ :: _, [], h => h.elim
theorem Wk.at_ : ∀ {D E : List Sl}, Wk D E → ∀ {i : Nat} {x : Sl}, E[i]? = some x → x = .no ∨ D[i]? = some x
  | [], [], _, _, _, h => by simp at h
  | _ :: _, _ :: _, h, 0, x, e => by
    have e : _ = x := Option.some.inj e
    subst e
    rcases h.1 with z | z
    · exact .inl z
    · exact .inr (by rw [z] <;> rfl)
  | _ :: _, _ :: _, h, i + 1, x, e => Wk.at_ (D := _) h.2 (i := i) e
  | [], _ :: _, h, _, _, _ => h.elim
  | _ :: _, [], h, _, _, _ => h.elim
theorem Conc.weak {K : PySem.W.Frag} {C : Addr} {S0 S : Addr → Prop} {H0 H : Hp} {D E : List Sl} {st : L2.St} (c : Conc K C S0 H0 S D st H) (w : Wk D E) : Conc K C S0 H0 S E st H where
  len := c.len.trans w.len
  sub := c.sub
  dom0 := c.dom0
  dom := c.dom
  old := c.old
  val := fun i d h => (w.at_ h).elim (fun z => nomatch z) (c.val i d)
  own := fun i d h => (w.at_ h).elim (fun z => nomatch z) (c.own i d)
  sep := fun i j ds es l h1 h2 => (w.at_ h1).elim (fun z => nomatch z) fun a => (w.at_ h2).elim (fun z => nomatch z) fun b => c.sep i j ds es l a b
end Du

namespace Du
open PySem PySem.Spec PyProof.Rows L2
section
variable (K : PySem.W.Frag) (C : Addr)
/-- an expression gives the datum d, of things that are not hidden -/
def Gd (te : TE) (D : List Sl) (d : PyData) : Prop := ∀ S0 H0 S st H, Conc K C S0 H0 S D st H → ∀ Q : VK, (∀ v H', Same H H' → At K C (hid S H') v d → Q v H') → te st H Q
/-- .. a new list -/
def Gn (te : TE) (D : List Sl) (ds : List PyData) : Prop := ∀ S0 H0 S st H, Conc K C S0 H0 S D st H → ∀ Q : VK,
  (∀ l vs H', Same H H' → H l = none → H' l = some (.lst vs) → AtAll K C (hid (more S l) H') vs ds → Q (.ref l) H') → te st H Q
/-- arguments; gx: those that may be hidden ones -/
def Ga (ta : TA) (D : List Sl) (ds : List PyData) : Prop := ∀ S0 H0 S st H, Conc K C S0 H0 S D st H → ∀ Q : List V → Hp → Prop, (∀ vs H', Same H H' → AtAll K C (hid S H') vs ds → Q vs H') → ta st H Q
def Gx (ta : TA) (D : List Sl) (ds : List PyData) : Prop := ∀ S0 H0 S st H, Conc K C S0 H0 S D st H → ∀ Q : List V → Hp → Prop, (∀ vs H', Same H H' → AtAll K C (hid S0 H') vs ds → Q vs H') → ta st H Q
/-- what is handed back -/
def Gr (te : TE) (D : List Sl) (d : PyData) : Prop := ∀ S0 H0 S st H, Conc K C S0 H0 S D st H → ∀ Q : VK, (∀ v H', Same H H' → At K C (hid S0 H') v d → Q v H') → te st H Q
def Gb (tt : TT) (D : List Sl) (b : Bool) : Prop := ∀ S0 H0 S st H, Conc K C S0 H0 S D st H → ∀ Q : Bool → Hp → Prop, (∀ H', Same H H' → Q b H') → tt st H Q
end
/-- data that hold no address -/
def flatD : PyData → Prop
  | .none => True
  | .bool _ => True
  | .int _ => True
  | .str _ => True
  | _ => False
theorem At.flat {K : PySem.W.Frag} {C : Addr} {G G' : Hp} {v : V} {d : PyData} (h : At K C G v d) (f : flatD d) : At K C G' v d := by
  cases h with
  | non => exact .non
  | bl b => exact .bl b
  | int i => exact .int i
  | str x => exact .str x
  | lst _ _ => exact f.elim
  | tup _ _ => exact f.elim
  | plan _ _ _ => exact f.elim
  | plan0 _ _ => exact f.elim
section
variable {K : PySem.W.Frag} {C : Addr} {D : List Sl} {d e : PyData} {ds es : List PyData} {ta tb te tl : TE} {i j : Int} {b : Bool}
theorem Gd.is (h : Gd K C te D d) (q : d = e) : Gd K C te D e := q ▸ h
theorem gd_var {k : Nat} (h : D[k]? = some (.v d) := by rfl) : Gd K C (tVar k) D d := fun S0 H0 S st H c Q q => by
  obtain ⟨v, h1, h2⟩ := c.val k d h
  exact ⟨v, h1, q v H (Same.refl H) h2⟩
theorem gd_int : Gd K C (tC (.int i)) D (.int i) := fun _ _ _ _ H _ _ q => q _ H (Same.refl H) (.int i)
theorem gd_bl : Gd K C (tC (.bl b)) D (.bool b) := fun _ _ _ _ H _ _ q => q _ H (Same.refl H) (.bl b)
theorem gd_non : Gd K C (tC .non) D .none := fun _ _ _ _ H _ _ q => q _ H (Same.refl H) .non
theorem gd_str {x : Str} : Gd K C (tC (.str x)) D (.str x) := fun _ _ _ _ H _ _ q => q _ H (Same.refl H) (.str x)
theorem ga_nil : Ga K C tNil D [] := fun _ _ _ _ H _ _ q => q _ H (Same.refl H) .nil
theorem ga_cons {tr : TA} (h : Gd K C te D d) (hr : Ga K C tr D ds) : Ga K C (tCons te tr) D (d :: ds) := fun S0 H0 S st H c Q q =>
  h S0 H0 S st H c _ fun v H1 e1 a1 => hr S0 H0 S st H1 (c.up e1) _ fun vs H2 e2 a2 => q (v :: vs) H2 (e1.trans e2) (.cons (a1.up (hid_mono e2)) a2)
theorem gx_nil : Gx K C tNil D [] := fun _ _ _ _ H _ _ q => q _ H (Same.refl H) .nil
theorem gx_cons {tr : TA} (h : Gr K C te D d) (hr : Gx K C tr D ds) : Gx K C (tCons te tr) D (d :: ds) := fun S0 H0 S st H c Q q =>
  h S0 H0 S st H c _ fun v H1 e1 a1 => hr S0 H0 S st H1 (c.up e1) _ fun vs H2 e2 a2 => q (v :: vs) H2 (e1.trans e2) (.cons (a1.up (hid_mono e2)) a2)
theorem gr_of (h : Gd K C te D d) : Gr K C te D d := fun S0 H0 S st H c Q q => h S0 H0 S st H c Q fun v H' e1 a => q v H' e1 (a.up (hid_sub c.sub))
theorem gr_own {k : Nat} (h : D[k]? = some (.own ds) := by rfl) : Gr K C (tVar k) D (.list ds) := fun S0 H0 S st H c Q q => by
  obtain ⟨l, vs, h1, h2, h3, h4, h5⟩ := c.own k ds h
  exact ⟨.ref l, h1, q _ H (Same.refl H) (.lst (by rw [hid_of (fun z => c.dom0 l z h3)]; exact h4) (h5.up (hid_sub c.sub)))⟩
/-- a new list as a datum -/
theorem gd_new (h : Gn K C te D ds) : Gd K C te D (.list ds) := fun S0 H0 S st H c Q q => h S0 H0 S st H c Q fun l vs H' e1 n h1 a =>
  q _ H' e1 (.lst (by rw [hid_of (fun z => c.dom l z n)]; exact h1) (a.up (hid_sub fun b z => .inl z)))
theorem gd_tup {t : TA} (h : Ga K C t D ds) (hl : ds.length ≤ 1000 := by simp) : Gd K C (tTup t) D (.tuple ds) := fun S0 H0 S st H c Q q =>
  h S0 H0 S st H c _ fun vs H1 e1 a1 => ⟨by rw [a1.len]; exact Nat.le_of_lt (small1000 hl), fun p hp => by
    have e2 : Same H1 (upd H1 p (.tup vs)) := same_new hp
    refine q _ _ (e1.trans e2) (.tup (SqT.of ?_) (a1.up (hid_mono e2)))
    rw [hid_of (fun z => (c.up e1).dom p z hp), upd_same]⟩
theorem gl_lst {t : TA} (h : Ga K C t D ds) (hl : ds.length ≤ 1000 := by simp) : Gn K C (tLst t) D ds := fun S0 H0 S st H c Q q =>
  h S0 H0 S st H c _ fun vs H1 e1 a1 => ⟨by rw [a1.len]; exact Nat.le_of_lt (small1000 hl), fun p hp => by
    have e2 : Same H1 (upd H1 p (.lst vs)) := same_new hp
    exact q p vs _ (e1.trans e2) (e1.free hp) upd_same (a1.up (hid_more e2 hp))⟩
/-! ### ints -/
theorem gd_i0 {g : Int → Int → Int} (ha : Gd K C ta D (.int i)) (hb : Gd K C tb D (.int j)) : Gd K C (tOp (rI0 fun i j => .int (g i j)) ta tb) D (.int (g i j)) := fun S0 H0 S st H c Q q =>
  ha S0 H0 S st H c _ fun v H1 e1 a1 => hb S0 H0 S st H1 (c.up e1) _ fun u H2 e2 a2 => by
    cases a1
    cases a2
    exact ⟨i, j, rfl, rfl, q _ H2 (e1.trans e2) (.int _)⟩
theorem gd_i {P : Int → Int → Prop} {g : Int → Int → Int} (ha : Gd K C ta D (.int i)) (hb : Gd K C tb D (.int j)) (hp : P i j) : Gd K C (tOp (rI P fun i j => .int (g i j)) ta tb) D (.int (g i j)) := fun S0 H0 S st H c Q q =>
  ha S0 H0 S st H c _ fun v H1 e1 a1 => hb S0 H0 S st H1 (c.up e1) _ fun u H2 e2 a2 => by
    cases a1
    cases a2
    exact ⟨i, j, rfl, rfl, hp, q _ H2 (e1.trans e2) (.int _)⟩
theorem gd_b0 {g : Int → Int → Bool} (ha : Gd K C ta D (.int i)) (hb : Gd K C tb D (.int j)) : Gd K C (tOp (rI0 fun i j => .bl (g i j)) ta tb) D (.bool (g i j)) := fun S0 H0 S st H c Q q =>
  ha S0 H0 S st H c _ fun v H1 e1 a1 => hb S0 H0 S st H1 (c.up e1) _ fun u H2 e2 a2 => by
    cases a1
    cases a2
    exact ⟨i, j, rfl, rfl, q _ H2 (e1.trans e2) (.bl _)⟩
theorem gd_un {g : Int → Int} (ha : Gd K C ta D (.int i)) : Gd K C (tUn (rU fun i => .int (g i)) ta) D (.int (g i)) := fun S0 H0 S st H c Q q =>
  ha S0 H0 S st H c _ fun v H1 e1 a1 => by
    cases a1
    exact ⟨i, rfl, q _ H1 e1 (.int _)⟩
theorem gd_eqI (ha : Gd K C ta D (.int i)) (hb : Gd K C tb D (.int j)) : Gd K C (tOp rEq ta tb) D (.bool (decide (i = j))) := fun S0 H0 S st H c Q q =>
  ha S0 H0 S st H c _ fun v H1 e1 a1 => hb S0 H0 S st H1 (c.up e1) _ fun u H2 e2 a2 => by
    cases a1
    cases a2
    refine ⟨rfl, q _ H2 (e1.trans e2) ?_⟩
    rw [show decide (V.int i = V.int j) = decide (i = j) by rw [dec_int]; by_cases z : i = j <;> simp [z]]
    exact .bl _
theorem gd_neI (ha : Gd K C ta D (.int i)) (hb : Gd K C tb D (.int j)) : Gd K C (tOp rNe ta tb) D (.bool (!decide (i = j))) := fun S0 H0 S st H c Q q =>
  ha S0 H0 S st H c _ fun v H1 e1 a1 => hb S0 H0 S st H1 (c.up e1) _ fun u H2 e2 a2 => by
    cases a1
    cases a2
    refine ⟨rfl, q _ H2 (e1.trans e2) ?_⟩
    rw [show decide (V.int i = V.int j) = decide (i = j) by rw [dec_int]; by_cases z : i = j <;> simp [z]]
    exact .bl _
theorem gd_eqS {x y : Str} (ha : Gd K C ta D (.str x)) (hb : Gd K C tb D (.str y)) : Gd K C (tOp rEq ta tb) D (.bool (decide (x = y))) := fun S0 H0 S st H c Q q =>
  ha S0 H0 S st H c _ fun v H1 e1 a1 => hb S0 H0 S st H1 (c.up e1) _ fun u H2 e2 a2 => by
    cases a1
    cases a2
    refine ⟨rfl, q _ H2 (e1.trans e2) ?_⟩
    rw [show decide (V.str x = V.str y) = decide (x = y) by by_cases z : x = y <;> simp [z]]
    exact .bl _
/-- x is None -/
def isNone : PyData → Bool
  | .none => true
  | _ => false
theorem gd_isN (ha : Gd K C ta D d) : Gd K C (tOp (fun x y H Q => y = .non ∧ Q (.bl (decide (x = .non))) H) ta (tC .non)) D (.bool (isNone d)) := fun S0 H0 S st H c Q q =>
  ha S0 H0 S st H c _ fun v H1 e1 a1 => by
    refine ⟨rfl, q _ H1 e1 ?_⟩
    cases a1 <;> exact .bl _
/-! ### tests -/
theorem gb_test (h : Gd K C te D (.bool b)) : Gb K C (tTest te) D b := fun S0 H0 S st H c Q q => h S0 H0 S st H c _ fun v H1 e1 a1 => by
  cases a1
  exact ⟨b, rfl, q H1 e1⟩
theorem gb_val (h : Gd K C te D (.bool b)) : Gb K C (tB te) D b := fun S0 H0 S st H c Q q => h S0 H0 S st H c _ fun v H1 e1 a1 => by
  cases a1
  exact ⟨b, rfl, q H1 e1⟩
theorem gb_not {t : TT} (h : Gb K C t D b) : Gb K C (tNot t) D (!b) := fun S0 H0 S st H c Q q => h S0 H0 S st H c _ fun H1 e1 => q H1 e1
theorem gb_and {t u : TT} {b' : Bool} (h : Gb K C t D b) (h' : b = true → Gb K C u D b') : Gb K C (tAnd t u) D (b && b') := fun S0 H0 S st H c Q q => h S0 H0 S st H c _ fun H1 e1 => by
  cases b with
  | true => exact iteT (h' rfl S0 H0 S st H1 (c.up e1) _ fun H2 e2 => q H2 (e1.trans e2))
  | false => exact iteF (q H1 e1)
theorem gb_or {t u : TT} {b' : Bool} (h : Gb K C t D b) (h' : b = false → Gb K C u D b') : Gb K C (tOr t u) D (b || b') := fun S0 H0 S st H c Q q => h S0 H0 S st H c _ fun H1 e1 => by
  cases b with
  | false => exact iteF (h' rfl S0 H0 S st H1 (c.up e1) _ fun H2 e2 => q H2 (e1.trans e2))
  | true => exact iteT (q H1 e1)
theorem Gb.is {t : TT} {b' : Bool} (h : Gb K C t D b) (e : b = b') : Gb K C t D b' := e ▸ h
theorem gd_andV {b' : Bool} (h : Gd K C ta D (.bool b)) (h' : b = true → Gd K C tb D (.bool b')) : Gd K C (tAndV ta tb) D (.bool (b && b')) := fun S0 H0 S st H c Q q => h S0 H0 S st H c _ fun v H1 e1 a1 => by
  cases a1
  refine ⟨b, rfl, ?_⟩
  cases b with
  | true => exact iteT (h' rfl S0 H0 S st H1 (c.up e1) _ fun u H2 e2 a2 => q u H2 (e1.trans e2) a2)
  | false => exact iteF (q _ H1 e1 (.bl _))
theorem gd_notV (h : Gd K C ta D (.bool b)) : Gd K C (tNotV ta) D (.bool (!b)) := fun S0 H0 S st H c Q q => h S0 H0 S st H c _ fun v H1 e1 a1 => by
  cases a1
  exact ⟨b, rfl, q _ H1 e1 (.bl _)⟩
/-- a op b op' c of ints -/
theorem gb_chain {tc : TE} {k : Int} {p p' : Int → Int → Bool} (ha : Gd K C ta D (.int i)) (hb : Gd K C tb D (.int j)) (hc : Gd K C tc D (.int k)) :
    Gb K C (tTest (tChain (rI0 fun i j => .bl (p i j)) (rI0 fun i j => .bl (p' i j)) ta tb tc)) D (p i j && p' j k) := fun S0 H0 S st H c Q q =>
  ha S0 H0 S st H c _ fun v H1 e1 a1 => hb S0 H0 S st H1 (c.up e1) _ fun u H2 e2 a2 => by
    cases a1
    cases a2
    refine ⟨i, j, rfl, rfl, p i j, rfl, ?_⟩
    cases z : p i j with
    | false => exact iteF ⟨false, rfl, by rw [z] at q; exact q H2 (e1.trans e2)⟩
    | true =>
      refine iteT (hc S0 H0 S st H2 (c.up (e1.trans e2)) _ fun w H3 e3 a3 => ?_)
      cases a3
      exact ⟨j, k, rfl, rfl, p' j k, rfl, by rw [z] at q; exact q H3 ((e1.trans e2).trans e3)⟩
/-! ### lists and tuples -/
theorem atI_at {K : PySem.W.Frag} {C : Addr} {G : Hp} {vs : List V} {ds : List PyData} {i : Int} {d : PyData} (h : AtAll K C G vs ds) (e : atI ds i = some d) : ∃ v, atI vs i = some v ∧ At K C G v d := by
  unfold atI at e ⊢
  rw [h.len]
  cases q : ixN ds.length i with
  | none =>
    rw [q] at e
    cases e
  | some j =>
    rw [q] at e
    exact h.get e
theorem gd_ixL (ha : Gd K C ta D (.list ds)) (hb : Gd K C tb D (.int i)) (h : atI ds i = some d) : Gd K C (tOp (rIxL K) ta tb) D d := fun S0 H0 S st H c Q q =>
  ha S0 H0 S st H c _ fun v H1 e1 a1 => hb S0 H0 S st H1 (c.up e1) _ fun u H2 e2 a2 => by
    cases a1 with
    | lst hl hs =>
      cases a2
      obtain ⟨w, h1, h2⟩ := atI_at hs h
      exact ⟨_, _, i, w, rfl, rfl, SqL.of (e2 _ _ (hid_some hl).2), h1, q w H2 (e1.trans e2) (h2.up (hid_mono e2))⟩
theorem gd_ixT (ha : Gd K C ta D (.tuple ds)) (hb : Gd K C tb D (.int i)) (h : atI ds i = some d) : Gd K C (tOp (rIxT K) ta tb) D d := fun S0 H0 S st H c Q q =>
  ha S0 H0 S st H c _ fun v H1 e1 a1 => hb S0 H0 S st H1 (c.up e1) _ fun u H2 e2 a2 => by
    cases a1 with
    | tup hl hs =>
      cases a2
      obtain ⟨w, h1, h2⟩ := atI_at hs h
      exact ⟨_, _, i, w, rfl, rfl, sqT_mono (fun b o z => e2 _ _ ((hid_some z).2)) hl, h1, q w H2 (e1.trans e2) (h2.up (hid_mono e2))⟩
/-- an item of a list of one's own -/
theorem gd_ixO {k : Nat} (hD : D[k]? = some (.own ds)) (hb : Gd K C tb D (.int i)) (h : atI ds i = some d) : Gd K C (tOp (rIxL K) (tVar k) tb) D d := fun S0 H0 S st H c Q q => by
  obtain ⟨l, vs, h1, h2, h3, h4, h5⟩ := c.own k ds hD
  refine ⟨.ref l, h1, hb S0 H0 S st H c _ fun u H2 e2 a2 => ?_⟩
  cases a2
  obtain ⟨w, g1, g2⟩ := atI_at h5 h
  exact ⟨_, _, i, w, rfl, rfl, SqL.of (e2 _ _ h4), g1, q w H2 e2 (g2.up (hid_mono e2))⟩
abbrev rLen1 (K : PySem.W.Frag) : List V → Hp → VK → Prop := fun xs H Q => ∃ p ys, xs = [.ref p] ∧ (SqL K H p ys ∨ SqT K H p ys) ∧ Q (.int ys.length) H
theorem call_len1 {X : Cx} : CallR X (.builtin "len") (rLen1 X.K) := call_len_seq
theorem gd_len (ha : Gd K C ta D (.list ds)) : Gd K C (tCB (rLen1 K) (tCons ta tNil)) D (.int ds.length) := fun S0 H0 S st H c Q q =>
  ha S0 H0 S st H c _ fun v H1 e1 a1 => by
    cases a1 with
    | lst hl hs => exact ⟨_, _, rfl, .inl (SqL.of (hid_some hl).2), by rw [hs.len]; exact q _ H1 e1 (.int _)⟩
theorem gd_lenT (ha : Gd K C ta D (.tuple ds)) : Gd K C (tCB (rLen1 K) (tCons ta tNil)) D (.int ds.length) := fun S0 H0 S st H c Q q =>
  ha S0 H0 S st H c _ fun v H1 e1 a1 => by
    cases a1 with
    | tup hl hs => exact ⟨_, _, rfl, .inr (sqT_mono hid_le hl), by rw [hs.len]; exact q _ H1 e1 (.int _)⟩
theorem gd_lenO {k : Nat} (hD : D[k]? = some (.own ds)) : Gd K C (tCB (rLen1 K) (tCons (tVar k) tNil)) D (.int ds.length) := fun S0 H0 S st H c Q q => by
  obtain ⟨l, vs, h1, h2, h3, h4, h5⟩ := c.own k ds hD
  exact ⟨.ref l, h1, _, _, rfl, .inl (SqL.of h4), by rw [h5.len]; exact q _ H (Same.refl H) (.int _)⟩
theorem gl_cat (ha : Gd K C ta D (.list ds)) (hb : Gd K C tb D (.list es)) (hl : ds.length + es.length ≤ 1000) : Gn K C (tOp rCat ta tb) D (ds ++ es) := fun S0 H0 S st H c Q q =>
  ha S0 H0 S st H c _ fun v H1 e1 a1 => hb S0 H0 S st H1 (c.up e1) _ fun u H2 e2 a2 => by
    cases a1 with
    | lst h1 s1 =>
      cases a2 with
      | lst h2 s2 =>
        refine ⟨_, _, _, _, rfl, rfl, e2 _ _ (hid_some h1).2, (hid_some h2).2, by rw [s1.len, s2.len]; exact Nat.le_of_lt (small1000 hl), fun p hp => ?_⟩
        have e3 : ∀ o, Same H2 (upd H2 p o) := fun o => same_new hp
        exact q p _ _ ((e1.trans e2).trans (e3 _)) ((e1.trans e2).free hp) upd_same (((s1.up (hid_mono e2)).app s2).up (hid_more (e3 _) hp))
/-- found + others[at:], found one's own -/
theorem gl_catO {k : Nat} (hD : D[k]? = some (.own ds)) (hb : Gd K C tb D (.list es)) (hl : ds.length + es.length ≤ 1000) : Gn K C (tOp rCat (tVar k) tb) D (ds ++ es) := fun S0 H0 S st H c Q q => by
  obtain ⟨l, vs, h1, h2, h3, h4, h5⟩ := c.own k ds hD
  refine ⟨.ref l, h1, hb S0 H0 S st H c _ fun u H2 e2 a2 => ?_⟩
  cases a2 with
  | lst g2 s2 =>
    refine ⟨_, _, _, _, rfl, rfl, e2 _ _ h4, (hid_some g2).2, by rw [h5.len, s2.len]; exact Nat.le_of_lt (small1000 hl), fun p hp => ?_⟩
    have e3 : ∀ o, Same H2 (upd H2 p o) := fun o => same_new hp
    exact q p _ _ (e2.trans (e3 _)) (e2.free hp) upd_same (((h5.up (hid_mono e2)).app s2).up (hid_more (e3 _) hp))
theorem rep_one {α : Type} (x : α) : ∀ k : Nat, (List.replicate k [x]).flatten = List.replicate k x
  | 0 => rfl
  | k + 1 => by rw [List.replicate_succ, List.flatten_cons, rep_one x k, List.replicate_succ] <;> rfl
/-- [x] * n -/
theorem gl_rep {n : Nat} (ha : Gd K C ta D (.list [d])) (hb : Gd K C tb D (.int n)) (hl : n ≤ 1000) : Gn K C (tOp rRep ta tb) D (List.replicate n d) := fun S0 H0 S st H c Q q =>
  ha S0 H0 S st H c _ fun v H1 e1 a1 => hb S0 H0 S st H1 (c.up e1) _ fun u H2 e2 a2 => by
    cases a1 with
    | lst h1 s1 =>
      cases a2
      refine ⟨_, _, _, rfl, rfl, e2 _ _ (hid_some h1).2, by omega, by omega, by rw [s1.len, Int.toNat_natCast, List.length_singleton, Nat.one_mul]; exact Nat.le_of_lt (small1000 hl), fun p hp => ?_⟩
      have e3 : ∀ o, Same H2 (upd H2 p o) := fun o => same_new hp
      refine q p _ _ ((e1.trans e2).trans (e3 _)) ((e1.trans e2).free hp) upd_same ?_
      rw [Int.toNat_natCast, ← rep_one d n]
      exact ((s1.up (hid_mono e2)).rep n).up (hid_more (e3 _) hp)
abbrev rListOf (K : PySem.W.Frag) : List V → Hp → VK → Prop := fun xs H Q => ∃ p ys, xs = [.ref p] ∧ (SqL K H p ys ∨ SqT K H p ys) ∧ ∀ l, H l = none → Q (.ref l) (upd H l (.lst ys))
theorem call_listof {X : Cx} : CallR X (.type "list") (rListOf X.K) := call_list_of
theorem gl_listof (ha : Gd K C ta D (.list ds)) : Gn K C (tCB (rListOf K) (tCons ta tNil)) D ds := fun S0 H0 S st H c Q q =>
  ha S0 H0 S st H c _ fun v H1 e1 a1 => by
    cases a1 with
    | lst hl hs =>
      refine ⟨_, _, rfl, .inl (SqL.of (hid_some hl).2), fun p hp => ?_⟩
      have e3 : ∀ o, Same H1 (upd H1 p o) := fun o => same_new hp
      exact q p _ _ (e1.trans (e3 _)) (e1.free hp) upd_same (hs.up (hid_more (e3 _) hp))
abbrev rTupOf (K : PySem.W.Frag) : List V → Hp → VK → Prop := fun xs H Q => ∃ p ys, xs = [.ref p] ∧ ((SqL K H p ys ∧ ∀ l, H l = none → Q (.ref l) (upd H l (.tup ys))) ∨ (SqT K H p ys ∧ Q (.ref p) H))
theorem call_tupof {X : Cx} : CallR X (.type "tuple") (rTupOf X.K) := call_tuple_of
theorem gd_tupof (ha : Gd K C ta D (.list ds)) : Gd K C (tCB (rTupOf K) (tCons ta tNil)) D (.tuple ds) := fun S0 H0 S st H c Q q =>
  ha S0 H0 S st H c _ fun v H1 e1 a1 => by
    cases a1 with
    | lst hl hs =>
      refine ⟨_, _, rfl, .inl ⟨SqL.of (hid_some hl).2, fun p hp => ?_⟩⟩
      have e3 : ∀ o, Same H1 (upd H1 p o) := fun o => same_new hp
      refine q _ _ (e1.trans (e3 _)) (.tup (SqT.of ?_) (hs.up (hid_mono (e3 _))))
      rw [hid_of (fun z => (c.up e1).dom p z hp), upd_same]
/-- slices of a list -/
def Go (K : PySem.W.Frag) (C : Addr) (to : TO) (D : List Sl) (o : Option Int) : Prop := ∀ S0 H0 S st H, Conc K C S0 H0 S D st H → ∀ Q : Option Int → Hp → Prop, (∀ H', Same H H' → Q o H') → to st H Q
theorem go_none : Go K C tNoPart D none := fun _ _ _ _ H _ _ q => q H (Same.refl H)
theorem go_some (h : Gd K C te D (.int i)) : Go K C (tPart te) D (some i) := fun S0 H0 S st H c Q q => h S0 H0 S st H c _ fun v H1 e1 a1 => by
  cases a1
  exact ⟨i, rfl, q H1 e1⟩
def cutD (xs : List PyData) (lo hi : Option Int) : List PyData := (xs.drop (HT.sIx xs.length 0 lo)).take (HT.sIx xs.length xs.length hi - HT.sIx xs.length 0 lo)
theorem gl_slice {t1 t2 : TO} {lo hi : Option Int} (ha : Gd K C ta D (.list ds)) (h1 : Go K C t1 D lo) (h2 : Go K C t2 D hi) : Gn K C (tSl (rSlL K) ta t1 t2) D (cutD ds lo hi) := fun S0 H0 S st H c Q q =>
  ha S0 H0 S st H c _ fun v H1 e1 a1 => h1 S0 H0 S st H1 (c.up e1) _ fun H2 e2 => h2 S0 H0 S st H2 ((c.up e1).up e2) _ fun H3 e3 => by
    cases a1 with
    | lst hl hs =>
      refine ⟨_, _, rfl, SqL.of (e3 _ _ (e2 _ _ (hid_some hl).2)), fun p hp => ?_⟩
      have e4 : ∀ o, Same H3 (upd H3 p o) := fun o => same_new hp
      refine q p _ _ (((e1.trans e2).trans e3).trans (e4 _)) (((e1.trans e2).trans e3).free hp) upd_same ?_
      unfold cutV cutD
      rw [hs.len]
      exact (((hs.up (hid_mono (e2.trans e3))).drop _).take _).up (hid_more (e4 _) hp)
theorem gl_rev (ha : Gd K C ta D (.list ds)) : Gn K C (tRevL K ta) D ds.reverse := fun S0 H0 S st H c Q q =>
  ha S0 H0 S st H c _ fun v H1 e1 a1 => by
    cases a1 with
    | lst hl hs =>
      refine ⟨_, _, rfl, SqL.of (hid_some hl).2, fun p hp => ?_⟩
      have e4 : ∀ o, Same H1 (upd H1 p o) := fun o => same_new hp
      exact q p _ _ (e1.trans (e4 _)) (e1.free hp) upd_same (hs.rev.up (hid_more (e4 _) hp))
/-! ### built-ins of ints -/
abbrev rAbs1 : List V → Hp → VK → Prop := fun xs H Q => ∃ i, xs = [.int i] ∧ Q (.int (if i < 0 then -i else i)) H
theorem call_abs1 {X : Cx} : CallR X (.builtin "abs") rAbs1 := call_abs
theorem gd_abs (ha : Gd K C ta D (.int i)) : Gd K C (tCB rAbs1 (tCons ta tNil)) D (.int (if i < 0 then -i else i)) := fun S0 H0 S st H c Q q =>
  ha S0 H0 S st H c _ fun v H1 e1 a1 => by
    cases a1
    exact ⟨i, rfl, q _ H1 e1 (.int _)⟩
abbrev rMaxT : List V → Hp → VK → Prop := fun xs H Q => ∃ i j, xs = [.int i, .int j] ∧ Q (.int (if j > i then j else i)) H
theorem call_maxT {X : Cx} (hc : X.calm = true) : CallR X (.builtin "max") rMaxT := call_max2 hc
theorem gd_max2 (ha : Gd K C ta D (.int i)) (hb : Gd K C tb D (.int j)) : Gd K C (tCB rMaxT (tCons ta (tCons tb tNil))) D (.int (if j > i then j else i)) := fun S0 H0 S st H c Q q =>
  ha S0 H0 S st H c _ fun v H1 e1 a1 => hb S0 H0 S st H1 (c.up e1) _ fun u H2 e2 a2 => by
    cases a1
    cases a2
    exact ⟨i, j, rfl, q _ H2 (e1.trans e2) (.int _)⟩
abbrev rMinT : List V → Hp → VK → Prop := fun xs H Q => ∃ i j, xs = [.int i, .int j] ∧ Q (.int (if j < i then j else i)) H
theorem call_minT {X : Cx} (hc : X.calm = true) : CallR X (.builtin "min") rMinT := call_min2 hc
theorem gd_min2 (ha : Gd K C ta D (.int i)) (hb : Gd K C tb D (.int j)) : Gd K C (tCB rMinT (tCons ta (tCons tb tNil))) D (.int (if j < i then j else i)) := fun S0 H0 S st H c Q q =>
  ha S0 H0 S st H c _ fun v H1 e1 a1 => hb S0 H0 S st H1 (c.up e1) _ fun u H2 e2 a2 => by
    cases a1
    cases a2
    exact ⟨i, j, rfl, q _ H2 (e1.trans e2) (.int _)⟩
theorem gd_sum {ns : List Int} (ha : Gd K C ta D (.list (ns.map PyData.int))) : Gd K C (tCB (rSum K) (tCons ta tNil)) D (.int ns.sum) := fun S0 H0 S st H c Q q =>
  ha S0 H0 S st H c _ fun v H1 e1 a1 => by
    cases a1 with
    | lst hl hs =>
      have e := hs.ints
      subst e
      exact ⟨_, ns, rfl, SqL.of (hid_some hl).2, q _ H1 e1 (.int _)⟩
theorem gd_max {ns : List Int} {m : Int} (ha : Gd K C ta D (.list (ns.map PyData.int))) (hn : 0 < ns.length) (hm : ∀ x, x ∈ ns → (∀ y, y ∈ ns → y ≤ x) → x = m) : Gd K C (tCB (rMax K) (tCons ta tNil)) D (.int m) := fun S0 H0 S st H c Q q =>
  ha S0 H0 S st H c _ fun v H1 e1 a1 => by
    cases a1 with
    | lst hl hs =>
      have e := hs.ints
      subst e
      refine ⟨_, ns, rfl, SqL.of (hid_some hl).2, hn, fun x h1 h2 => ?_⟩
      rw [hm x h1 h2]
      exact q _ H1 e1 (.int _)
/-! ### equality of data -/
end
mutual
def plainD : PyData → Bool
  | .dict _ => false
  | .list xs => plainAll xs
  | .tuple xs => plainAll xs
  | _ => true
def plainAll : List PyData → Bool
  | [] => true
  | x :: r => plainD x && plainAll r
end
section
variable {K : PySem.W.Frag} {C : Addr} {D : List Sl} {d e : PyData} {ds es : List PyData} {ta tb te tl : TE} {i j : Int} {b : Bool}
mutual
theorem At.dp {G H : Hp} (e : Same G H) : ∀ {v : V} {d : PyData}, At K C G v d → plainD d = true → Dp K H v d
  | _, _, .non, _ => .non
  | _, _, .bl b, _ => .bl b
  | _, _, .int i, _ => .int i
  | _, _, .str x, _ => .str x
  | _, _, .lst h hs, s => .lst (SqL.of (e _ _ h)) (AtAll.dp e hs (by simpa only [plainD] using s))
  | _, _, .tup h hs, s => .tup (sqT_mono e h) (AtAll.dp e hs (by simpa only [plainD] using s))
  | _, _, .plan _ _ _, s => by
    simp only [plainD] at s
    cases s
  | _, _, .plan0 _ _, s => by
    simp only [plainD] at s
    cases s
theorem AtAll.dp {G H : Hp} (e : Same G H) : ∀ {vs : List V} {ds : List PyData}, AtAll K C G vs ds → plainAll ds = true → DpAll K H vs ds
  | _, _, .nil, _ => .nil
  | _, _, .cons h hs, s => by
    simp only [plainAll, Bool.and_eq_true] at s
    exact .cons (At.dp e h s.1) (AtAll.dp e hs s.2)
end
/-- what == of data asks -/
def eqOk (d : PyData) : Bool := plainD d && SeqAt.shaped d
theorem eqOk_l (h : eqOk d = true) : plainD d = true := (Bool.and_eq_true_iff.mp h).1
theorem eqOk_r (h : eqOk d = true) : SeqAt.shaped d = true := (Bool.and_eq_true_iff.mp h).2
theorem gr_eqD (ha : Gr K C ta D d) (hb : Gr K C tb D e) (h1 : eqOk d = true) (h2 : eqOk e = true) : Gd K C (tOp (rEqD K) ta tb) D (.bool (PyData.eqv d e)) := fun S0 H0 S st H c Q q =>
  ha S0 H0 S st H c _ fun v H1 e1 a1 => hb S0 H0 S st H1 (c.up e1) _ fun u H2 e2 a2 =>
    ⟨d, e, At.dp (hid_le) (a1.up (hid_mono e2)) (eqOk_l h1), At.dp hid_le a2 (eqOk_l h2), eqOk_r h1, eqOk_r h2, q _ H2 (e1.trans e2) (.bl _)⟩
theorem gr_neD (ha : Gr K C ta D d) (hb : Gr K C tb D e) (h1 : eqOk d = true) (h2 : eqOk e = true) : Gd K C (tOp (rNeD K) ta tb) D (.bool (!PyData.eqv d e)) := fun S0 H0 S st H c Q q =>
  ha S0 H0 S st H c _ fun v H1 e1 a1 => hb S0 H0 S st H1 (c.up e1) _ fun u H2 e2 a2 =>
    ⟨d, e, At.dp (hid_le) (a1.up (hid_mono e2)) (eqOk_l h1), At.dp hid_le a2 (eqOk_l h2), eqOk_r h1, eqOk_r h2, q _ H2 (e1.trans e2) (.bl _)⟩
end
end Du

namespace Du
open PySem PySem.Spec PyProof.Rows L2
/-! ### statements -/
structure Pst where
  nx : List Sl → Prop
  rt : PyData → Prop
  bk : List Sl → Prop := fun _ => False
  ct : List Sl → Prop := fun _ => False
section
variable (K : PySem.W.Frag) (C : Addr)
def GS (t : TS) (D : List Sl) (P : Pst) : Prop := ∀ S0 H0 S st H (E : Ends), Conc K C S0 H0 S D st H →
  (∀ D' S' st' H', P.nx D' → Conc K C S0 H0 S' D' st' H' → Same (hid S H) (hid S' H') → E.nx st' H') → (∀ d v H', P.rt d → Same H0 H' → At K C (hid S0 H') v d → E.rt v H') →
  (∀ D' S' st' H', P.bk D' → Conc K C S0 H0 S' D' st' H' → Same (hid S H) (hid S' H') → E.bk st' H') → (∀ D' S' st' H', P.ct D' → Conc K C S0 H0 S' D' st' H' → Same (hid S H) (hid S' H') → E.ct st' H') → t E st H
/-- a def by its data: R of the arguments' data and the answer's -/
def spR (R : List PyData → PyData → Prop) : Sp := fun vs H Q _ => ∃ S ds d, (∀ b, S b → H b ≠ none) ∧ AtAll K C (hid S H) vs ds ∧ R ds d ∧ ∀ v H', Same H H' → At K C (hid S H') v d → Q v H'
end
section
variable {K : PySem.W.Frag} {C : Addr} {D D' : List Sl} {d e : PyData} {ds es : List PyData} {ta tb te tl : TE} {t u tz : TS} {i j : Nat} {b : Bool} {P : Pst}
theorem gs_next (h : P.nx D') (w : Wk D D') : GS K C tNext D P := fun S0 H0 S st H E c nx _ _ _ => nx D' S st H h (c.weak w) (Same.refl _)
theorem gs_nx (h : P.nx D) : GS K C tNext D P := gs_next h (Wk.refl D)
theorem gs_break (h : P.bk D') (w : Wk D D') : GS K C (tSeq tBreak tz) D P := fun S0 H0 S st H E c _ _ bk _ => bk D' S st H h (c.weak w) (Same.refl _)
theorem gs_cont (h : P.ct D') (w : Wk D D') : GS K C (tSeq tCont tz) D P := fun S0 H0 S st H E c _ _ _ ct => ct D' S st H h (c.weak w) (Same.refl _)
/-- go on from a later state -/
theorem GS.go {S0 : Addr → Prop} {H0 : Hp} {S S1 : Addr → Prop} {st1 : L2.St} {H H1 : Hp} {E : Ends} (k : GS K C t D P) (c : Conc K C S0 H0 S1 D st1 H1) (e : Same (hid S H) (hid S1 H1))
    (nx : ∀ D' S' st' H', P.nx D' → Conc K C S0 H0 S' D' st' H' → Same (hid S H) (hid S' H') → E.nx st' H') (rt : ∀ d v H', P.rt d → Same H0 H' → At K C (hid S0 H') v d → E.rt v H')
    (bk : ∀ D' S' st' H', P.bk D' → Conc K C S0 H0 S' D' st' H' → Same (hid S H) (hid S' H') → E.bk st' H') (ct : ∀ D' S' st' H', P.ct D' → Conc K C S0 H0 S' D' st' H' → Same (hid S H) (hid S' H') → E.ct st' H') : t E st1 H1 :=
  k S0 H0 S1 st1 H1 E c (fun D' S' st' H' m c' e' => nx D' S' st' H' m c' (e.trans e')) rt (fun D' S' st' H' m c' e' => bk D' S' st' H' m c' (e.trans e')) (fun D' S' st' H' m c' e' => ct D' S' st' H' m c' (e.trans e'))
theorem gs_seq {M : List Sl → Prop} (h : GS K C t D { P with nx := M }) (k : ∀ D', M D' → GS K C u D' P) : GS K C (tSeq t u) D P := fun S0 H0 S st H E c nx rt bk ct =>
  h S0 H0 S st H { E with nx := u E } c (fun D' S' st' H' m c' e => (k D' m).go c' e nx rt bk ct) rt bk ct
theorem gs_weak (w : Wk D D') (h : GS K C t D' P) : GS K C t D P := fun S0 H0 S st H E c => h S0 H0 S st H E (c.weak w)
/-- a list of one's own becomes a datum -/
theorem gs_give (k : Nat) (q : D[k]? = some (.own ds)) (h : GS K C t (D.set k (.v (.list ds))) P) : GS K C t D P := fun S0 H0 S st H E c nx rt bk ct => by
  obtain ⟨S', hs, c'⟩ := c.give q
  exact h.go c' (hid_sub hs) nx rt bk ct
theorem gs_asg (he : Gd K C te D d) (k : GS K C tz (D.set i (.v d)) P) : GS K C (tSeq (tAsg te (gName i)) tz) D P := fun S0 H0 S st H E c nx rt bk ct =>
  he S0 H0 S st H c _ fun v H1 e1 a1 => k.go ((c.up e1).set a1) (hid_mono e1) nx rt bk ct
theorem gs_asgL (he : Gn K C te D ds) (k : GS K C tz (D.set i (.own ds)) P) : GS K C (tSeq (tAsg te (gName i)) tz) D P := fun S0 H0 S st H E c nx rt bk ct =>
  he S0 H0 S st H c _ fun l vs H1 e1 n h1 a1 => k.go (c.setOwn e1 n h1 a1) (hid_more e1 n) nx rt bk ct
theorem gs_drop (he : Gd K C te D d) (k : GS K C tz D P) : GS K C (tSeq (tDrop te) tz) D P := fun S0 H0 S st H E c nx rt bk ct =>
  he S0 H0 S st H c _ fun v H1 e1 a1 => k.go (c.up e1) (hid_mono e1) nx rt bk ct
theorem gs_ret (he : Gr K C te D d) (k : P.rt d) : GS K C (tSeq (tRet te) tz) D P := fun S0 H0 S st H E c nx rt bk ct =>
  he S0 H0 S st H c _ fun v H1 e1 a1 => rt d v H1 k (c.old.trans e1) a1
theorem gs_if {tc : TT} (hc : Gb K C tc D b) (h1 : b = true → GS K C t D { P with nx := fun D' => GS K C tz D' P }) (h2 : b = false → GS K C u D { P with nx := fun D' => GS K C tz D' P }) : GS K C (tSeq (tIfS tc t u) tz) D P := fun S0 H0 S st H E c nx rt bk ct =>
  hc S0 H0 S st H c _ fun H1 e1 => by
    have go : ∀ (w : TS), GS K C w D { P with nx := fun D' => GS K C tz D' P } → w { E with nx := tz E } st H1 := fun w hw =>
      hw.go (E := { E with nx := tz E }) (c.up e1) (hid_mono e1) (fun D' S' st' H' m c' e => GS.go (E := E) m c' e nx rt bk ct) rt bk ct
    cases b with
    | true => exact iteT (go t (h1 rfl))
    | false => exact iteF (go u (h2 rfl))
theorem gs_never : False → GS K C t D P := fun h => h.elim
theorem gs_app {ta : TA} {k : Nat} (hD : D[k]? = some (.own ds)) (he : Ga K C ta D [d]) (hl : ds.length < 1000) (hz : GS K C tz (D.set k (.own (ds ++ [d]))) P) : GS K C (tSeq (tDrop (tBM K "list" rAppend (tVar k) ta)) tz) D P := fun S0 H0 S st H E c nx rt bk ct => by
  obtain ⟨l, vs, h1, h2, h3, h4, h5⟩ := c.own k ds hD
  refine ⟨.ref l, h1, .inl ⟨rfl, _, .inl (.inl h4)⟩, he S0 H0 S st H c _ fun us H1 e1 a1 => ?_⟩
  cases a1 with
  | @cons v _ _ _ a1 an =>
    cases an
    refine ⟨l, vs, v, rfl, rfl, e1 _ _ h4, by rw [h5.len]; exact small1000 (by omega), ?_⟩
    exact hz.go ((c.up e1).change hD h1 ((h5.up (hid_mono e1)).app (.cons a1 .nil))) (by rw [hid_upd h2]; exact hid_mono e1) nx rt bk ct
theorem gs_setI {k m : Nat} {z : Int} (hD : D[k]? = some (.own ds)) (he : Gd K C te D d) (hi : Gd K C tb D (.int z)) (hz : z = (m : Int)) (hm : m < ds.length) (hk : GS K C tz (D.set k (.own (ds.set m d))) P) : GS K C (tSeq (tAsg te (gSub (tVar k) tb rSetL)) tz) D P := fun S0 H0 S st H E c nx rt bk ct => by
  subst hz
  refine he S0 H0 S st H c _ fun v H1 e1 a1 => ?_
  have c1 := c.up e1
  obtain ⟨l, vs, h1, h2, h3, h4, h5⟩ := c1.own k ds hD
  refine ⟨.ref l, h1, hi S0 H0 S st H1 c1 _ fun u H2 e2 a2 => ?_⟩
  cases a2
  refine ⟨l, vs, (m : Int), m, rfl, rfl, e2 _ _ h4, ?_, ?_⟩
  · unfold ixN
    rw [if_pos (by omega), if_pos (by rw [h5.len]; omega), Int.toNat_natCast]
  · exact hk.go ((c1.up e2).change hD h1 ((h5.up (hid_mono e2)).set (a1.up (hid_mono e2)) m)) (by rw [hid_upd h2]; exact hid_mono (e1.trans e2)) nx rt bk ct
/-- a, b = e1, e2 -/
theorem gs_par {ta : TA} (he : Ga K C ta D [d, e]) (k : GS K C tz ((D.set i (.v d)).set j (.v e)) P) : GS K C (tSeq (tPar i j ta) tz) D P := fun S0 H0 S st H E c nx rt bk ct =>
  he S0 H0 S st H c _ fun vs H1 e1 a1 => by
    cases a1 with
    | @cons v _ _ _ a1 an =>
      cases an with
      | @cons w _ _ _ a2 an =>
        cases an
        exact ⟨v, w, rfl, k.go (((c.up e1).set a1).set a2) (hid_mono e1) nx rt bk ct⟩
/-- targets of data, in the slots is -/
def Gg (K : PySem.W.Frag) (C : Addr) (g : TG) (is : List Nat) (d : PyData) (D D' : List Sl) : Prop := ∀ S0 H0 S st H v, Conc K C S0 H0 S D st H → At K C (hid S H) v d → ∀ Q : L2.St → Hp → Prop,
  (∀ st', Conc K C S0 H0 S D' st' H → (∀ vs : List Nat, (∀ i ∈ is, i ∈ vs) → wipe st' vs = wipe st vs) → Q st' H) → g v st H Q
theorem wipe_set {st : L2.St} {i : Nat} {x : Option V} : ∀ {vs : List Nat}, i ∈ vs → wipe (st.set i x) vs = wipe st vs
  | [], h => by simp at h
  | v :: vs, h => by
    unfold wipe
    by_cases e : i ∈ vs
    · rw [wipe_set e]
    · have ev : i = v := by
        rcases List.mem_cons.mp h with z | z
        · exact z
        · exact absurd z e
      subst ev
      have out : ∀ (us : List Nat), i ∉ us → wipe (st.set i x) us = (wipe st us).set i x := fun us => by
        induction us with
        | nil => exact fun _ => rfl
        | cons u us ih =>
          intro hn
          unfold wipe
          rw [ih (fun z => hn (List.mem_cons_of_mem _ z)), List.set_comm _ _ (fun z => hn (by rw [z]; exact List.mem_cons_self ..))]
      rw [out vs e, List.set_set]
theorem gg_name : Gg K C (gName i) [i] d D (D.set i (.v d)) := fun _ _ _ _ _ _ c a _ q => q _ (c.set a) fun vs h => wipe_set (h i (by simp))
theorem gg_two : Gg K C (gTup K 2 (gCons (gName i) (gCons (gName j) gNil))) [i, j] (.tuple [d, e]) D ((D.set i (.v d)).set j (.v e)) := fun S0 H0 S st H v c a Q q => by
  cases a with
  | @tup a vs _ hl hs =>
    cases hs with
    | @cons x _ _ _ a1 an =>
      cases an with
      | @cons y _ _ _ a2 an =>
        cases an
        exact ⟨a, _, rfl, sqT_mono hid_le hl, rfl, x, [y], rfl, y, [], rfl, rfl, q _ ((c.set a1).set a2) fun vs h => by rw [wipe_set (h j (by simp)), wipe_set (h i (by simp))]⟩
theorem gs_asgT {g : TG} {is : List Nat} (he : Gd K C te D d) (hg : Gg K C g is d D D') (k : GS K C tz D' P) : GS K C (tSeq (tAsg te g) tz) D P := fun S0 H0 S st H E c nx rt bk ct =>
  he S0 H0 S st H c _ fun v H1 e1 a1 => hg S0 H0 S st H1 v (c.up e1) a1 _ fun st' c' _ => k.go c' (hid_mono e1) nx rt bk ct
/-! ### loops -/
theorem gs_while {tc : TT} (I : Nat → List Sl → Prop) (m0 : Nat) (h0 : I m0 D) (h : ∀ m D1, I m D1 → ∃ b, Gb K C tc D1 b ∧ (b = true → GS K C t D1 { nx := fun D2 => ∃ m', m' < m ∧ I m' D2, rt := P.rt, bk := fun D2 => GS K C tz D2 P, ct := fun D2 => ∃ m', m' < m ∧ I m' D2 }) ∧ (b = false → GS K C tz D1 P)) :
    GS K C (tSeq (tWhile tc t) tz) D P := fun S0 H0 S st H E c nx rt bk ct => by
  refine ⟨fun m st1 H1 => ∃ D1 S1, I m D1 ∧ Conc K C S0 H0 S1 D1 st1 H1 ∧ Same (hid S H) (hid S1 H1), ⟨m0, D, S, h0, c, Same.refl _⟩, ?_⟩
  rintro m st1 H1 ⟨D1, S1, hI, c1, g1⟩
  obtain ⟨b, hb, ht, hf⟩ := h m D1 hI
  refine hb S0 H0 S1 st1 H1 c1 _ fun H2 e2 => ?_
  have g2 := g1.trans (hid_mono (S := S1) e2)
  cases b with
  | true =>
    refine iteT ⟨fun st' H' => ∃ m', m' < m ∧ ∃ D' S', I m' D' ∧ Conc K C S0 H0 S' D' st' H' ∧ Same (hid S H) (hid S' H'), fun st' H' z => z, ?_⟩
    exact (ht rfl).go (c1.up e2) g2 (fun D' S' st' H' ⟨m', l, i'⟩ c' e' => ⟨m', l, D', S', i', c', e'⟩) rt (fun D' S' st' H' m c' e' => GS.go (E := E) m c' e' nx rt bk ct) (fun D' S' st' H' ⟨m', l, i'⟩ c' e' => ⟨m', l, D', S', i', c', e'⟩)
  | false => exact iteF ((hf rfl).go (c1.up e2) g2 nx rt bk ct)
/-- what a for goes through: the items xs -/
def Gi (K : PySem.W.Frag) (C : Addr) (wi : TI) (D : List Sl) (xs : List PyData) : Prop := ∀ S0 H0 S st H, Conc K C S0 H0 S D st H → ∀ R : It → Hp → Prop,
  (∀ (J : It) H1, Same H H1 → (∀ i H', i < xs.length → Same (hid S H1) H' → J.go i H') → (∀ H', Same (hid S H1) H' → J.stop xs.length H') →
    (∀ i x H' H'', i < xs.length → Same (hid S H1) H' → J.yld i H' x H'' → Same H' H'' ∧ ∀ Sx : Addr → Prop, (∀ b, Sx b → H' b ≠ none) → Same (hid S H1) (hid Sx H') → ∃ d, xs[i]? = some d ∧ At K C (hid Sx H'') x d) → R J H1) → wi st H R
/-- the same where nothing of what stands is changed on the way -/
def Gj (K : PySem.W.Frag) (C : Addr) (wi : TI) (D : List Sl) (xs : List PyData) : Prop := ∀ S0 H0 S st H, Conc K C S0 H0 S D st H → ∀ R : It → Hp → Prop,
  (∀ (J : It) H1, Same H H1 → (∀ i H', i < xs.length → Same H1 H' → J.go i H') → (∀ H', Same H1 H' → J.stop xs.length H') →
    (∀ i x H' H'', i < xs.length → Same H1 H' → J.yld i H' x H'' → Same H' H'' ∧ ∀ Sx : Addr → Prop, (∀ b, Sx b → H' b ≠ none) → Same (hid S H1) (hid Sx H') → ∃ d, xs[i]? = some d ∧ At K C (hid Sx H'') x d) → R J H1) → wi st H R
theorem gj_of {wi : TI} {xs : List PyData} (h : Gi K C wi D xs) : Gj K C wi D xs := fun S0 H0 S st H c R q => h S0 H0 S st H c R fun J H1 e1 g1 g2 g3 =>
  q J H1 e1 (fun i H' hi e => g1 i H' hi (hid_le.trans e)) (fun H' e => g2 H' (hid_le.trans e)) fun i x H' H'' hi e y => g3 i x H' H'' hi (hid_le.trans e) y
theorem gi_range2 {ta : TA} {lo hi : Int} (ha : Ga K C ta D [.int lo, .int hi]) (hb : -1000000 < lo ∧ lo < 1000000 ∧ -1000000 < hi ∧ hi < 1000000) : Gi K C (iRng2 ta) D ((List.range (hi - lo).toNat).map fun k => .int (lo + (k : Nat))) := fun S0 H0 S st H c R q =>
  ha S0 H0 S st H c _ fun vs H1 e1 a1 => by
    cases a1 with
    | @cons v _ _ _ a1 an =>
      cases a1
      cases an with
      | @cons w _ _ _ a2 an =>
        cases a2
        cases an
        refine ⟨lo, hi, rfl, by omega, q _ H1 e1 (fun i H' hi' _ => by rw [List.length_map, List.length_range] at hi'; exact hi') (fun H' _ => by rw [List.length_map, List.length_range]; exact Nat.le_refl _) fun i x H' H'' hi' _ y => ?_⟩
        obtain ⟨y1, y2⟩ := y
        subst y1
        subst y2
        rw [List.length_map, List.length_range] at hi'
        exact ⟨Same.refl _, fun _ _ _ => ⟨_, by rw [List.getElem?_map, List.getElem?_range hi'] <;> rfl, .int _⟩⟩
theorem gi_range1 {ta : TA} {hi : Int} (ha : Ga K C ta D [.int hi]) (hb : -1000000 < hi ∧ hi < 1000000) : Gi K C (iRng1 ta) D ((List.range hi.toNat).map fun k => .int (k : Nat)) := fun S0 H0 S st H c R q =>
  ha S0 H0 S st H c _ fun vs H1 e1 a1 => by
    cases a1 with
    | @cons v _ _ _ a1 an =>
      cases a1
      cases an
      refine ⟨hi, rfl, by omega, by omega, q _ H1 e1 (fun i H' hi' _ => by rw [List.length_map, List.length_range] at hi'; exact hi') (fun H' _ => by rw [List.length_map, List.length_range]; exact Nat.le_refl _) fun i x H' H'' hi' _ y => ?_⟩
      obtain ⟨y1, y2⟩ := y
      subst y1
      subst y2
      rw [List.length_map, List.length_range] at hi'
      refine ⟨Same.refl _, fun _ _ _ => ⟨.int (i : Nat), by rw [List.getElem?_map, List.getElem?_range hi'] <;> rfl, ?_⟩⟩
      rw [Int.zero_add]
      exact .int _
theorem gi_list (ha : Gd K C tl D (.list ds)) : Gi K C (iList K tl) D ds := fun S0 H0 S st H c R q =>
  ha S0 H0 S st H c _ fun v H1 e1 a1 => by
    cases a1 with
    | @lst l vs _ hl hs =>
      refine ⟨l, rfl, ⟨_, SqL.of (hid_some hl).2⟩, q _ H1 e1 (fun i H' hi h => ⟨vs, vs[i]'(by rw [hs.len]; exact hi), SqL.of (h _ _ hl), by rw [List.getElem?_eq_getElem]⟩) (fun H' h => ⟨vs, SqL.of (h _ _ hl), by rw [hs.len]; exact Nat.le_refl _⟩) fun i x H' H'' hi h y => ?_⟩
      obtain ⟨y1, y2⟩ := y
      subst y1
      refine ⟨Same.refl _, fun Sx _ k => ?_⟩
      obtain ⟨d, h1, h2⟩ := hs.get' (y2 vs (SqL.of (h _ _ hl)))
      exact ⟨d, h1, h2.up k⟩
theorem gi_tup (ha : Gd K C tl D (.tuple ds)) : Gi K C (iTup K tl) D ds := fun S0 H0 S st H c R q =>
  ha S0 H0 S st H c _ fun v H1 e1 a1 => by
    cases a1 with
    | @tup l vs _ hl hs =>
      refine ⟨l, rfl, ⟨_, sqT_mono hid_le hl⟩, q _ H1 e1 (fun i H' hi h => ⟨vs, vs[i]'(by rw [hs.len]; exact hi), sqT_mono h hl, by rw [List.getElem?_eq_getElem]⟩) (fun H' h => ⟨vs, sqT_mono h hl, by rw [hs.len]; exact Nat.le_refl _⟩) fun i x H' H'' hi h y => ?_⟩
      obtain ⟨y1, y2⟩ := y
      subst y1
      refine ⟨Same.refl _, fun Sx _ k => ?_⟩
      obtain ⟨d, h1, h2⟩ := hs.get' (y2 vs (sqT_mono h hl))
      exact ⟨d, h1, h2.up k⟩
/-- zip of a list and a list of one's own -/
theorem gj_zipO {k : Nat} (ha : Gd K C ta D (.list ds)) (hD : D[k]? = some (.own es)) (hl : ds.length = es.length) : Gj K C (iZip K (tCons ta (tCons (tVar k) tNil))) D (ds.zipWith (fun x y => .tuple [x, y]) es) := fun S0 H0 S st H c R q =>
  ha S0 H0 S st H c _ fun v H1 e1 a1 => by
    obtain ⟨m, ws, h1, h2, h3, h4, h5⟩ := (c.up e1).own k es hD
    cases a1 with
    | @lst l vs _ g1 g2 =>
      have L1 := SqL.of (K := K) (hid_some g1).2
      have L2 := SqL.of (K := K) h4
      have lz : (ds.zipWith (fun x y => PyData.tuple [x, y]) es).length = ds.length := by rw [List.length_zipWith, hl, Nat.min_self]
      refine ⟨.ref m, h1, l, m, vs, ws, rfl, L1, L2, q _ H1 e1 (fun i H' hi e => ?_) (fun H' e => ?_) fun i x H' H'' hi e y => ?_⟩
      · rw [lz] at hi
        exact ⟨vs, ws, vs[i]'(by rw [g2.len]; exact hi), ws[i]'(by rw [h5.len, ← hl]; exact hi), e.seq L1, e.seq L2, by rw [List.getElem?_eq_getElem], by rw [List.getElem?_eq_getElem]⟩
      · exact ⟨vs, ws, e.seq L1, e.seq L2, .inl (by rw [lz, g2.len]; exact Nat.le_refl _)⟩
      · obtain ⟨T, x1, x2, rfl, nT, rfl, f1, f2⟩ := y
        rw [lz] at hi
        refine ⟨same_new nT, fun Sx dm k => ?_⟩
        obtain ⟨d1, p1, p2⟩ := g2.get' (f1 vs (e.seq L1))
        obtain ⟨d2, p3, p4⟩ := h5.get' (f2 ws (e.seq L2))
        have up : Same (hid Sx H') (hid Sx (upd H' T (.tup [x1, x2]))) := hid_mono (same_new nT)
        refine ⟨.tuple [d1, d2], by rw [List.getElem?_zipWith, p1, p3], .tup (SqT.of ?_) (.cons ((p2.up k).up up) (.cons ((p4.up k).up up) .nil))⟩
        rw [hid_of (fun z => dm T z nT), upd_same]
theorem gs_for {wi : TI} {g : TG} {is : List Nat} {xs : List PyData} (hw : Gi K C wi D xs) (I : Nat → List Sl → Prop) (h0 : I 0 D)
    (h : ∀ (i : Nat) (D1 : List Sl) (d : PyData), xs[i]? = some d → I i D1 → ∃ D2, Gg K C g is d D1 D2 ∧ GS K C t D2 { nx := I (i + 1), rt := P.rt, bk := fun D' => GS K C tz D' P, ct := I (i + 1) }) (hd : ∀ D1, I xs.length D1 → GS K C tz D1 P) :
    GS K C (tSeq (tFor wi g t) tz) D P := fun S0 H0 S st H E c nx rt bk ct => by
  refine hw S0 H0 S st H c _ fun J H1 e1 g1 g2 g3 => ?_
  refine ⟨fun i m st1 H' => m = xs.length - i ∧ i ≤ xs.length ∧ ∃ D1 S1, I i D1 ∧ Conc K C S0 H0 S1 D1 st1 H' ∧ Same (hid S H1) (hid S1 H'), ⟨xs.length, by simp, Nat.zero_le _, D, S, h0, c.up e1, Same.refl _⟩, ?_⟩
  rintro i m st1 H' ⟨rfl, hi, D1, S1, hI, c1, s1⟩
  by_cases hlt : i < xs.length
  · refine .inr ⟨g1 i H' hlt (s1.trans hid_le), fun st' H'' => ∃ D2 S2, I (i + 1) D2 ∧ Conc K C S0 H0 S2 D2 st' H'' ∧ Same (hid S H1) (hid S2 H''), fun st' H'' z => ⟨xs.length - (i + 1), by omega, rfl, hlt, z⟩, fun x H'' y => ?_⟩
    obtain ⟨e2, k⟩ := g3 i x H' H'' hlt (s1.trans hid_le) y
    obtain ⟨d, hd', a⟩ := k S1 c1.dom s1
    obtain ⟨D2, hg, hb⟩ := h i D1 d hd' hI
    have s2 := s1.trans (hid_mono (S := S1) e2)
    refine hg S0 H0 S1 st1 H'' x (c1.up e2) a _ fun st' c' _ => ?_
    exact hb.go (S := S) (H := H1) c' s2 (fun D' S' st' H' m c' e' => ⟨D', S', m, c', e'⟩) rt (fun D' S' st' H' m c' e' => GS.go (E := E) m c' ((hid_mono e1).trans e') nx rt bk ct) (fun D' S' st' H' m c' e' => ⟨D', S', m, c', e'⟩)
  · have ei : i = xs.length := by omega
    subst ei
    exact .inl ⟨g2 H' (s1.trans hid_le), (hd D1 hI).go c1 ((hid_mono e1).trans s1) nx rt bk ct⟩
/-! ### comprehensions -/
def wipeS (D : List Sl) : List Nat → List Sl
  | [] => D
  | v :: vs => (wipeS D vs).set v .no
theorem Conc.forget {S0 : Addr → Prop} {H0 : Hp} {S : Addr → Prop} {st : L2.St} {H : Hp} (c : Conc K C S0 H0 S D st H) (i : Nat) : Conc K C S0 H0 S (D.set i .no) (st.set i none) H := by
  have back : ∀ {j : Nat} {x : Sl}, (D.set i .no)[j]? = some x → x ≠ .no → D[j]? = some x ∧ (st.set i none)[j]? = st[j]? := fun {j x} h n => by
    by_cases e : i = j
    · subst e
      have hi := (List.getElem?_eq_some_iff.mp h).1
      rw [List.length_set] at hi
      rw [List.getElem?_set_self hi] at h
      exact absurd (Option.some.inj h).symm n
    · rw [List.getElem?_set_ne e] at h
      exact ⟨h, List.getElem?_set_ne e⟩
  refine ⟨by rw [List.length_set, List.length_set, c.len], c.sub, c.dom0, c.dom, c.old, fun j d h => ?_, fun j ds h => ?_, fun j k ds es l h1 h2 q1 q2 => ?_⟩
  · obtain ⟨a, b⟩ := back h (fun z => nomatch z)
    rw [b]
    exact c.val j d a
  · obtain ⟨a, b⟩ := back h (fun z => nomatch z)
    rw [b]
    exact c.own j ds a
  · obtain ⟨a, b⟩ := back h1 (fun z => nomatch z)
    obtain ⟨a', b'⟩ := back h2 (fun z => nomatch z)
    rw [b] at q1
    rw [b'] at q2
    exact c.sep j k ds es l a a' q1 q2
theorem Conc.wipe {S0 : Addr → Prop} {H0 : Hp} {S : Addr → Prop} {st : L2.St} {H : Hp} (c : Conc K C S0 H0 S D st H) : ∀ vs : List Nat, Conc K C S0 H0 S (wipeS D vs) (L2.wipe st vs) H
  | [] => c
  | v :: vs => (c.wipe vs).forget v
theorem wipe_wipe (st : L2.St) : ∀ vs : List Nat, wipe (wipe st vs) vs = wipe st vs := by
  intro vs
  have k : ∀ us : List Nat, (∀ u ∈ us, u ∈ vs) → wipe (wipe st us) vs = wipe st vs := by
    intro us
    induction us with
    | nil => exact fun _ => rfl
    | cons u us ih =>
      intro hu
      show wipe ((wipe st us).set u none) vs = _
      rw [wipe_set (hu u (List.mem_cons_self ..))]
      exact ih fun x hx => hu x (List.mem_cons_of_mem _ hx)
  exact k vs fun _ h => h
/-- the list that a comprehension makes is hidden while it is made -/
theorem Conc.making {S0 : Addr → Prop} {H0 : Hp} {S : Addr → Prop} {st : L2.St} {H H' : Hp} {L : Addr} {o : HO} (c : Conc K C S0 H0 S D st H) (hL : H L = none) (e : Same H H') (h : H' L = some o) : Conc K C (more S0 L) (upd H0 L o) (more S L) D st H' := by
  have c' := c.up e
  have n0 : H0 L = none := c.old.free hL
  have nS : ¬ S L := fun z => c.dom L z hL
  have up : Same (hid S H) (hid (more S L) H') := hid_more e hL
  refine ⟨c.len, fun b z => z.imp (c.sub b) id, fun b z => ?_, fun b z => ?_, fun b u q => ?_, fun i d q => ?_, fun i ds q => ?_, c.sep⟩
  · rcases z with z | z
    · by_cases eb : b = L
      · rw [eb, upd_same]
        simp
      · rw [upd_ne eb]
        exact c.dom0 b z
    · rw [z, upd_same]
      simp
  · rcases z with z | z
    · exact c'.dom b z
    · rw [z, h]
      simp
  · by_cases eb : b = L
    · rw [eb, upd_same] at q
      rw [eb, h]
      exact q
    · rw [upd_ne eb] at q
      exact c'.old b u q
  · obtain ⟨v, h1, h2⟩ := c.val i d q
    exact ⟨v, h1, h2.up up⟩
  · obtain ⟨l, vs, h1, h2, h3, h4, h5⟩ := c.own i ds q
    refine ⟨l, vs, h1, .inl h2, ?_, e _ _ h4, h5.up up⟩
    rw [upd_ne (fun z => nS (by rw [← z]; exact h2))]
    exact h3
theorem yes_go {st : L2.St} {H : Hp} {A : Hp → Prop} {B : Hp → Prop} (h : A H) : tYes st H fun b H' => if b = true then A H' else B H' := by
  show if true = true then A H else B H
  rw [if_pos rfl]
  exact h
theorem gl_lc {wi : TI} {g : TG} {is vs : List Nat} {xs rs : List PyData} (hw : Gj K C wi D xs) (hl : rs.length = xs.length) (hm : xs.length ≤ 1000) (his : ∀ i ∈ is, i ∈ vs)
    (h : ∀ (i : Nat) (d : PyData), xs[i]? = some d → ∃ D2 r, Gg K C g is d (wipeS D vs) D2 ∧ Gd K C te D2 r ∧ rs[i]? = some r) : Gn K C (tLc wi g tYes te vs) D rs := fun S0 H0 S st H c Q q => by
  refine hw S0 H0 S st H c _ fun J H1 e1 g1 g2 g3 L hL => ?_
  have c1 := c.up e1
  refine ⟨fun i m H' => m = xs.length - i ∧ i ≤ xs.length ∧ Same H1 H' ∧ ∃ acc, H' L = some (.lst acc) ∧ AtAll K C (hid (more S L) H') acc (rs.take i), ⟨xs.length, by simp, Nat.zero_le _, same_new hL, [], upd_same, by rw [List.take_zero]; exact .nil⟩, ?_⟩
  rintro i m H' ⟨rfl, hi, s1, acc, hA, hAt⟩
  by_cases hlt : i < xs.length
  · refine .inr ⟨g1 i H' hlt s1, fun H'' => Same H1 H'' ∧ ∃ acc, H'' L = some (.lst acc) ∧ AtAll K C (hid (more S L) H'') acc (rs.take (i + 1)), fun H'' z => ⟨xs.length - (i + 1), by omega, rfl, hlt, z⟩, fun x H'' y => ?_⟩
    obtain ⟨e2, k⟩ := g3 i x H' H'' hlt s1 y
    have c2 : Conc K C (more S0 L) (upd H0 L (.lst acc)) (more S L) D st H' := c1.making hL s1 hA
    obtain ⟨d, hd', a⟩ := k (more S L) c2.dom (hid_more s1 hL)
    obtain ⟨D2, r, hg, hte, hr⟩ := h i d hd'
    have c3 := (c2.up e2).wipe vs
    refine hg _ _ _ _ H'' x c3 a _ fun st' c' hwp => ⟨by rw [hwp vs his, wipe_wipe], ?_⟩
    refine yes_go (hte _ _ _ _ H'' c' _ fun v H3 e3 a3 => ⟨acc, e3 _ _ (e2 _ _ hA), ?_, ?_, acc ++ [v], upd_same, ?_⟩)
    · rw [hAt.len, List.length_take]
      exact Nat.lt_of_le_of_lt (Nat.min_le_left _ _) (small1000 (by omega))
    · exact same_mut ((s1.trans e2).trans e3) hL
    · rw [hid_upd (show more S L L from .inr rfl), List.take_add_one, hr]
      exact (hAt.up (hid_mono (e2.trans e3))).app (.cons a3 .nil)
  · have ei : i = xs.length := by omega
    subst ei
    refine .inl ⟨g2 H' s1, q L acc H' (e1.trans s1) (e1.free hL) hA ?_⟩
    rw [List.take_of_length_le (by omega)] at hAt
    exact hAt
/-! ### calls -/
theorem gd_call {ta : TA} {R : List PyData → PyData → Prop} {E : XK} (ha : Ga K C ta D ds) (h : R ds d) : Gd K C (tCall (spR K C R) [] E ta) D d := fun S0 H0 S st H c Q q =>
  ha S0 H0 S st H c _ fun vs H1 e1 a1 => ⟨S, ds, d, (c.up e1).dom, by rw [List.append_nil]; exact a1, h, fun v H2 e2 a2 => q v H2 (e1.trans e2) a2⟩
/-- arguments that are hidden ones; the answer holds no address -/
theorem gd_callX {ta : TA} {R : List PyData → PyData → Prop} {E : XK} (ha : Gx K C ta D ds) (h : R ds d) (f : flatD d) : Gd K C (tCall (spR K C R) [] E ta) D d := fun S0 H0 S st H c Q q =>
  ha S0 H0 S st H c _ fun vs H1 e1 a1 => ⟨S0, ds, d, fun b z => (c.up e1).dom b (c.sub b z), by rw [List.append_nil]; exact a1, h, fun v H2 e2 a2 => q v H2 (e1.trans e2) (a2.flat f)⟩
/-- a def's promise by its data -/
theorem ok_of {P : Program} {w : World} {mg : Str → Option Value} {base : Heap} {x qual : Str} {st : Stmt} {f : Addr} {fd : FuncData} {N ps : List Str} {k : Nat} {R : List PyData → PyData → Prop} (F : Fun K x qual st f fd) (S : FnScope N ps (defScope st)) (hl : ∀ ds d, R ds d → ds.length = ps.length)
    (hb : ∀ (cdv : Value) (A : Around) (outer : List Env) (s : Shared) (H : Hp) (E : XK), Room k (A.deeper (envOfC qual (defScope st) s.heap.objs.size f cdv)) → ∀ (ds : List PyData) (d : PyData), R ds d →
      ∃ t, PSs (cxOf CX0 P w K mg base N qual (defScope st) f cdv A outer s H E).nox (defBody st) t ∧ GS K C t (ds.map Sl.v ++ List.replicate (N.length - ps.length) Sl.no) { nx := fun _ => d = .none, rt := fun e => e = d }) :
    FnOk P w K mg base CX0 (k + 1) f fd ps (spR K C R) := by
  refine F.ok S (fun vs H Q E h => ?_) fun cdv A outer s H vs Q E hr h => ?_
  · obtain ⟨S, ds, d, _, a, r, _⟩ := h
    rw [a.len]
    exact hl ds d r
  · obtain ⟨Sh, ds, d, dm, a, r, q⟩ := h
    obtain ⟨t, ht, hg⟩ := hb cdv A outer s H E hr ds d r
    refine ⟨t, ht, hg Sh H Sh (L2.start N vs) H _ ?_ (fun D' S' st' H' m c' e' => ?_) (fun e v H' m e' a' => ?_) (fun _ _ _ _ m _ _ => m.elim) (fun _ _ _ _ m _ _ => m.elim)⟩
    · have lds : ds.length = ps.length := hl ds d r
      have lv := a.len
      have atv : ∀ (i : Nat) (x : Sl), (ds.map Sl.v ++ List.replicate (N.length - ps.length) Sl.no)[i]? = some x → x ≠ .no → ∃ d', ds[i]? = some d' ∧ x = .v d' := fun i x h n => by
        by_cases hi : i < ds.length
        · rw [List.getElem?_append_left (by rw [List.length_map]; exact hi), List.getElem?_map, List.getElem?_eq_getElem hi] at h
          exact ⟨ds[i], List.getElem?_eq_getElem hi, (Option.some.inj h).symm⟩
        · rw [List.getElem?_append_right (by rw [List.length_map]; omega), List.getElem?_replicate] at h
          split at h
          · exact absurd (Option.some.inj h).symm n
          · cases h
      refine ⟨?_, fun b z => z, dm, dm, Same.refl H, fun i d' h => ?_, fun i es h => ?_, fun i j es fs l h => ?_⟩
      · unfold L2.start
        rw [List.length_append, List.length_append, List.length_map, List.length_map, List.length_replicate, List.length_replicate, lv, lds]
      · obtain ⟨d2, h1, h2⟩ := atv i _ h (fun z => nomatch z)
        cases h2
        obtain ⟨v, h3, h4⟩ := a.get h1
        refine ⟨v, ?_, h4⟩
        unfold L2.start
        rw [List.getElem?_append_left (by rw [List.length_map]; exact (List.getElem?_eq_some_iff.mp h3).1), List.getElem?_map, h3]
        rfl
      · obtain ⟨d2, h1, h2⟩ := atv i _ h (fun z => nomatch z)
        cases h2
      · obtain ⟨d2, h1, h2⟩ := atv i _ h (fun z => nomatch z)
        cases h2
    · have m' : d = .none := m
      subst m'
      exact q .non H' c'.old .non
    · have m' : e = d := m
      subst m'
      exact q v H' e' a'
end
end Du

namespace Du
open PySem PySem.Spec PyProof.Rows L2
/-! ### further rules -/
section
variable {X : Cx}
theorem pe_gl {x : Str} {v : V} {pos : Pos} (hg : Gl X x) (h : ∃ u, X.mg x = some u ∧ RelV v u) (hd : (x == ("__debug__" : Str)) = false := by decide) : PE X (.Name x pos) (tC v) := by
  obtain ⟨u, hm, r⟩ := h
  exact pe_glob hg hm r hd
def rSumT (K : PySem.W.Frag) : List V → Hp → VK → Prop := fun vs H Q => ∃ (a : Addr) (ns : List Int), vs = [V.ref a] ∧ SqT K H a (ns.map V.int) ∧ Q (.int ns.sum) H
theorem cr_sumT (hc : X.calm = true) : CallR X (.builtin "sum") (rSumT X.K) := by
  intro pins s st H vs us Q I r h
  obtain ⟨a, ns, rfl, hs, q⟩ := h
  obtain ⟨its, rv, hl, _⟩ := I.tuple hs
  rw [Vals.ref1 r]
  obtain ⟨xs, e⟩ := rv.ints.allInts.items
  have hn : numsOf (intItems xs).toList = ns := by
    rw [← e]
    exact rv.ints.numsOf
  rw [nums_intItems] at hn
  rw [e] at hl
  refine PySem.W.ktm_sumG (I.ok.hd hc) hl fun h' tk t' hk => ?_
  rw [preSum_eq, List.take_of_length_le (by simp), hn]
  exact ⟨.int _, H, I.kept hk, ⟨_, rfl⟩, q⟩
end
/-! ### the rules, the written part K told by itself (within a comprehension's block) -/
section
variable (K : PySem.W.Frag) {X : Cx}
theorem pi_listK {tg l : Expr} {tl : TE} (hl : PE X l tl) (h : X.K = K := by rfl) : PI X tg l (iList K tl) := by
  subst h
  exact pi_list hl
theorem pi_tupK {tg l : Expr} {tl : TE} (hl : PE X l tl) (h : X.K = K := by rfl) : PI X tg l (iTup K tl) := by
  subst h
  exact pi_tup hl
theorem pg_tupK {es : List Expr} {k : Nat} {t : TGs} {n : Nat} {pos : Pos} (hc : X.calm = true) (h : PGs X es t) (hl : (assignEach es X.env).length = n := by rfl) (hst : (assignEach es X.env).findIdx? (·.1) = none := by rfl) (hk : X.K = K := by rfl) : PG X (.Tuple es k pos) (gTup K n t) := by
  subst hk
  exact pg_tup hc h hl hst
theorem pi_zipK {e e2 : Expr} {ta : TA} {p pos tpos : Pos} {elts : List Expr} {kk : Nat} (hg : L2.Gl X "zip") (hm : X.mg "zip" = none) (ha : PA X [e, e2] ta) (hs : starEach [e, e2] X.env = (false, eval e X.env) :: starEach [e2] X.env := by rfl) (hpl : (backTo pos (starEach [e2] X.env)).any (·.1) = false := by rfl) (hk : X.K = K := by rfl) : PI X (.Tuple elts kk tpos) (.Call (.Name "zip" p) [e, e2] [] pos) (iZip K ta) := by
  subst hk
  exact pi_zip hg hm ha hs hpl
theorem ix_listK (h : X.K = K := by rfl) : IxR X (rIxL K) := by
  subst h
  exact ix_list
theorem ix_tupK (h : X.K = K := by rfl) : IxR X (rIxT K) := by
  subst h
  exact ix_tup
theorem call_lenK (h : X.K = K := by rfl) : CallR X (.builtin "len") (rLen1 K) := by
  subst h
  exact call_len1
theorem call_listK (h : X.K = K := by rfl) : CallR X (.type "list") (rListOf K) := by
  subst h
  exact call_listof
theorem call_tupK (h : X.K = K := by rfl) : CallR X (.type "tuple") (rTupOf K) := by
  subst h
  exact call_tupof
theorem cr_sumK (hc : X.calm = true) (h : X.K = K := by rfl) : CallR X (.builtin "sum") (rSum K) := by
  subst h
  exact cr_sum hc
theorem cr_sumTK (hc : X.calm = true) (h : X.K = K := by rfl) : CallR X (.builtin "sum") (rSumT K) := by
  subst h
  exact cr_sumT hc
theorem cr_maxK (hc : X.calm = true) (h : X.K = K := by rfl) : CallR X (.builtin "max") (rMax K) := by
  subst h
  exact cr_max hc
theorem call_isiK2 (h : X.K = K := by rfl) : CallR X (.builtin "isinstance") (rIsi K) := by
  subst h
  exact call_isi
theorem sl_listK (h : X.K = K := by rfl) : SlR X (rSlL K) := by
  subst h
  exact sl_list
theorem pe_revLK {e : Expr} {te : TE} {k : Nat} {p1 p2 p3 pos : Pos} (he : PE X e te) (h : X.K = K := by rfl) : PE X (.Subscript e (.Slice none none (some (.UnaryOp .USub (.Constant (.int 1) k p1) p2)) p3) pos) (tRevL K te) := by
  subst h
  exact pe_revL he
end
/-- the type of data -/
def tyD : PyData → String
  | .bool _ => "bool"
  | .int _ => "int"
  | .list _ => "list"
  | .tuple _ => "tuple"
  | .str _ => "str"
  | .none => "NoneType"
  | .dict _ => ""
section
variable {K : PySem.W.Frag} {C : Addr} {D : List Sl} {d e : PyData} {ds es : List PyData} {ta tb te tl : TE} {i j : Int} {b : Bool}
theorem gd_sumT {ns : List Int} (ha : Gd K C ta D (.tuple (ns.map PyData.int))) : Gd K C (tCB (rSumT K) (tCons ta tNil)) D (.int ns.sum) := fun S0 H0 S st H c Q q =>
  ha S0 H0 S st H c _ fun v H1 e1 a1 => by
    cases a1 with
    | tup hl hs =>
      have e := hs.ints
      subst e
      exact ⟨_, ns, rfl, sqT_mono hid_le hl, q _ H1 e1 (.int _)⟩
theorem sqT_ty {H : Hp} {a : Addr} {xs : List V} (h : SqT K H a xs) : TyX K H (.ref a) (.type "tuple") := by
  rcases h with (h | ⟨o, h⟩) | ⟨o, its, n, h, hc, _⟩
  · exact .base (.tup h)
  · exact .fTuple h
  · exact .kTuple h hc
theorem gd_isi {n : String} (ha : Gd K C ta D d) (hp : plainD d = true) (h : kitB (tyD d) n = some b) : Gd K C (tCB (rIsi K) (tCons ta (tCons (tC (.ty n)) tNil))) D (.bool b) := fun S0 H0 S st H c Q q =>
  ha S0 H0 S st H c _ fun v H1 e1 a1 => by
    refine ⟨v, .ty n, .type (tyD d), .type n, b, rfl, .ty n, ?_, kit_ty h, q _ H1 e1 (.bl b)⟩
    cases a1 with
    | non => exact .base .non
    | bl k => exact .base (.bl k)
    | int k => exact .base (.int k)
    | str x => exact .base (.str x)
    | lst hl _ => exact .base (.lst (hid_some hl).2)
    | tup hl _ => exact sqT_ty (sqT_mono hid_le hl)
    | plan _ _ _ =>
      simp only [plainD] at hp
      cases hp
    | plan0 _ _ =>
      simp only [plainD] at hp
      cases hp
/-- a tuple of the module -/
theorem gd_tupK {a : Addr} {ns : List Int} (h : ∀ H, SqT K H a (ns.map V.int)) : Gd K C (tC (.ref a)) D (.tuple (ns.map PyData.int)) := fun S0 H0 S st H c Q q =>
  q _ H (Same.refl H) (.tup (h _) (AtAll.ofInts ns))
theorem kt_ne : (("table" : Str) == ("kept" : Str)) = false := by decide +kernel
theorem look_k2 {a b : V} : ([("kept", a), ("table", b)] : List (Str × V)).lookup ("kept" : Str) = some a := rfl
theorem look_k1 {a : V} : ([("kept", a)] : List (Str × V)).lookup ("kept" : Str) = some a := rfl
theorem look_t2 {a b : V} : ([("kept", a), ("table", b)] : List (Str × V)).lookup ("table" : Str) = some b := by
  show (match (("table" : Str) == ("kept" : Str)) with | true => some a | false => ([("table", b)] : List (Str × V)).lookup ("table" : Str)) = some b
  rw [kt_ne]
  rfl
/-- what the class is known for -/
structure ClsP (K : PySem.W.Frag) (C : Addr) : Prop where
  cl : Cls K C
  nK : NoAttr K C "kept"
  nT : NoAttr K C "table"
theorem gd_kept (T : ClsP K C) (ha : Gd K C ta D (.dict [(d, e)])) : Gd K C (tFld K ta "kept") D d := fun S0 H0 S st H c Q q =>
  ha S0 H0 S st H c _ fun v H1 e1 a1 => by
    cases a1 with
    | plan h h1 h2 => exact ⟨_, C, _, _, _, rfl, (hid_some h).2, T.cl, T.nK, look_k2, q _ H1 e1 h1⟩
    | plan0 h h1 => exact ⟨_, C, _, _, _, rfl, (hid_some h).2, T.cl, T.nK, look_k1, q _ H1 e1 h1⟩
theorem gd_table (T : ClsP K C) (ha : Gd K C ta D (.dict [(d, e)])) (hn : e ≠ .none) : Gd K C (tFld K ta "table") D e := fun S0 H0 S st H c Q q =>
  ha S0 H0 S st H c _ fun v H1 e1 a1 => by
    cases a1 with
    | plan h h1 h2 => exact ⟨_, C, _, _, _, rfl, (hid_some h).2, T.cl, T.nT, look_t2, q _ H1 e1 h2⟩
    | plan0 h h1 => exact absurd rfl hn
theorem look_no {m : Str} {a b : V} (h1 : (m == ("kept" : Str)) = false) (h2 : (m == ("table" : Str)) = false) : ([("kept", a), ("table", b)] : List (Str × V)).lookup m = none := by
  show (match (m == ("kept" : Str)) with | true => some a | false => (match (m == ("table" : Str)) with | true => some b | false => none)) = none
  rw [h1, h2]
theorem look_no1 {m : Str} {a : V} (h1 : (m == ("kept" : Str)) = false) : ([("kept", a)] : List (Str × V)).lookup m = none := by
  show (match (m == ("kept" : Str)) with | true => some a | false => none) = none
  rw [h1]
theorem gd_meth {m : Str} {R : List PyData → PyData → Prop} {E : XK} {f : PyData} (ha : Gd K C ta D (.dict [(d, e)])) (h : R [.dict [(d, e)]] f) (h1 : (m == ("kept" : Str)) = false) (h2 : (m == ("table" : Str)) = false) : Gd K C (tMeth C m (spR K C R) [] E ta tNil) D f := fun S0 H0 S st H c Q q =>
  ha S0 H0 S st H c _ fun v H1 e1 a1 => by
    have go : ∀ {a : Addr}, At K C (hid S H1) (.ref a) (.dict [(d, e)]) → spR K C R (.ref a :: ([] ++ [])) H1 Q E := fun {a} a1 =>
      ⟨S, _, _, (c.up e1).dom, .cons a1 .nil, h, fun v H2 e2 a2 => q v H2 (e1.trans e2) a2⟩
    have a1' := a1
    cases a1 with
    | plan g g1 g2 => exact ⟨_, _, _, rfl, (hid_some g).2, look_no h1 h2, go a1'⟩
    | plan0 g g1 => exact ⟨_, _, _, rfl, (hid_some g).2, look_no1 h1, go a1'⟩
end
section
variable {K : PySem.W.Frag} {C : Addr} {D : List Sl} {t u : TT}
theorem gb_or1 (h : Gb K C t D true) : Gb K C (tOr t u) D true := fun S0 H0 S st H c Q q => h S0 H0 S st H c _ fun H1 e1 => iteT (q H1 e1)
theorem gb_and0 (h : Gb K C t D false) : Gb K C (tAnd t u) D false := fun S0 H0 S st H c Q q => h S0 H0 S st H c _ fun H1 e1 => iteF (q H1 e1)
end
theorem no_ft {p : Prop} (z : false = true) : p := Bool.noConfusion z
theorem no_tf {p : Prop} (z : true = false) : p := Bool.noConfusion z
/-- small products -/
theorem cmul {i j : Int} (hi : -(2 ^ 64) < i ∧ i < 2 ^ 64) (hj : -(2 ^ 64) < j ∧ j < 2 ^ 64) : CMulW i j := wide_mul (a := 64) (b := 64) (by omega) (by omega) (by decide) (by decide) (by decide)
theorem cdiv {i j : Int} (h : 0 < j) (hj : j < 2 ^ 64) : CDivW i j := wide_div (b := 64) h (by omega) (by decide) (by decide)
end Du

namespace Du
open PySem PySem.Spec PyProof.Rows L2
/-! ### the text by places -/
def topS (i : Nat) : Stmt := PySem.Challenge.pw_dueturns_k22_whole_no_row_is_fairer.main.body.getD i (.Pass ⟨0, 0, 0, 0⟩)
abbrev s_is_whole : Stmt := topS 10
abbrev s_common : Stmt := topS 11
abbrev s_made : Stmt := topS 12
abbrev s_plus : Stmt := topS 13
abbrev s_minus : Stmt := topS 14
abbrev s_less : Stmt := topS 16
abbrev s_floor_of : Stmt := topS 17
abbrev s_ceiling_of : Stmt := topS 18
abbrev s_low_of : Stmt := topS 20
abbrev s_high_of : Stmt := topS 21
abbrev s_ranges_by_turns : Stmt := topS 22
abbrev s_must_by : Stmt := topS 24
abbrev s_soonest : Stmt := topS 25
abbrev s_too_far : Stmt := topS 26
abbrev s_too_few : Stmt := topS 27
abbrev s_over_from : Stmt := topS 28
abbrev s_dealt : Stmt := topS 29
abbrev s_rising : Stmt := topS 31
abbrev s_sorted_by_worth : Stmt := topS 32
abbrev s_together : Stmt := topS 33
abbrev s_parts_of_one : Stmt := topS 34
abbrev s_all_in : Stmt := topS 35
abbrev s_first_kept : Stmt := topS 36
abbrev s_fairest : Stmt := topS 37
abbrev s_are_weights : Stmt := topS 44
abbrev s_is_spell : Stmt := topS 45
abbrev s_check_spells : Stmt := topS 46
abbrev s_Plan___init__ : Stmt := inClass (topS 47) 0
abbrev s_Plan_many : Stmt := inClass (topS 47) 3
abbrev s_Plan_dues_by_turns : Stmt := inClass (topS 47) 5
abbrev s__law_cell_at : Stmt := topS 49
abbrev s__law_draw : Stmt := topS 50
abbrev s__law_common : Stmt := topS 52
abbrev s__law_lowest : Stmt := topS 53
abbrev s__law_weight : Stmt := topS 54
abbrev s__law_dues : Stmt := topS 55
abbrev s__law_lags : Stmt := topS 56
abbrev s__law_longer : Stmt := topS 57
abbrev s__law_small : Stmt := topS 58
abbrev s__law_worst : Stmt := topS 59
abbrev s__law_least : Stmt := topS 60
abbrev s_law : Stmt := topS 61
theorem sc_is_whole : FnScope ["thing"] ["thing"] (defScope s_is_whole) := ⟨rfl, rfl, rfl, by decide +kernel, rfl, by decide +kernel, by decide +kernel⟩
theorem sc_common : FnScope ["one", "other"] ["one", "other"] (defScope s_common) := ⟨rfl, rfl, rfl, by decide +kernel, rfl, by decide +kernel, by decide +kernel⟩
theorem sc_made : FnScope ["top", "bottom", "share"] ["top", "bottom"] (defScope s_made) := ⟨rfl, rfl, rfl, by decide +kernel, rfl, by decide +kernel, by decide +kernel⟩
theorem sc_plus : FnScope ["one", "other"] ["one", "other"] (defScope s_plus) := ⟨rfl, rfl, rfl, by decide +kernel, rfl, by decide +kernel, by decide +kernel⟩
theorem sc_minus : FnScope ["one", "other"] ["one", "other"] (defScope s_minus) := ⟨rfl, rfl, rfl, by decide +kernel, rfl, by decide +kernel, by decide +kernel⟩
theorem sc_less : FnScope ["one", "other"] ["one", "other"] (defScope s_less) := ⟨rfl, rfl, rfl, by decide +kernel, rfl, by decide +kernel, by decide +kernel⟩
theorem sc_floor_of : FnScope ["one"] ["one"] (defScope s_floor_of) := ⟨rfl, rfl, rfl, by decide +kernel, rfl, by decide +kernel, by decide +kernel⟩
theorem sc_ceiling_of : FnScope ["one"] ["one"] (defScope s_ceiling_of) := ⟨rfl, rfl, rfl, by decide +kernel, rfl, by decide +kernel, by decide +kernel⟩
theorem sc_low_of : FnScope ["bound", "due"] ["bound", "due"] (defScope s_low_of) := ⟨rfl, rfl, rfl, by decide +kernel, rfl, by decide +kernel, by decide +kernel⟩
theorem sc_high_of : FnScope ["bound", "due"] ["bound", "due"] (defScope s_high_of) := ⟨rfl, rfl, rfl, by decide +kernel, rfl, by decide +kernel, by decide +kernel⟩
theorem sc_ranges_by_turns : FnScope ["plan", "bound", "dues", "due"] ["plan", "bound"] (defScope s_ranges_by_turns) := ⟨rfl, rfl, rfl, by decide +kernel, rfl, by decide +kernel, by decide +kernel⟩
theorem sc_must_by : FnScope ["table", "at", "who", "count", "place"] ["table", "at", "who", "count"] (defScope s_must_by) := ⟨rfl, rfl, rfl, by decide +kernel, rfl, by decide +kernel, by decide +kernel⟩
theorem sc_soonest : FnScope ["table", "at", "counts", "found", "who", "by"] ["table", "at", "counts"] (defScope s_soonest) := ⟨rfl, rfl, rfl, by decide +kernel, rfl, by decide +kernel, by decide +kernel⟩
theorem sc_too_far : FnScope ["table", "at", "counts", "who"] ["table", "at", "counts"] (defScope s_too_far) := ⟨rfl, rfl, rfl, by decide +kernel, rfl, by decide +kernel, by decide +kernel⟩
theorem sc_too_few : FnScope ["table", "at", "counts", "who"] ["table", "at", "counts"] (defScope s_too_few) := ⟨rfl, rfl, rfl, by decide +kernel, rfl, by decide +kernel, by decide +kernel⟩
theorem sc_over_from : FnScope ["table", "at", "made", "begin"] ["table", "at", "made"] (defScope s_over_from) := ⟨rfl, rfl, rfl, by decide +kernel, rfl, by decide +kernel, by decide +kernel⟩
theorem sc_dealt : FnScope ["table", "first", "start", "counts", "made", "at", "who", "number"] ["table", "first", "start"] (defScope s_dealt) := ⟨rfl, rfl, rfl, by decide +kernel, rfl, by decide +kernel, by decide +kernel⟩
theorem sc_rising : FnScope ["some", "found", "one"] ["some"] (defScope s_rising) := ⟨rfl, rfl, rfl, by decide +kernel, rfl, by decide +kernel, by decide +kernel⟩
theorem sc_sorted_by_worth : FnScope ["some", "half"] ["some"] (defScope s_sorted_by_worth) := ⟨rfl, rfl, rfl, by decide +kernel, rfl, by decide +kernel, by decide +kernel⟩
theorem sc_together : FnScope ["ones", "others", "found", "at", "one"] ["ones", "others"] (defScope s_together) := ⟨rfl, rfl, rfl, by decide +kernel, rfl, by decide +kernel, by decide +kernel⟩
theorem sc_parts_of_one : FnScope ["dues", "found", "due", "part"] ["dues"] (defScope s_parts_of_one) := ⟨rfl, rfl, rfl, by decide +kernel, rfl, by decide +kernel, by decide +kernel⟩
theorem sc_all_in : FnScope ["rows", "found", "row"] ["rows"] (defScope s_all_in) := ⟨rfl, rfl, rfl, by decide +kernel, rfl, by decide +kernel, by decide +kernel⟩
theorem sc_first_kept : FnScope ["some", "kept", "low", "high", "half"] ["some", "kept"] (defScope s_first_kept) := ⟨rfl, rfl, rfl, by decide +kernel, rfl, by decide +kernel, by decide +kernel⟩
theorem sc_fairest : FnScope ["plan", "some", "most", "row", "paper", "start"] ["plan"] (defScope s_fairest) := ⟨rfl, rfl, rfl, by decide +kernel, rfl, by decide +kernel, by decide +kernel⟩
theorem sc_are_weights : FnScope ["thing", "weight"] ["thing"] (defScope s_are_weights) := ⟨rfl, rfl, rfl, by decide +kernel, rfl, by decide +kernel, by decide +kernel⟩
theorem sc_is_spell : FnScope ["thing"] ["thing"] (defScope s_is_spell) := ⟨rfl, rfl, rfl, by decide +kernel, rfl, by decide +kernel, by decide +kernel⟩
theorem sc_check_spells : FnScope ["thing", "turns", "at", "spell"] ["thing"] (defScope s_check_spells) := ⟨rfl, rfl, rfl, by decide +kernel, rfl, by decide +kernel, by decide +kernel⟩
theorem sc_Plan___init__ : FnScope ["self", "spells", "turns", "weights"] ["self", "spells"] (defScope s_Plan___init__) := ⟨rfl, rfl, rfl, by decide +kernel, rfl, by decide +kernel, by decide +kernel⟩
theorem sc_Plan_many : FnScope ["self"] ["self"] (defScope s_Plan_many) := ⟨rfl, rfl, rfl, by decide +kernel, rfl, by decide +kernel, by decide +kernel⟩
theorem sc_Plan_dues_by_turns : FnScope ["self", "table", "turns", "weights", "whole", "first", "turn", "who"] ["self"] (defScope s_Plan_dues_by_turns) := ⟨rfl, rfl, rfl, by decide +kernel, rfl, by decide +kernel, by decide +kernel⟩
theorem sc__law_cell_at : FnScope ["_law_script", "_law_k"] ["_law_script", "_law_k"] (defScope s__law_cell_at) := ⟨rfl, rfl, rfl, by decide +kernel, rfl, by decide +kernel, by decide +kernel⟩
theorem sc__law_draw : FnScope ["_law_cell", "_law_k", "_law_bound", "_law_left", "_law_j", "_law_stir"] ["_law_cell", "_law_k", "_law_bound"] (defScope s__law_draw) := ⟨rfl, rfl, rfl, by decide +kernel, rfl, by decide +kernel, by decide +kernel⟩
theorem sc__law_common : FnScope ["_law_one", "_law_other"] ["_law_one", "_law_other"] (defScope s__law_common) := ⟨rfl, rfl, rfl, by decide +kernel, rfl, by decide +kernel, by decide +kernel⟩
theorem sc__law_lowest : FnScope ["_law_top", "_law_bottom", "_law_share"] ["_law_top", "_law_bottom"] (defScope s__law_lowest) := ⟨rfl, rfl, rfl, by decide +kernel, rfl, by decide +kernel, by decide +kernel⟩
theorem sc__law_weight : FnScope ["_law_cell", "_law_k", "_law_way"] ["_law_cell", "_law_k"] (defScope s__law_weight) := ⟨rfl, rfl, rfl, by decide +kernel, rfl, by decide +kernel, by decide +kernel⟩
theorem sc__law_dues : FnScope ["_law_spells", "_law_found", "_law_turns", "_law_weights", "_law_first", "_law_turn", "_law_behind", "_law_who", "_law_top", "_law_under"] ["_law_spells"] (defScope s__law_dues) := ⟨rfl, rfl, rfl, by decide +kernel, rfl, by decide +kernel, by decide +kernel⟩
theorem sc__law_lags : FnScope ["_law_dues_here", "_law_row", "_law_tally", "_law_found", "_law_turn", "_law_due", "_law_count"] ["_law_dues_here", "_law_row"] (defScope s__law_lags) := ⟨rfl, rfl, rfl, by decide +kernel, rfl, by decide +kernel, by decide +kernel⟩
theorem sc__law_longer : FnScope ["_law_rows", "_law_many", "_law_found", "_law_row", "_law_who"] ["_law_rows", "_law_many"] (defScope s__law_longer) := ⟨rfl, rfl, rfl, by decide +kernel, rfl, by decide +kernel, by decide +kernel⟩
theorem sc__law_small : FnScope ["_law_cell", "_law_other", "_law_many", "_law_found", "_law_k", "_law_weights", "_law_who"] ["_law_cell", "_law_other"] (defScope s__law_small) := ⟨rfl, rfl, rfl, by decide +kernel, rfl, by decide +kernel, by decide +kernel⟩
theorem sc__law_worst : FnScope ["_law_dues_here", "_law_row", "_law_most", "_law_behind", "_law_top", "_law_bottom"] ["_law_dues_here", "_law_row"] (defScope s__law_worst) := ⟨rfl, rfl, rfl, by decide +kernel, rfl, by decide +kernel, by decide +kernel⟩
theorem sc__law_least : FnScope ["_law_dues_here", "_law_rows", "_law_turn", "_law_found", "_law_row", "_law_most"] ["_law_dues_here"] (defScope s__law_least) := ⟨rfl, rfl, rfl, by decide +kernel, rfl, by decide +kernel, by decide +kernel⟩
theorem sc_law : FnScope ["_law_script", "_law_spells", "_law_due", "_law_found", "_law_often", "_law_more", "_law_turned", "_law_turns", "_law_weights", "_law_weight_here"] ["_law_script"] (defScope s_law) := ⟨rfl, rfl, rfl, by decide +kernel, rfl, by decide +kernel, by decide +kernel⟩
/-! ### what the top has written -/
/-- the def that stands at an address -/
def fdO (K : PySem.W.Frag) (a : Addr) (x : FuncData) : FuncData := match K.lookup a with
  | some ⟨_, _, .func fd, _⟩ => fd
  | _ => x
structure Tx (K : PySem.W.Frag) (mg : Str → Option Value) (fd : Str → FuncData) (C : Addr) : Prop where
  C_is : C = He.ga K "Plan"
  cl : ClsP K C
  mkC : Mk K C (He.ma K C "__init__")
  m_Plan : mg "Plan" = some (.ref C)
  n_abs : mg "abs" = none
  n_bool : mg "bool" = none
  n_int : mg "int" = none
  n_isinstance : mg "isinstance" = none
  n_len : mg "len" = none
  n_list : mg "list" = none
  n_max : mg "max" = none
  n_min : mg "min" = none
  n_range : mg "range" = none
  n_sum : mg "sum" = none
  n_tuple : mg "tuple" = none
  n_zip : mg "zip" = none
  c_MOST_SPELLS : ∃ u, mg "MOST_SPELLS" = some u ∧ RelV (.int 8) u
  c_MOST_TURNS : ∃ u, mg "MOST_TURNS" = some u ∧ RelV (.int 240) u
  c_MOST_IN_SPELL : ∃ u, mg "MOST_IN_SPELL" = some u ∧ RelV (.int 60) u
  c_MOST_CLAIMANTS : ∃ u, mg "MOST_CLAIMANTS" = some u ∧ RelV (.int 6) u
  c_MOST_WEIGHT : ∃ u, mg "MOST_WEIGHT" = some u ∧ RelV (.int 1000) u
  c_NOUGHT : ∃ u, mg "NOUGHT" = some u ∧ RelV (.ref (He.ga K "NOUGHT")) u
  k_NOUGHT : ∀ H, SqT K H (He.ga K "NOUGHT") [.int 0, .int 1]
  c_ONE : ∃ u, mg "ONE" = some u ∧ RelV (.ref (He.ga K "ONE")) u
  k_ONE : ∀ H, SqT K H (He.ga K "ONE") [.int 1, .int 1]
  m_is_whole : mg "is_whole" = some (.ref (He.ga K "is_whole"))
  F_is_whole : Fun K "is_whole" "is_whole" s_is_whole (He.ga K "is_whole") (fd "is_whole")
  m_common : mg "common" = some (.ref (He.ga K "common"))
  F_common : Fun K "common" "common" s_common (He.ga K "common") (fd "common")
  m_made : mg "made" = some (.ref (He.ga K "made"))
  F_made : Fun K "made" "made" s_made (He.ga K "made") (fd "made")
  m_plus : mg "plus" = some (.ref (He.ga K "plus"))
  F_plus : Fun K "plus" "plus" s_plus (He.ga K "plus") (fd "plus")
  m_minus : mg "minus" = some (.ref (He.ga K "minus"))
  F_minus : Fun K "minus" "minus" s_minus (He.ga K "minus") (fd "minus")
  m_less : mg "less" = some (.ref (He.ga K "less"))
  F_less : Fun K "less" "less" s_less (He.ga K "less") (fd "less")
  m_floor_of : mg "floor_of" = some (.ref (He.ga K "floor_of"))
  F_floor_of : Fun K "floor_of" "floor_of" s_floor_of (He.ga K "floor_of") (fd "floor_of")
  m_ceiling_of : mg "ceiling_of" = some (.ref (He.ga K "ceiling_of"))
  F_ceiling_of : Fun K "ceiling_of" "ceiling_of" s_ceiling_of (He.ga K "ceiling_of") (fd "ceiling_of")
  m_low_of : mg "low_of" = some (.ref (He.ga K "low_of"))
  F_low_of : Fun K "low_of" "low_of" s_low_of (He.ga K "low_of") (fd "low_of")
  m_high_of : mg "high_of" = some (.ref (He.ga K "high_of"))
  F_high_of : Fun K "high_of" "high_of" s_high_of (He.ga K "high_of") (fd "high_of")
  m_ranges_by_turns : mg "ranges_by_turns" = some (.ref (He.ga K "ranges_by_turns"))
  F_ranges_by_turns : Fun K "ranges_by_turns" "ranges_by_turns" s_ranges_by_turns (He.ga K "ranges_by_turns") (fd "ranges_by_turns")
  m_must_by : mg "must_by" = some (.ref (He.ga K "must_by"))
  F_must_by : Fun K "must_by" "must_by" s_must_by (He.ga K "must_by") (fd "must_by")
  m_soonest : mg "soonest" = some (.ref (He.ga K "soonest"))
  F_soonest : Fun K "soonest" "soonest" s_soonest (He.ga K "soonest") (fd "soonest")
  m_too_far : mg "too_far" = some (.ref (He.ga K "too_far"))
  F_too_far : Fun K "too_far" "too_far" s_too_far (He.ga K "too_far") (fd "too_far")
  m_too_few : mg "too_few" = some (.ref (He.ga K "too_few"))
  F_too_few : Fun K "too_few" "too_few" s_too_few (He.ga K "too_few") (fd "too_few")
  m_over_from : mg "over_from" = some (.ref (He.ga K "over_from"))
  F_over_from : Fun K "over_from" "over_from" s_over_from (He.ga K "over_from") (fd "over_from")
  m_dealt : mg "dealt" = some (.ref (He.ga K "dealt"))
  F_dealt : Fun K "dealt" "dealt" s_dealt (He.ga K "dealt") (fd "dealt")
  m_rising : mg "rising" = some (.ref (He.ga K "rising"))
  F_rising : Fun K "rising" "rising" s_rising (He.ga K "rising") (fd "rising")
  m_sorted_by_worth : mg "sorted_by_worth" = some (.ref (He.ga K "sorted_by_worth"))
  F_sorted_by_worth : Fun K "sorted_by_worth" "sorted_by_worth" s_sorted_by_worth (He.ga K "sorted_by_worth") (fd "sorted_by_worth")
  m_together : mg "together" = some (.ref (He.ga K "together"))
  F_together : Fun K "together" "together" s_together (He.ga K "together") (fd "together")
  m_parts_of_one : mg "parts_of_one" = some (.ref (He.ga K "parts_of_one"))
  F_parts_of_one : Fun K "parts_of_one" "parts_of_one" s_parts_of_one (He.ga K "parts_of_one") (fd "parts_of_one")
  m_all_in : mg "all_in" = some (.ref (He.ga K "all_in"))
  F_all_in : Fun K "all_in" "all_in" s_all_in (He.ga K "all_in") (fd "all_in")
  m_first_kept : mg "first_kept" = some (.ref (He.ga K "first_kept"))
  F_first_kept : Fun K "first_kept" "first_kept" s_first_kept (He.ga K "first_kept") (fd "first_kept")
  m_fairest : mg "fairest" = some (.ref (He.ga K "fairest"))
  F_fairest : Fun K "fairest" "fairest" s_fairest (He.ga K "fairest") (fd "fairest")
  m_are_weights : mg "are_weights" = some (.ref (He.ga K "are_weights"))
  F_are_weights : Fun K "are_weights" "are_weights" s_are_weights (He.ga K "are_weights") (fd "are_weights")
  m_is_spell : mg "is_spell" = some (.ref (He.ga K "is_spell"))
  F_is_spell : Fun K "is_spell" "is_spell" s_is_spell (He.ga K "is_spell") (fd "is_spell")
  m_check_spells : mg "check_spells" = some (.ref (He.ga K "check_spells"))
  F_check_spells : Fun K "check_spells" "check_spells" s_check_spells (He.ga K "check_spells") (fd "check_spells")
  F___init__ : Fun K "__init__" "Plan.__init__" s_Plan___init__ (He.ma K C "__init__") (fd "Plan.__init__")
  F_many : Fun K "many" "Plan.many" s_Plan_many (He.ma K C "many") (fd "Plan.many")
  M_many : Meth K C "many" (He.ma K C "many")
  F_dues_by_turns : Fun K "dues_by_turns" "Plan.dues_by_turns" s_Plan_dues_by_turns (He.ma K C "dues_by_turns") (fd "Plan.dues_by_turns")
  M_dues_by_turns : Meth K C "dues_by_turns" (He.ma K C "dues_by_turns")
  m__law_cell_at : mg "_law_cell_at" = some (.ref (He.ga K "_law_cell_at"))
  F__law_cell_at : Fun K "_law_cell_at" "_law_cell_at" s__law_cell_at (He.ga K "_law_cell_at") (fd "_law_cell_at")
  m__law_draw : mg "_law_draw" = some (.ref (He.ga K "_law_draw"))
  F__law_draw : Fun K "_law_draw" "_law_draw" s__law_draw (He.ga K "_law_draw") (fd "_law_draw")
  m__law_common : mg "_law_common" = some (.ref (He.ga K "_law_common"))
  F__law_common : Fun K "_law_common" "_law_common" s__law_common (He.ga K "_law_common") (fd "_law_common")
  m__law_lowest : mg "_law_lowest" = some (.ref (He.ga K "_law_lowest"))
  F__law_lowest : Fun K "_law_lowest" "_law_lowest" s__law_lowest (He.ga K "_law_lowest") (fd "_law_lowest")
  m__law_weight : mg "_law_weight" = some (.ref (He.ga K "_law_weight"))
  F__law_weight : Fun K "_law_weight" "_law_weight" s__law_weight (He.ga K "_law_weight") (fd "_law_weight")
  m__law_dues : mg "_law_dues" = some (.ref (He.ga K "_law_dues"))
  F__law_dues : Fun K "_law_dues" "_law_dues" s__law_dues (He.ga K "_law_dues") (fd "_law_dues")
  m__law_lags : mg "_law_lags" = some (.ref (He.ga K "_law_lags"))
  F__law_lags : Fun K "_law_lags" "_law_lags" s__law_lags (He.ga K "_law_lags") (fd "_law_lags")
  m__law_longer : mg "_law_longer" = some (.ref (He.ga K "_law_longer"))
  F__law_longer : Fun K "_law_longer" "_law_longer" s__law_longer (He.ga K "_law_longer") (fd "_law_longer")
  m__law_small : mg "_law_small" = some (.ref (He.ga K "_law_small"))
  F__law_small : Fun K "_law_small" "_law_small" s__law_small (He.ga K "_law_small") (fd "_law_small")
  m__law_worst : mg "_law_worst" = some (.ref (He.ga K "_law_worst"))
  F__law_worst : Fun K "_law_worst" "_law_worst" s__law_worst (He.ga K "_law_worst") (fd "_law_worst")
  m__law_least : mg "_law_least" = some (.ref (He.ga K "_law_least"))
  F__law_least : Fun K "_law_least" "_law_least" s__law_least (He.ga K "_law_least") (fd "_law_least")
  m_law : mg "law" = some (.ref (He.ga K "law"))
  F_law : Fun K "law" "law" s_law (He.ga K "law") (fd "law")
section
variable {K : PySem.W.Frag} {mg : Str → Option Value} {fd : Str → FuncData} {C : Addr}
theorem Tx.b_is_whole (T : Tx K mg fd C) : Binds K (fd "is_whole") ["thing"] [] := T.F_is_whole.binds fun _ _ _ _ _ _ us hl => match us, hl with | [_], _ => rfl
theorem Tx.b_common (T : Tx K mg fd C) : Binds K (fd "common") ["one", "other"] [] := T.F_common.binds fun _ _ _ _ _ _ us hl => match us, hl with | [_, _], _ => rfl
theorem Tx.b_made (T : Tx K mg fd C) : Binds K (fd "made") ["top", "bottom"] [] := T.F_made.binds fun _ _ _ _ _ _ us hl => match us, hl with | [_, _], _ => rfl
theorem Tx.b_plus (T : Tx K mg fd C) : Binds K (fd "plus") ["one", "other"] [] := T.F_plus.binds fun _ _ _ _ _ _ us hl => match us, hl with | [_, _], _ => rfl
theorem Tx.b_minus (T : Tx K mg fd C) : Binds K (fd "minus") ["one", "other"] [] := T.F_minus.binds fun _ _ _ _ _ _ us hl => match us, hl with | [_, _], _ => rfl
theorem Tx.b_less (T : Tx K mg fd C) : Binds K (fd "less") ["one", "other"] [] := T.F_less.binds fun _ _ _ _ _ _ us hl => match us, hl with | [_, _], _ => rfl
theorem Tx.b_floor_of (T : Tx K mg fd C) : Binds K (fd "floor_of") ["one"] [] := T.F_floor_of.binds fun _ _ _ _ _ _ us hl => match us, hl with | [_], _ => rfl
theorem Tx.b_ceiling_of (T : Tx K mg fd C) : Binds K (fd "ceiling_of") ["one"] [] := T.F_ceiling_of.binds fun _ _ _ _ _ _ us hl => match us, hl with | [_], _ => rfl
theorem Tx.b_low_of (T : Tx K mg fd C) : Binds K (fd "low_of") ["bound", "due"] [] := T.F_low_of.binds fun _ _ _ _ _ _ us hl => match us, hl with | [_, _], _ => rfl
theorem Tx.b_high_of (T : Tx K mg fd C) : Binds K (fd "high_of") ["bound", "due"] [] := T.F_high_of.binds fun _ _ _ _ _ _ us hl => match us, hl with | [_, _], _ => rfl
theorem Tx.b_ranges_by_turns (T : Tx K mg fd C) : Binds K (fd "ranges_by_turns") ["plan", "bound"] [] := T.F_ranges_by_turns.binds fun _ _ _ _ _ _ us hl => match us, hl with | [_, _], _ => rfl
theorem Tx.b_must_by (T : Tx K mg fd C) : Binds K (fd "must_by") ["table", "at", "who", "count"] [] := T.F_must_by.binds fun _ _ _ _ _ _ us hl => match us, hl with | [_, _, _, _], _ => rfl
theorem Tx.b_soonest (T : Tx K mg fd C) : Binds K (fd "soonest") ["table", "at", "counts"] [] := T.F_soonest.binds fun _ _ _ _ _ _ us hl => match us, hl with | [_, _, _], _ => rfl
theorem Tx.b_too_far (T : Tx K mg fd C) : Binds K (fd "too_far") ["table", "at", "counts"] [] := T.F_too_far.binds fun _ _ _ _ _ _ us hl => match us, hl with | [_, _, _], _ => rfl
theorem Tx.b_too_few (T : Tx K mg fd C) : Binds K (fd "too_few") ["table", "at", "counts"] [] := T.F_too_few.binds fun _ _ _ _ _ _ us hl => match us, hl with | [_, _, _], _ => rfl
theorem Tx.b_over_from (T : Tx K mg fd C) : Binds K (fd "over_from") ["table", "at", "made"] [] := T.F_over_from.binds fun _ _ _ _ _ _ us hl => match us, hl with | [_, _, _], _ => rfl
theorem Tx.b_dealt (T : Tx K mg fd C) : Binds K (fd "dealt") ["table", "first", "start"] [] := T.F_dealt.binds fun _ _ _ _ _ _ us hl => match us, hl with | [_, _, _], _ => rfl
theorem Tx.b_rising (T : Tx K mg fd C) : Binds K (fd "rising") ["some"] [] := T.F_rising.binds fun _ _ _ _ _ _ us hl => match us, hl with | [_], _ => rfl
theorem Tx.b_sorted_by_worth (T : Tx K mg fd C) : Binds K (fd "sorted_by_worth") ["some"] [] := T.F_sorted_by_worth.binds fun _ _ _ _ _ _ us hl => match us, hl with | [_], _ => rfl
theorem Tx.b_together (T : Tx K mg fd C) : Binds K (fd "together") ["ones", "others"] [] := T.F_together.binds fun _ _ _ _ _ _ us hl => match us, hl with | [_, _], _ => rfl
theorem Tx.b_parts_of_one (T : Tx K mg fd C) : Binds K (fd "parts_of_one") ["dues"] [] := T.F_parts_of_one.binds fun _ _ _ _ _ _ us hl => match us, hl with | [_], _ => rfl
theorem Tx.b_all_in (T : Tx K mg fd C) : Binds K (fd "all_in") ["rows"] [] := T.F_all_in.binds fun _ _ _ _ _ _ us hl => match us, hl with | [_], _ => rfl
theorem Tx.b_first_kept (T : Tx K mg fd C) : Binds K (fd "first_kept") ["some", "kept"] [] := T.F_first_kept.binds fun _ _ _ _ _ _ us hl => match us, hl with | [_, _], _ => rfl
theorem Tx.b_fairest (T : Tx K mg fd C) : Binds K (fd "fairest") ["plan"] [] := T.F_fairest.binds fun _ _ _ _ _ _ us hl => match us, hl with | [_], _ => rfl
theorem Tx.b_are_weights (T : Tx K mg fd C) : Binds K (fd "are_weights") ["thing"] [] := T.F_are_weights.binds fun _ _ _ _ _ _ us hl => match us, hl with | [_], _ => rfl
theorem Tx.b_is_spell (T : Tx K mg fd C) : Binds K (fd "is_spell") ["thing"] [] := T.F_is_spell.binds fun _ _ _ _ _ _ us hl => match us, hl with | [_], _ => rfl
theorem Tx.b_check_spells (T : Tx K mg fd C) : Binds K (fd "check_spells") ["thing"] [] := T.F_check_spells.binds fun _ _ _ _ _ _ us hl => match us, hl with | [_], _ => rfl
theorem Tx.b___init__ (T : Tx K mg fd C) : Binds K (fd "Plan.__init__") ["self", "spells"] [] := T.F___init__.binds fun _ _ _ _ _ _ us hl => match us, hl with | [_, _], _ => rfl
theorem Tx.b_many (T : Tx K mg fd C) : Binds K (fd "Plan.many") ["self"] [] := T.F_many.binds fun _ _ _ _ _ _ us hl => match us, hl with | [_], _ => rfl
theorem Tx.b_dues_by_turns (T : Tx K mg fd C) : Binds K (fd "Plan.dues_by_turns") ["self"] [] := T.F_dues_by_turns.binds fun _ _ _ _ _ _ us hl => match us, hl with | [_], _ => rfl
theorem Tx.b__law_cell_at (T : Tx K mg fd C) : Binds K (fd "_law_cell_at") ["_law_script", "_law_k"] [] := T.F__law_cell_at.binds fun _ _ _ _ _ _ us hl => match us, hl with | [_, _], _ => rfl
theorem Tx.b__law_draw (T : Tx K mg fd C) : Binds K (fd "_law_draw") ["_law_cell", "_law_k", "_law_bound"] [] := T.F__law_draw.binds fun _ _ _ _ _ _ us hl => match us, hl with | [_, _, _], _ => rfl
theorem Tx.b__law_common (T : Tx K mg fd C) : Binds K (fd "_law_common") ["_law_one", "_law_other"] [] := T.F__law_common.binds fun _ _ _ _ _ _ us hl => match us, hl with | [_, _], _ => rfl
theorem Tx.b__law_lowest (T : Tx K mg fd C) : Binds K (fd "_law_lowest") ["_law_top", "_law_bottom"] [] := T.F__law_lowest.binds fun _ _ _ _ _ _ us hl => match us, hl with | [_, _], _ => rfl
theorem Tx.b__law_weight (T : Tx K mg fd C) : Binds K (fd "_law_weight") ["_law_cell", "_law_k"] [] := T.F__law_weight.binds fun _ _ _ _ _ _ us hl => match us, hl with | [_, _], _ => rfl
theorem Tx.b__law_dues (T : Tx K mg fd C) : Binds K (fd "_law_dues") ["_law_spells"] [] := T.F__law_dues.binds fun _ _ _ _ _ _ us hl => match us, hl with | [_], _ => rfl
theorem Tx.b__law_lags (T : Tx K mg fd C) : Binds K (fd "_law_lags") ["_law_dues_here", "_law_row"] [] := T.F__law_lags.binds fun _ _ _ _ _ _ us hl => match us, hl with | [_, _], _ => rfl
theorem Tx.b__law_longer (T : Tx K mg fd C) : Binds K (fd "_law_longer") ["_law_rows", "_law_many"] [] := T.F__law_longer.binds fun _ _ _ _ _ _ us hl => match us, hl with | [_, _], _ => rfl
theorem Tx.b__law_small (T : Tx K mg fd C) : Binds K (fd "_law_small") ["_law_cell", "_law_other"] [] := T.F__law_small.binds fun _ _ _ _ _ _ us hl => match us, hl with | [_, _], _ => rfl
theorem Tx.b__law_worst (T : Tx K mg fd C) : Binds K (fd "_law_worst") ["_law_dues_here", "_law_row"] [] := T.F__law_worst.binds fun _ _ _ _ _ _ us hl => match us, hl with | [_, _], _ => rfl
theorem Tx.b__law_least (T : Tx K mg fd C) : Binds K (fd "_law_least") ["_law_dues_here"] [] := T.F__law_least.binds fun _ _ _ _ _ _ us hl => match us, hl with | [_], _ => rfl
theorem Tx.b_law (T : Tx K mg fd C) : Binds K (fd "law") ["_law_script"] [] := T.F_law.binds fun _ _ _ _ _ _ us hl => match us, hl with | [_], _ => rfl
end
end Du

/-! Fractions over one bottom W: fr W X is X / W in lowest terms. -/
namespace Du
def mkF (t b : Int) : Int × Int := (t / (Int.gcd t b : Int), b / (Int.gcd t b : Int))
def fr (W X : Int) : Int × Int := mkF X W
theorem gcd_pos {t b : Int} (h : 0 < b) : (0 : Int) < (Int.gcd t b : Int) := by
  have : 0 < Int.gcd t b := Int.gcd_pos_of_ne_zero_right _ (by omega)
  omega
theorem mkF_parts {t b : Int} : t = (mkF t b).1 * (Int.gcd t b : Int) ∧ b = (mkF t b).2 * (Int.gcd t b : Int) := by
  unfold mkF
  constructor
  · exact (Int.ediv_mul_cancel (Int.gcd_dvd_left ..)).symm
  · exact (Int.ediv_mul_cancel (Int.gcd_dvd_right ..)).symm
theorem mkF_gcd {t b : Int} (h : 0 < b) : Int.gcd (mkF t b).1 (mkF t b).2 = 1 := by
  unfold mkF
  have hp : 0 < Int.gcd t b := Int.gcd_pos_of_ne_zero_right _ (by omega)
  exact Int.gcd_ediv_gcd_ediv_gcd hp
theorem mkF_pos {t b : Int} (h : 0 < b) : 0 < (mkF t b).2 := by
  have g := gcd_pos (t := t) h
  obtain ⟨_, e⟩ := mkF_parts (t := t) (b := b)
  by_cases q : 0 < (mkF t b).2
  · exact q
  · have : (mkF t b).2 * (Int.gcd t b : Int) ≤ 0 := Int.mul_nonpos_of_nonpos_of_nonneg (by omega) (by omega)
    omega
theorem dvd_of {a b c : Int} (h : Int.gcd a b = 1) (d : b ∣ a * c) : b ∣ c := by
  have q : b.natAbs ∣ a.natAbs * c.natAbs := by
    rw [← Int.natAbs_mul]
    exact Int.natAbs_dvd_natAbs.mpr d
  have co : Nat.Coprime b.natAbs a.natAbs := by
    have : Nat.gcd a.natAbs b.natAbs = 1 := h
    rw [Nat.Coprime, Nat.gcd_comm]
    exact this
  exact Int.natAbs_dvd_natAbs.mp (co.dvd_of_dvd_mul_left q)
theorem low_eq {t b x w : Int} (hb : 0 < b) (hw : 0 < w) (c1 : Int.gcd t b = 1) (c2 : Int.gcd x w = 1) (h : t * w = x * b) : t = x ∧ b = w := by
  have d1 : b ∣ w := dvd_of c1 ⟨x, by rw [h, Int.mul_comm]⟩
  have d2 : w ∣ b := dvd_of c2 ⟨t, by rw [← h, Int.mul_comm]⟩
  have e : b = w := Int.dvd_antisymm (by omega) (by omega) d1 d2
  subst e
  exact ⟨Int.eq_of_mul_eq_mul_right (by omega) h, rfl⟩
theorem mkF_eq {t b X W : Int} (hb : 0 < b) (hW : 0 < W) (h : t * W = X * b) : mkF t b = mkF X W := by
  have g1 := gcd_pos (t := t) hb
  have g2 := gcd_pos (t := X) hW
  obtain ⟨e1, e2⟩ := mkF_parts (t := t) (b := b)
  obtain ⟨e3, e4⟩ := mkF_parts (t := X) (b := W)
  have hh : (mkF t b).1 * (mkF X W).2 = (mkF X W).1 * (mkF t b).2 := by
    have hp : (Int.gcd t b : Int) * (Int.gcd X W : Int) ≠ 0 := Int.mul_ne_zero (by omega) (by omega)
    apply Int.eq_of_mul_eq_mul_right hp
    calc (mkF t b).1 * (mkF X W).2 * ((Int.gcd t b : Int) * (Int.gcd X W : Int)) = ((mkF t b).1 * (Int.gcd t b : Int)) * ((mkF X W).2 * (Int.gcd X W : Int)) := by grind
      _ = t * W := by rw [← e1, ← e4]
      _ = X * b := h
      _ = ((mkF X W).1 * (Int.gcd X W : Int)) * ((mkF t b).2 * (Int.gcd t b : Int)) := by rw [← e3, ← e2]
      _ = (mkF X W).1 * (mkF t b).2 * ((Int.gcd t b : Int) * (Int.gcd X W : Int)) := by grind
  obtain ⟨a1, a2⟩ := low_eq (mkF_pos hb) (mkF_pos hW) (mkF_gcd hb) (mkF_gcd hW) hh
  exact Prod.ext a1 a2
section
variable {W X Y : Int}
theorem fr_pos (hW : 0 < W) : 0 < (fr W X).2 := mkF_pos hW
theorem fr_mul (hW : 0 < W) : (fr W X).1 * W = X * (fr W X).2 := by
  obtain ⟨e3, e4⟩ := mkF_parts (t := X) (b := W)
  have a : (fr W X).1 * W = (mkF X W).1 * ((mkF X W).2 * (Int.gcd X W : Int)) := by rw [← e4] <;> rfl
  have b : X * (fr W X).2 = ((mkF X W).1 * (Int.gcd X W : Int)) * (mkF X W).2 := by rw [← e3] <;> rfl
  rw [a, b]
  grind
theorem fr_eq {t b : Int} (hb : 0 < b) (hW : 0 < W) (h : t * W = X * b) : mkF t b = fr W X := mkF_eq hb hW h
theorem fr_inj (hW : 0 < W) (h : fr W X = fr W Y) : X = Y := by
  have a := fr_mul (X := X) hW
  have b := fr_mul (X := Y) hW
  rw [h] at a
  have p := fr_pos (X := Y) hW
  exact Int.eq_of_mul_eq_mul_right (by omega) (a.symm.trans b)
theorem fr_le (hW : 0 < W) : (fr W X).2 ≤ W ∧ (fr W X).1.natAbs ≤ X.natAbs := by
  have g := gcd_pos (t := X) hW
  obtain ⟨e3, e4⟩ := mkF_parts (t := X) (b := W)
  have p := fr_pos (X := X) hW
  constructor
  · have : (fr W X).2 * 1 ≤ (fr W X).2 * (Int.gcd X W : Int) := Int.mul_le_mul_of_nonneg_left (by omega) (by omega)
    have e : W = (fr W X).2 * (Int.gcd X W : Int) := e4
    omega
  · have e : X.natAbs = (fr W X).1.natAbs * (Int.gcd X W) := by
      have q : X = (fr W X).1 * (Int.gcd X W : Int) := e3
      have q2 : X.natAbs = ((fr W X).1 * (Int.gcd X W : Int)).natAbs := congrArg Int.natAbs q
      rw [Int.natAbs_mul] at q2
      simpa using q2
    rw [e]
    exact Nat.le_mul_of_pos_right _ (by omega)
theorem fr_add (hW : 0 < W) : mkF ((fr W X).1 * (fr W Y).2 + (fr W Y).1 * (fr W X).2) ((fr W X).2 * (fr W Y).2) = fr W (X + Y) := by
  have a := fr_mul (X := X) hW
  have b := fr_mul (X := Y) hW
  have p := fr_pos (X := X) hW
  have q := fr_pos (X := Y) hW
  refine fr_eq (Int.mul_pos p q) hW ?_
  generalize (fr W X).1 = x at *
  generalize (fr W X).2 = x' at *
  generalize (fr W Y).1 = y at *
  generalize (fr W Y).2 = y' at *
  grind
theorem fr_sub (hW : 0 < W) : mkF ((fr W X).1 * (fr W Y).2 - (fr W Y).1 * (fr W X).2) ((fr W X).2 * (fr W Y).2) = fr W (X - Y) := by
  have a := fr_mul (X := X) hW
  have b := fr_mul (X := Y) hW
  have p := fr_pos (X := X) hW
  have q := fr_pos (X := Y) hW
  refine fr_eq (Int.mul_pos p q) hW ?_
  generalize (fr W X).1 = x at *
  generalize (fr W X).2 = x' at *
  generalize (fr W Y).1 = y at *
  generalize (fr W Y).2 = y' at *
  grind
theorem fr_lt (hW : 0 < W) : (fr W X).1 * (fr W Y).2 < (fr W Y).1 * (fr W X).2 ↔ X < Y := by
  have a := fr_mul (X := X) hW
  have b := fr_mul (X := Y) hW
  have p := fr_pos (X := X) hW
  have q := fr_pos (X := Y) hW
  generalize (fr W X).1 = x at *
  generalize (fr W X).2 = x' at *
  generalize (fr W Y).1 = y at *
  generalize (fr W Y).2 = y' at *
  have h1 : (x * y') * W = X * (x' * y') := by grind
  have h2 : (y * x') * W = Y * (x' * y') := by grind
  have pq := Int.mul_pos p q
  rw [← Int.mul_lt_mul_right (a := W) hW, h1, h2, Int.mul_lt_mul_right pq]
theorem fr_div (hW : 0 < W) : (fr W X).1 / (fr W X).2 = X / W := by
  have g := gcd_pos (t := X) hW
  obtain ⟨e3, e4⟩ := mkF_parts (t := X) (b := W)
  have h : ((Int.gcd X W : Int) * (mkF X W).1) / ((Int.gcd X W : Int) * (mkF X W).2) = (mkF X W).1 / (mkF X W).2 := Int.mul_ediv_mul_of_pos _ _ g
  rw [Int.mul_comm _ (mkF X W).1, Int.mul_comm _ (mkF X W).2, ← e3, ← e4] at h
  exact h.symm
theorem fr_neg_div (hW : 0 < W) : (-(fr W X).1) / (fr W X).2 = (-X) / W := by
  have g := gcd_pos (t := X) hW
  obtain ⟨e3, e4⟩ := mkF_parts (t := X) (b := W)
  have h : ((Int.gcd X W : Int) * (-(mkF X W).1)) / ((Int.gcd X W : Int) * (mkF X W).2) = (-(mkF X W).1) / (mkF X W).2 := Int.mul_ediv_mul_of_pos _ _ g
  rw [Int.mul_comm _ (-(mkF X W).1), Int.mul_comm _ (mkF X W).2, Int.neg_mul, ← e3, ← e4] at h
  exact h.symm
/-- a whole number -/
theorem fr_whole (hW : 0 < W) (n : Int) : fr W (n * W) = (n, 1) := by
  have h : mkF n 1 = fr W (n * W) := fr_eq (by omega) hW (by rw [Int.mul_one])
  rw [← h]
  unfold mkF
  rw [Int.gcd_one]
  simp
theorem fr_zero (hW : 0 < W) : fr W 0 = (0, 1) := by
  have := fr_whole hW 0
  rwa [Int.zero_mul] at this
theorem fr_one (hW : 0 < W) : fr W W = (1, 1) := by
  have := fr_whole hW 1
  rwa [Int.one_mul] at this
theorem fr_co (hW : 0 < W) : Int.gcd (fr W X).1 (fr W X).2 = 1 := mkF_gcd hW
/-- in lowest terms already -/
theorem mkF_self {t b : Int} (h : Int.gcd t b = 1) : mkF t b = (t, b) := by
  unfold mkF
  rw [h]
  simp
theorem fr_lag (hW : 0 < W) (c : Int) : ((fr W X).1 - c * (fr W X).2, (fr W X).2) = fr W (X - c * W) := by
  have p := fr_pos (X := X) hW
  have a := fr_mul (X := X) hW
  have co := fr_co (X := X) hW
  have e := fr_eq (X := X - c * W) (t := (fr W X).1 - c * (fr W X).2) (b := (fr W X).2) p hW (by
    generalize (fr W X).1 = x at *
    generalize (fr W X).2 = x' at *
    grind)
  rw [mkF_self (by rw [Int.gcd_sub_mul_right_left]; exact co)] at e
  exact e
theorem fr_neg (hW : 0 < W) : (-(fr W X).1, (fr W X).2) = fr W (-X) := by
  have p := fr_pos (X := X) hW
  have a := fr_mul (X := X) hW
  have co := fr_co (X := X) hW
  have e := fr_eq (X := -X) (t := -(fr W X).1) (b := (fr W X).2) p hW (by rw [Int.neg_mul, Int.neg_mul, a])
  rw [mkF_self (by rw [Int.neg_gcd]; exact co)] at e
  exact e
theorem fr_sign (hW : 0 < W) : (fr W X).1 < 0 ↔ X < 0 := by
  have h := fr_lt (W := W) (X := X) (Y := 0) hW
  rw [fr_zero hW] at h
  simpa using h
theorem fr_abs (hW : 0 < W) : (if (fr W X).1 < 0 then -(fr W X).1 else (fr W X).1, (fr W X).2) = fr W (if X < 0 then -X else X) := by
  by_cases h : X < 0
  · rw [if_pos h, if_pos ((fr_sign hW).mpr h), fr_neg hW]
  · rw [if_neg h, if_neg (fun z => h ((fr_sign hW).mp z))]
end
theorem gcd_step {a b : Int} : Int.gcd b (a.fmod b) = Int.gcd a b := by
  rw [Int.fmod_def, Int.gcd_sub_mul_left_right, Int.gcd_comm]
theorem gcd_end {a : Int} (h : 0 ≤ a) : (Int.gcd a 0 : Int) = a := by
  rw [Int.gcd_zero]
  omega
end Du

/-! Rows by whoever must be chosen soonest: the plain functions. -/
namespace Du
abbrev Rng := List (List (Int × Int))
def lo (R : Rng) (t i : Nat) : Int := ((R.getD t []).getD i (0, 0)).1
def hi (R : Rng) (t i : Nat) : Int := ((R.getD t []).getD i (0, 0)).2
def mustIn (who : Nat) (c : Int) : Rng → Nat → Nat
  | [], k => k
  | r :: rs, k => if c < (r.getD who (0, 0)).1 then k else mustIn who c rs (k + 1)
def mustBy (R : Rng) (at_ who : Nat) (c : Int) : Nat := mustIn who c (R.drop at_) at_
theorem getD_at {α : Type} {l : List α} {i : Nat} (h : i < l.length) (d : α) : l.getD i d = l[i] := by
  rw [List.getD_eq_getElem?_getD, List.getElem?_eq_getElem h]
  rfl
theorem must_step {R : Rng} {t i : Nat} {c : Int} (h : t < R.length) : mustIn i c (R.drop t) t = if c < lo R t i then t else mustIn i c (R.drop (t + 1)) (t + 1) := by
  rw [List.drop_eq_getElem_cons h]
  unfold lo
  rw [getD_at h]
  rfl
theorem must_end {R : Rng} {t i : Nat} {c : Int} (h : R.length ≤ t) : mustIn i c (R.drop t) t = t := by
  rw [List.drop_eq_nil_of_le h]
  rfl
def soonUp (R : Rng) (at_ : Nat) (cs : List Int) (f : Option (Nat × Nat)) (who : Nat) : Option (Nat × Nat) :=
  if cs.getD who 0 + 1 ≤ hi R at_ who then
    (match f with
    | none => some (mustBy R at_ who (cs.getD who 0), who)
    | some p => if mustBy R at_ who (cs.getD who 0) < p.1 then some (mustBy R at_ who (cs.getD who 0), who) else some p)
  else f
def soon (R : Rng) (at_ : Nat) (cs : List Int) (n : Nat) : Option (Nat × Nat) := (List.range n).foldl (soonUp R at_ cs) none
def farB (R : Rng) (at_ : Nat) (cs : List Int) : Bool := (List.range cs.length).any fun who => decide (hi R at_ who < cs.getD who 0)
def fewB (R : Rng) (at_ : Nat) (cs : List Int) : Bool := (List.range cs.length).any fun who => decide (cs.getD who 0 < lo R at_ who)
def ofr (R : Rng) (at_ : Nat) (md : List (Nat × Int)) : Nat → Nat
  | 0 => 0
  | b + 1 => if (md.getD b (0, 0)).2 ≤ lo R at_ (md.getD b (0, 0)).1 then ofr R at_ md b else b + 1
/-- one turn: none where it cannot go on -/
inductive Out where
  | over (a b : Int) | under (a b : Int) | go (cs : List Int) (md : List (Nat × Int))
def turn (R : Rng) (first : Int) (at_ : Nat) (cs : List Int) (md : List (Nat × Int)) : Out :=
  if farB R at_ cs then .over (first + at_) (first + at_) else
    match soon R at_ cs cs.length with
    | none => .under first (first + at_)
    | some p =>
      if fewB R at_ (cs.set p.2 (cs.getD p.2 0 + 1)) then .over (first + ofr R at_ (md ++ [(p.2, cs.getD p.2 0 + 1)]) at_) (first + at_)
      else .go (cs.set p.2 (cs.getD p.2 0 + 1)) (md ++ [(p.2, cs.getD p.2 0 + 1)])
def turns (R : Rng) (first : Int) : Nat → Nat → List Int → List (Nat × Int) → Out
  | 0, _, cs, md => .go cs md
  | k + 1, at_, cs, md => match turn R first at_ cs md with
    | .go cs' md' => turns R first k (at_ + 1) cs' md'
    | o => o
def dealtO (R : Rng) (first : Int) (start : List Int) : Out :=
  if fewB R 0 start || farB R 0 start then .over first first else turns R first (R.length - 1) 1 start []
end Du
namespace Du
theorem soonUp_lt {R : Rng} {t : Nat} {cs : List Int} {f : Option (Nat × Nat)} {k n : Nat} (hf : ∀ p, f = some p → p.2 < n) (hk : k < n) : ∀ p, soonUp R t cs f k = some p → p.2 < n := by
  intro p h
  unfold soonUp at h
  split at h
  · cases f with
    | none =>
      cases h
      exact hk
    | some q =>
      have h' : (if mustBy R t k (cs.getD k 0) < q.1 then some (mustBy R t k (cs.getD k 0), k) else some q) = some p := h
      split at h'
      · cases h'
        exact hk
      · cases h'
        exact hf _ rfl
  · exact hf p h
theorem soon_lt {R : Rng} {t : Nat} {cs : List Int} {n : Nat} : ∀ m, m ≤ n → ∀ p, (List.range m).foldl (soonUp R t cs) none = some p → p.2 < n
  | 0, _, p, h => by cases h
  | m + 1, hm, p, h => by
    rw [List.range_succ, List.foldl_append] at h
    exact soonUp_lt (soon_lt m (by omega)) (by omega) p h
end Du

/-! Sorting by halves put together; each once; the candidates. -/
namespace Du
def togZ : List Int → List Int → List Int
  | [], b => b
  | a :: as, b => b.takeWhile (fun x => decide (x < a)) ++ a :: togZ as (b.dropWhile (fun x => decide (x < a)))
theorem tog_cons {a : Int} {as b : List Int} : togZ (a :: as) b = b.takeWhile (fun x => decide (x < a)) ++ a :: togZ as (b.dropWhile (fun x => decide (x < a))) := rfl
theorem tog_lt {a x : Int} {as b : List Int} (h : x < a) : togZ (a :: as) (x :: b) = x :: togZ (a :: as) b := by
  unfold togZ
  simp [h]
theorem tog_ge {a : Int} {as b : List Int} (h : ∀ x, b.head? = some x → ¬ x < a) : togZ (a :: as) b = a :: togZ as b := by
  rw [tog_cons]
  cases b with
  | nil => rfl
  | cons x b =>
    have := h x rfl
    rw [List.takeWhile_cons_of_neg (by simpa using this), List.dropWhile_cons_of_neg (by simpa using this)]
    rfl
def sortZ : Nat → List Int → List Int
  | 0, xs => xs
  | n + 1, xs => if xs.length < 2 then xs else togZ (sortZ n (xs.take (xs.length / 2))) (sortZ n (xs.drop (xs.length / 2)))
def riseUp (acc : List Int) (x : Int) : List Int := if acc = [] ∨ acc.getLast? ≠ some x then acc ++ [x] else acc
def riseZ (xs : List Int) : List Int := xs.foldl riseUp []
def insZ (cs : List Int) (x : Int) : List Int := if x ∈ cs then cs else cs ++ [x]
def candZ (W : Int) (Xs : List Int) : List Int := Xs.foldl (fun cs X => insZ (insZ cs (X % W)) (W - X % W)) [0, W]
/-! what they hold, how they stand -/
theorem tog_len : ∀ (a b : List Int), (togZ a b).length = a.length + b.length
  | [], b => by simp [togZ]
  | a :: as, b => by
    unfold togZ
    rw [List.length_append, List.length_cons, tog_len as, List.length_cons]
    have : (b.takeWhile fun x => decide (x < a)).length + (b.dropWhile fun x => decide (x < a)).length = b.length := by
      rw [← List.length_append, List.takeWhile_append_dropWhile]
    omega
theorem tog_mem : ∀ (a b : List Int) (x : Int), x ∈ togZ a b ↔ x ∈ a ∨ x ∈ b
  | [], b, x => by simp [togZ]
  | a :: as, b, x => by
    unfold togZ
    rw [List.mem_append, List.mem_cons, tog_mem as, List.mem_cons]
    have h : x ∈ b ↔ x ∈ b.takeWhile (fun x => decide (x < a)) ∨ x ∈ b.dropWhile (fun x => decide (x < a)) := by
      rw [← List.mem_append, List.takeWhile_append_dropWhile]
    rw [h]
    grind
theorem tog_sorted : ∀ (a b : List Int), a.Pairwise (· ≤ ·) → b.Pairwise (· ≤ ·) → (togZ a b).Pairwise (· ≤ ·)
  | [], b, _, hb => by simpa [togZ] using hb
  | a :: as, b, ha, hb => by
    unfold togZ
    have hsplit : b = b.takeWhile (fun x => decide (x < a)) ++ b.dropWhile (fun x => decide (x < a)) := (List.takeWhile_append_dropWhile ..).symm
    have hb2 := hb
    rw [hsplit, List.pairwise_append] at hb2
    obtain ⟨h1, h2, h3⟩ := hb2
    obtain ⟨ha1, ha2⟩ := List.pairwise_cons.mp ha
    have hl : ∀ x ∈ b.takeWhile (fun x => decide (x < a)), x < a := fun x hx => by
      have := List.all_eq_true.mp (List.all_takeWhile (p := fun x => decide (x < a)) (l := b)) x hx
      exact of_decide_eq_true this
    have hg : ∀ x ∈ b.dropWhile (fun x => decide (x < a)), a ≤ x := fun x hx => by
      cases hd : b.dropWhile (fun x => decide (x < a)) with
      | nil =>
        rw [hd] at hx
        cases hx
      | cons y ys =>
        have hy : ¬ y < a := by
          have := List.head?_dropWhile_not (fun x => decide (x < a)) b
          rw [hd] at this
          simpa using this
        rw [hd] at hx h2
        rcases List.mem_cons.mp hx with e | e
        · omega
        · have := (List.pairwise_cons.mp h2).1 x e
          omega
    rw [List.pairwise_append]
    refine ⟨h1, ?_, ?_⟩
    · rw [List.pairwise_cons]
      refine ⟨fun x hx => ?_, tog_sorted as _ ha2 h2⟩
      rcases (tog_mem ..).mp hx with e | e
      · exact ha1 x e
      · exact hg x e
    · intro x hx y hy
      have := hl x hx
      rcases List.mem_cons.mp hy with e | e
      · omega
      · rcases (tog_mem ..).mp e with e | e
        · have := ha1 y e
          omega
        · exact h3 x hx y e
theorem sort_len : ∀ (n : Nat) (xs : List Int), (sortZ n xs).length = xs.length
  | 0, _ => rfl
  | n + 1, xs => by
    unfold sortZ
    split
    · rfl
    · rw [tog_len, sort_len n, sort_len n, List.length_take, List.length_drop]
      omega
theorem sort_mem : ∀ (n : Nat) (xs : List Int) (x : Int), x ∈ sortZ n xs ↔ x ∈ xs
  | 0, _, _ => Iff.rfl
  | n + 1, xs, x => by
    unfold sortZ
    split
    · rfl
    · rw [tog_mem, sort_mem n, sort_mem n, ← List.mem_append, List.take_append_drop]
theorem sort_sorted : ∀ (n : Nat) (xs : List Int), xs.length ≤ 2 ^ n → (sortZ n xs).Pairwise (· ≤ ·)
  | 0, xs, h => by
    match xs, h with
    | [], _ => exact List.Pairwise.nil
    | [x], _ => exact List.pairwise_singleton ..
    | _ :: _ :: r, h => simp at h
  | n + 1, xs, h => by
    unfold sortZ
    split
    · match xs with
      | [] => exact List.Pairwise.nil
      | [x] => exact List.pairwise_singleton ..
      | _ :: _ :: r => rename_i q; simp at q; omega
    · rw [Nat.pow_succ] at h
      refine tog_sorted _ _ (sort_sorted n _ ?_) (sort_sorted n _ ?_)
      · rw [List.length_take]
        omega
      · rw [List.length_drop]
        omega
theorem rise_fold : ∀ (xs acc : List Int), (∀ x, x ∈ xs.foldl riseUp acc ↔ x ∈ acc ∨ x ∈ xs) ∧ ((acc ++ xs).Pairwise (· ≤ ·) → (xs.foldl riseUp acc).Pairwise (· ≤ ·)) ∧ (xs.foldl riseUp acc).length ≤ acc.length + xs.length
  | [], acc => by simp
  | x :: xs, acc => by
    rw [List.foldl_cons]
    obtain ⟨h1, h2, h3⟩ := rise_fold xs (riseUp acc x)
    have hm : ∀ y, y ∈ riseUp acc x ↔ y ∈ acc ∨ y = x := fun y => by
      unfold riseUp
      split
      · simp
      · rename_i h
        have hx : acc.getLast? = some x := by
          by_cases q : acc.getLast? = some x
          · exact q
          · exact absurd (.inr q) h
        have := List.mem_of_getLast? hx
        constructor
        · exact fun z => .inl z
        · rintro (z | z)
          · exact z
          · rw [z]
            exact this
    refine ⟨fun y => ?_, fun h => h2 ?_, ?_⟩
    · rw [h1, hm, List.mem_cons]
      grind
    · unfold riseUp
      split
      · simpa using h
      · exact h.sublist (List.Sublist.append_left (List.sublist_cons_self ..) _)
    · have : (riseUp acc x).length ≤ acc.length + 1 := by
        unfold riseUp
        split <;> simp
      rw [List.length_cons]
      omega
theorem rise_mem {xs : List Int} {x : Int} : x ∈ riseZ xs ↔ x ∈ xs := by
  have := (rise_fold xs []).1 x
  simpa [riseZ] using this
theorem rise_sorted {xs : List Int} (h : xs.Pairwise (· ≤ ·)) : (riseZ xs).Pairwise (· ≤ ·) := (rise_fold xs []).2.1 (by simpa using h)
theorem rise_len {xs : List Int} : (riseZ xs).length ≤ xs.length := by
  have := (rise_fold xs []).2.2
  simpa [riseZ] using this
theorem ins_mem {cs : List Int} {x y : Int} : y ∈ insZ cs x ↔ y ∈ cs ∨ y = x := by
  unfold insZ
  split
  · grind
  · simp
theorem cand_fold (W : Int) : ∀ (Xs cs : List Int), (∀ y, y ∈ Xs.foldl (fun cs X => insZ (insZ cs (X % W)) (W - X % W)) cs ↔ y ∈ cs ∨ ∃ X ∈ Xs, y = X % W ∨ y = W - X % W) ∧ (Xs.foldl (fun cs X => insZ (insZ cs (X % W)) (W - X % W)) cs).length ≤ cs.length + 2 * Xs.length
  | [], cs => by simp
  | X :: Xs, cs => by
    rw [List.foldl_cons]
    obtain ⟨h1, h2⟩ := cand_fold W Xs (insZ (insZ cs (X % W)) (W - X % W))
    constructor
    · intro y
      rw [h1, ins_mem, ins_mem]
      simp only [List.mem_cons, exists_eq_or_imp]
      grind
    · have l : ∀ (c : List Int) (x : Int), (insZ c x).length ≤ c.length + 1 := fun c x => by
        unfold insZ
        split <;> simp
      have := l cs (X % W)
      have := l (insZ cs (X % W)) (W - X % W)
      rw [List.length_cons]
      omega
theorem cand_mem {W : Int} {Xs : List Int} {y : Int} : y ∈ candZ W Xs ↔ y = 0 ∨ y = W ∨ ∃ X ∈ Xs, y = X % W ∨ y = W - X % W := by
  rw [candZ, (cand_fold W Xs [0, W]).1]
  simp [or_assoc]
theorem cand_len {W : Int} {Xs : List Int} : (candZ W Xs).length ≤ 2 + 2 * Xs.length := (cand_fold W Xs [0, W]).2
end Du

namespace Du
open PySem PySem.Spec PyProof.Rows L2
/-! ### dicts whose keys are tuples of ints that may stand in the written part -/
abbrev DK := List (List Int × Addr × Value)
def DcP (P : Program) (w : World) (a : Addr) (xs : DK) (h : Heap) : Prop := (a == sysModules) = false ∧ ∃ o es ep, h.get? a = some o ∧ o.ExactDict ∧ o.data = .dict es ep ∧ es.toList = xs.map (entryOfKey (tupleKind (intKind P w)))
def DcO (P : Program) (w : World) (a : Addr) (xs : DK) : HO := .ext (DcP P w a xs)
theorem dc_ok {P : Program} {w : World} {a : Addr} {xs : DK} {H : Hp} {h : Heap} (d : DcP P w a xs h) : ObjOk P w H h a (DcO P w a xs) := by
  refine ⟨d, ?_, fun h1 h2 e k => ?_⟩
  · obtain ⟨_, o, _, _, e, _⟩ := d
    exact ⟨o, e⟩
  · obtain ⟨q, o, es, ep, e1, e2, e3, e4⟩ := e
    exact ⟨q, o, es, ep, k o e1, e2, e3, e4⟩
theorem dc_at {P : Program} {w : World} {a : Addr} {xs : DK} {H : Hp} {h : Heap} (hok : HOk P w H h) (e : H a = some (DcO P w a xs)) : DcP P w a xs h := (hok a _ e).1
section
variable {X : Cx} {pins : List (Addr × Obj)} {st : L2.St} {H : Hp} {s : Shared}
theorem items_are {P : Program} {w : World} : ∀ {ns : List Int} {us : List Value}, Vals (ns.map V.int) us → ItemsAre (intKind P w) ns us
  | [], [], _ => .nil
  | n :: ns, u :: us, .cons h t => by
    obtain ⟨tk, rfl⟩ := h
    exact .cons (by simp [intKind, Value.isInt]) (items_are t)
theorem key_is (I : Inv X pins st H s) {p : Addr} {k : List Int} (h : SqT X.K H p (k.map V.int)) : (tupleKind (intKind X.prog X.w)).is s.heap k p := by
  obtain ⟨its, rv, ⟨o, e1, e2, n, e3⟩, _⟩ := I.tuple h
  exact ⟨o, its.toArray, n, e1, e2, e3, items_are rv⟩
/-- the keys stand, each once -/
structure Keyed (K : PySem.W.Frag) (G : Hp) (xs : DK) : Prop where
  at_ : ∀ x ∈ xs, SqT K G x.2.1 (x.1.map V.int)
  nd : (xs.map (·.1)).Nodup
theorem dict_of (I : Inv X pins st H s) {a : Addr} {xs : DK} (e : H a = some (DcO X.prog X.w a xs)) (k : Keyed X.K H xs) : s.heap.DictOfH (tupleKind (intKind X.prog X.w)) a xs := by
  obtain ⟨_, o, es, ep, e1, e2, e3, e4⟩ := dc_at I.hok e
  exact ⟨o, es, ep, e1, e2, e3, e4, fun x hx => key_is I (k.at_ x hx), k.nd⟩
theorem dc_new {P : Program} {w : World} {a : Addr} {xs : DK} {h : Heap} (q : (a == sysModules) = false) (d : h.DictOfH (tupleKind (intKind P w)) a xs) : DcP P w a xs h := by
  obtain ⟨o, es, ep, e1, e2, e3, e4, _⟩ := d
  exact ⟨q, o, es, ep, e1, e2, e3, e4⟩
def rSetX (P : Program) (w : World) (K : PySem.W.Frag) : TSet := fun o i v H Q => ∃ (d p : Addr) (k : List Int) (xs : DK), o = .ref d ∧ i = .ref p ∧ v = .bl true ∧ SqT K H p (k.map V.int) ∧ H d = some (DcO P w d xs) ∧ Keyed K H xs ∧ xs.length < 1000 ∧ Q (upd H d (DcO P w d (storedH xs k p (.bool true))))
theorem set_dct (hu : X.A.units + 1 < cLine) : PSet X (rSetX X.prog X.w X.K) := by
  intro pins s st H o i v ov iv u Q I ro ri rv h
  obtain ⟨d, p, k, xs, rfl, rfl, rfl, hp, hd, hk, hl, q⟩ := h
  obtain rfl : ov = Value.ref d := ro
  obtain rfl : iv = Value.ref p := ri
  obtain rfl : u = Value.bool true := rv
  have nS := (dc_at I.hok hd).1
  refine wpAny_setItem_heap (hsz := Nat.le_of_lt (small1000 (Nat.le_of_lt hl))) (tupleKind_room_in1 hu) (key_is I hp) (dict_of I hd hk) fun h' dd hs => ?_
  have he : ∃ z, h'.get? d = some z := let ⟨z, _, _, e, _⟩ := dd; ⟨z, e⟩
  exact ⟨_, d_write I (by rw [hd]; exact True.intro) hs he (dc_ok (dc_new nS dd)), q⟩
def rListX (P : Program) (w : World) : List V → Hp → VK → Prop := fun vs H Q => ∃ (d : Addr) (xs : DK), vs = [.ref d] ∧ H d = some (DcO P w d xs) ∧ xs.length ≤ 1000 ∧ ∀ l, H l = none → Q (.ref l) (upd H l (.lst (xs.map fun x => .ref x.2.1)))
theorem vals_refs : ∀ xs : DK, Vals (xs.map fun x => V.ref x.2.1) (xs.map fun x => Value.ref x.2.1)
  | [] => .nil
  | _ :: xs => .cons rfl (vals_refs xs)
theorem call_listX (hc : X.calm = true) : CallR X (.type "list") (rListX X.prog X.w) := by
  intro pins s st H vs us Q I r h
  obtain ⟨d, xs, rfl, hd, hl, q⟩ := h
  rw [Vals.ref1 r]
  obtain ⟨nS, o, es, ep, e1, e2, e3, e4⟩ := dc_at I.hok hd
  have hsz : es.size = xs.length := by rw [← Array.length_toList, e4, List.length_map]
  refine PySem.W.kdl_call (PySem.KdlSrc.rawDict (es := es) (ep := ep) nS) (I.ok.hd hc) ⟨o, e1, e2, e3⟩ (by rw [hsz]; exact Nat.le_of_lt (small1000 hl)) fun h' tk acc c kp hn hi => ?_
  have hv : Vals (xs.map fun x => V.ref x.2.1) acc.toList := by
    have key : acc.toList = xs.map fun x => Value.ref x.2.1 := by
      refine List.ext_getElem? fun j => ?_
      obtain ⟨ha, hb⟩ := hi
      rw [Array.getElem?_toList, List.getElem?_map]
      cases hj : acc[j]? with
      | none =>
        have : ¬ j < acc.size := fun z => by rw [Array.getElem?_eq_getElem z] at hj; cases hj
        rw [List.getElem?_eq_none (by omega)]
        rfl
      | some v =>
        obtain ⟨hjl, ev⟩ := hb j v hj
        have hjx : j < xs.length := by omega
        rw [List.getElem?_eq_getElem hjx, ev]
        have q2 : es.toList[j]? = (xs.map (entryOfKey (tupleKind (intKind X.prog X.w))))[j]? := by rw [e4]
        rw [Array.getElem?_toList, Array.getElem?_eq_getElem hjl, List.getElem?_map, List.getElem?_eq_getElem hjx] at q2
        rw [Option.some.inj q2]
        rfl
    rw [key]
    exact vals_refs xs
  refine ⟨.ref _, _, ?_, rfl, q _ (I.hok.fresh (Nat.le_refl _))⟩
  refine I.laid (a := s.heap.objs.size) kp (Nat.le_refl _) ⟨by rw [List.length_map]; exact Nat.le_of_lt (small1000 hl), acc.toList, c, hv, hn⟩
/-- {k1: True, k2: True} -/
def tDispX (P : Program) (w : World) (a1 a2 : Addr) (k1 k2 : List Int) : TE := fun st H Q => ∀ d, H d = none → Q (.ref d) (upd H d (DcO P w d (storedAllH [] [(k1, a1, .bool true), (k2, a2, .bool true)])))
theorem pe_dispX {e1 e2 v1 v2 : Expr} {pos : Pos} {a1 a2 : Addr} {k1 k2 : List Int} (h1 : PE X e1 (tC (.ref a1))) (h2 : PE X e2 (tC (.ref a2))) (g1 : PE X v1 (tC (.bl true))) (g2 : PE X v2 (tC (.bl true)))
    (w1 : ∀ H, SqT X.K H a1 (k1.map V.int)) (w2 : ∀ H, SqT X.K H a2 (k2.map V.int)) (hu : X.A.units < cLine) : PE X (.Dict [some e1, some e2] [v1, v2] pos) (tDispX X.prog X.w a1 a2 k1 k2) := by
  refine ⟨fun pins s st H Q I q => ?_⟩
  have hn := I.hok.fresh (Nat.le_refl s.heap.objs.size)
  have nS : (s.heap.objs.size == sysModules) = false := beq_eq_false_iff_ne.mpr (Ne.symm (Nat.ne_of_lt I.big))
  have I1 := I.laid (a := s.heap.objs.size) (o := DcO X.prog X.w s.heap.objs.size []) (h' := s.heap.push { cls := .type "dict", data := .dict #[] }) (t' := s.toks) (fun _ _ z => Heap.get?_push_of_some _ z) (Nat.le_refl _)
    (dc_ok ⟨nS, _, #[], 0, Heap.get?_push_size _ rfl, ⟨rfl, rfl, rfl⟩, rfl, rfl⟩)
  have hall : ([some e1, some e2] : List (Option Expr)).all (·.isSome) = true := rfl
  rw [arm_eval_Dict, zip_pairTrees [some e1, some e2] [v1, v2] X.env pos hall rfl, dictDisplay_pairs _ (by intro z; cases z) (by show 2 < 17; decide)]
  refine wpAny_bind (wpAny_standAt (wpAny_bind (wpAny_subDictH (knd := tupleKind (intKind X.prog X.w)) hu (by show 2 ≤ 15; decide) ?_)))
  have pp := pps_cons (pos := pos) h1 g1 (pps_cons h2 g2 pps_nil)
  refine thn (pp.run pins _ st _ (fun ps H' => ps = [(V.ref a1, V.bl true), (V.ref a2, V.bl true)] ∧ H' = upd H s.heap.objs.size (DcO X.prog X.w s.heap.objs.size [])) I1 ⟨rfl, rfl⟩) fun ws s2 hw => ?_
  obtain ⟨ps, H2, I2, rel, rfl, rfl⟩ := hw
  have ew : ws = [(Value.ref a1, Value.bool true), (Value.ref a2, Value.bool true)] := by
    cases rel with
    | cons p1 t =>
      cases t with
      | cons p2 t2 =>
        cases t2
        rename_i x y
        obtain ⟨x1, x2⟩ := x
        obtain ⟨y1, y2⟩ := y
        obtain ⟨b1, b2⟩ := p1
        obtain ⟨c1, c2⟩ := p2
        cases b1
        cases b2
        cases c1
        cases c2
        rfl
  subst ew
  refine ⟨[(k1, a1, .bool true), (k2, a2, .bool true)], ⟨rfl, rfl, key_is I2 (w1 _), rfl, rfl, key_is I2 (w2 _), trivial⟩, dict_of I2 upd_same ⟨fun x hx => (by cases hx), List.nodup_nil⟩, fun h' tk dd hs => wpAny_pure ?_⟩
  have he : ∃ z, h'.get? s.heap.objs.size = some z := let ⟨z, _, _, e, _⟩ := dd; ⟨z, e⟩
  have I3 := d_write (t' := tk) I2 (a := s.heap.objs.size) (ob := DcO X.prog X.w s.heap.objs.size (storedAllH [] [(k1, a1, .bool true), (k2, a2, .bool true)])) (by rw [upd_same]; exact True.intro) hs he (dc_ok (dc_new nS dd))
  rw [upd_upd] at I3
  exact ⟨.ref s.heap.objs.size, _, I3, rfl, q _ hn⟩
end
end Du

namespace Du
open PySem PySem.Spec PyProof.Rows L2
def frD (p : Int × Int) : PyData := .tuple [.int p.1, .int p.2]
/-- small enough -/
structure Ok (W X : Int) : Prop where
  pos : 0 < W
  w : W ≤ 10000000
  lo : -1000000000 ≤ X
  hi : X ≤ 1000000000
theorem Ok.p1 {W X : Int} (h : Ok W X) : -(2 ^ 40) < (fr W X).1 ∧ (fr W X).1 < 2 ^ 40 := by
  have := (fr_le (X := X) h.pos).2
  have := h.lo
  have := h.hi
  omega
theorem Ok.p2 {W X : Int} (h : Ok W X) : 0 < (fr W X).2 ∧ (fr W X).2 ≤ 10000000 := by
  have := (fr_le (X := X) h.pos).1
  have := fr_pos (X := X) h.pos
  have := h.w
  omega
def R_common (ds : List PyData) (d : PyData) : Prop := ∃ a b : Int, ds = [.int a, .int b] ∧ d = .int (Int.gcd a b)
def R_made (ds : List PyData) (d : PyData) : Prop := ∃ t b : Int, ds = [.int t, .int b] ∧ 0 < b ∧ b < 2 ^ 60 ∧ d = frD (mkF t b)
def R_plus (ds : List PyData) (d : PyData) : Prop := ∃ W X Y : Int, ds = [frD (fr W X), frD (fr W Y)] ∧ Ok W X ∧ Ok W Y ∧ d = frD (fr W (X + Y))
def R_minus (ds : List PyData) (d : PyData) : Prop := ∃ W X Y : Int, ds = [frD (fr W X), frD (fr W Y)] ∧ Ok W X ∧ Ok W Y ∧ d = frD (fr W (X - Y))
def R_less (ds : List PyData) (d : PyData) : Prop := ∃ W X Y : Int, ds = [frD (fr W X), frD (fr W Y)] ∧ Ok W X ∧ Ok W Y ∧ d = .bool (decide (X < Y))
def R_floor (ds : List PyData) (d : PyData) : Prop := ∃ W X : Int, ds = [frD (fr W X)] ∧ Ok W X ∧ d = .int (X / W)
def R_ceil (ds : List PyData) (d : PyData) : Prop := ∃ W X : Int, ds = [frD (fr W X)] ∧ Ok W X ∧ d = .int (-((-X) / W))
theorem i0 (p : Int × Int) : atI [PyData.int p.1, .int p.2] 0 = some (.int p.1) := rfl
theorem i1 (p : Int × Int) : atI [PyData.int p.1, .int p.2] 1 = some (.int p.2) := rfl
section
variable {P : Program} {w : World} {K : PySem.W.Frag} {mg : Str → Option Value} {base : Heap} {fd : Str → FuncData} {C : Addr}
theorem abs_is (a : Int) : (if a < 0 then -a else a) = (a.natAbs : Int) := by
  split <;> omega
theorem ok_common (T : Tx K mg fd C) : FnOk P w K mg base CX0 1 (He.ga K "common") (fd "common") ["one", "other"] (spR K C R_common) := by
  refine ok_of T.F_common sc_common (fun ds d h => by obtain ⟨a, b, rfl, _⟩ := h; rfl) fun cdv A outer s H E hr ds d h => ?_
  obtain ⟨a, b, rfl, rfl⟩ := h
  refine ⟨_, (pss_cons (ps_set (i := 0) sc_common.nd rfl (.inl rfl) (pe_callB call_abs1 (by rfl) T.n_abs (by decide +kernel) (pa_cons (pv 0) pa_nil)))
    (pss_cons (ps_set (i := 1) sc_common.nd rfl (.inl rfl) (pe_callB call_abs1 (by rfl) T.n_abs (by decide +kernel) (pa_cons (pv 1) pa_nil)))
    (pss_cons (ps_while PassesOwn.never (pt_cmpR op_gt (pv 1) pe_int (nomark _))
    (pss_cons (ps_par (by rfl) sc_common.nd (i := 0) (j := 1) rfl rfl (by decide) rfl rfl (pa_cons (pv 1) (pa_cons (pe_op op_modN (pv 0) (pv 1)) pa_nil)) (by rfl))
    pss_nil))
    (pss_cons (ps_ret (pv 0))
    pss_nil)))), ?_⟩
  refine gs_asg (gd_abs (gd_var)) (gs_asg (gd_abs gd_var) ?_)
  rw [abs_is, abs_is]
  refine gs_while (fun m D => ∃ x y : Nat, D = [.v (.int x), .v (.int y)] ∧ m = y ∧ Int.gcd x y = Int.gcd a b) b.natAbs ⟨a.natAbs, b.natAbs, rfl, rfl, rfl⟩ fun y D1 hI => ?_
  obtain ⟨x, y', rfl, em, e⟩ := hI
  subst em
  refine ⟨_, gb_test (gd_b0 gd_var gd_int), fun hb => ?_, fun hb => ?_⟩
  · have hy : (0 : Int) < y := of_decide_eq_true hb
    refine gs_par (ga_cons gd_var (ga_cons (gd_i gd_var gd_var (by omega)) ga_nil)) (gs_nx ?_)
    have f1 : (0 : Int) ≤ (x : Int).fmod y := Int.fmod_nonneg_of_pos _ hy
    have f2 : (x : Int).fmod y < y := Int.fmod_lt_of_pos _ hy
    refine ⟨((x : Int).fmod y).toNat, by omega, y, ((x : Int).fmod y).toNat, ?_, rfl, ?_⟩
    · rw [Int.toNat_of_nonneg f1] <;> rfl
    · rw [Int.toNat_of_nonneg f1, gcd_step, e]
  · have hy : ¬ (0 : Int) < y := of_decide_eq_false hb
    have y0 : y = 0 := by omega
    subst y0
    refine gs_ret (gr_of gd_var) ?_
    show PyData.int _ = PyData.int _
    rw [← e]
    simp
theorem ok_made (T : Tx K mg fd C) : FnOk P w K mg base CX0 2 (He.ga K "made") (fd "made") ["top", "bottom"] (spR K C R_made) := by
  refine ok_of T.F_made sc_made (fun ds d h => by obtain ⟨a, b, rfl, _⟩ := h; rfl) fun cdv A outer s H E hr ds d h => ?_
  obtain ⟨t, b, rfl, hb, hb2, rfl⟩ := h
  have G_common := ok_common (P := P) (w := w) (base := base) T
  refine ⟨_, (pss_cons (ps_if (pt_cmpR op_eq (pv 1) pe_int (nomark _))
    (pss_cons ps_never
    pss_nil)
    pss_nil)
    (pss_cons (ps_set (i := 2) sc_made.nd rfl (.inl rfl) (pe_call G_common (hr.mono (by decide)) (by rfl) T.m_common T.F_common.kp T.b_common .nil pass0 (pa_cons (pv 0) (pa_cons (pv 1) pa_nil))))
    (pss_cons (ps_if (pt_cmpR op_lt (pv 1) pe_int (nomark _))
    (pss_cons (ps_set (i := 2) sc_made.nd rfl (.inl rfl) (pe_un un_neg (pv 2)))
    pss_nil)
    pss_nil)
    (pss_cons (ps_ret (pe_tup (pa_cons (pe_op op_fdivW (pv 0) (pv 2)) (pa_cons (pe_op op_fdivW (pv 1) (pv 2)) pa_nil))))
    pss_nil)))), ?_⟩
  have g := gcd_pos (t := t) hb
  have g2 : (Int.gcd t b : Int) ≤ b := Int.le_of_dvd hb (Int.gcd_dvd_right ..)
  refine gs_if (gb_test (gd_eqI gd_var gd_int)) (fun h => absurd (of_decide_eq_true h) (by omega)) (fun _ => gs_nx ?_)
  refine gs_asg (gd_call (ga_cons gd_var (ga_cons gd_var ga_nil)) ⟨t, b, rfl, rfl⟩) ?_
  refine gs_if (gb_test (gd_b0 gd_var gd_int)) (fun h => absurd (of_decide_eq_true h) (by omega)) (fun _ => gs_nx ?_)
  exact gs_ret (gr_of (gd_tup (ga_cons (gd_i gd_var gd_var (cdiv g (by omega))) (ga_cons (gd_i gd_var gd_var (cdiv g (by omega))) ga_nil)))) rfl
theorem ok_plus (T : Tx K mg fd C) : FnOk P w K mg base CX0 3 (He.ga K "plus") (fd "plus") ["one", "other"] (spR K C R_plus) := by
  refine ok_of T.F_plus sc_plus (fun ds d h => by obtain ⟨W, X, Y, rfl, _⟩ := h; rfl) fun cdv A outer s H E hr ds d h => ?_
  obtain ⟨W, X, Y, rfl, hX, hY, rfl⟩ := h
  have G_made := ok_made (P := P) (w := w) (base := base) T
  refine ⟨_, (pss_cons (ps_ret (pe_call G_made (hr.mono (by decide)) (by rfl) T.m_made T.F_made.kp T.b_made .nil pass0 (pa_cons (pe_op op_add (pe_op op_mulW (pe_ix (ix_tupK K) (pv 0) pe_int (fun _ _ => rfl)) (pe_ix (ix_tupK K) (pv 1) pe_int (fun _ _ => rfl))) (pe_op op_mulW (pe_ix (ix_tupK K) (pv 1) pe_int (fun _ _ => rfl)) (pe_ix (ix_tupK K) (pv 0) pe_int (fun _ _ => rfl)))) (pa_cons (pe_op op_mulW (pe_ix (ix_tupK K) (pv 0) pe_int (fun _ _ => rfl)) (pe_ix (ix_tupK K) (pv 1) pe_int (fun _ _ => rfl))) pa_nil))))
    pss_nil), ?_⟩
  have x1 := hX.p1
  have x2 := hX.p2
  have y1 := hY.p1
  have y2 := hY.p2
  refine gs_ret (gr_of (gd_call (ga_cons (gd_i0 (gd_i (gd_ixT gd_var gd_int (i0 _)) (gd_ixT gd_var gd_int (i1 _)) (cmul (by omega) (by omega))) (gd_i (gd_ixT gd_var gd_int (i0 _)) (gd_ixT gd_var gd_int (i1 _)) (cmul (by omega) (by omega)))) (ga_cons (gd_i (gd_ixT gd_var gd_int (i1 _)) (gd_ixT gd_var gd_int (i1 _)) (cmul (by omega) (by omega))) ga_nil)) ⟨_, _, rfl, Int.mul_pos x2.1 y2.1, ?_, rfl⟩)) ?_
  · have : (fr W X).2 * (fr W Y).2 ≤ 10000000 * 10000000 := Int.mul_le_mul x2.2 y2.2 (by omega) (by omega)
    omega
  · show frD _ = frD _
    rw [fr_add hX.pos]
theorem ok_minus (T : Tx K mg fd C) : FnOk P w K mg base CX0 3 (He.ga K "minus") (fd "minus") ["one", "other"] (spR K C R_minus) := by
  refine ok_of T.F_minus sc_minus (fun ds d h => by obtain ⟨W, X, Y, rfl, _⟩ := h; rfl) fun cdv A outer s H E hr ds d h => ?_
  obtain ⟨W, X, Y, rfl, hX, hY, rfl⟩ := h
  have G_made := ok_made (P := P) (w := w) (base := base) T
  refine ⟨_, (pss_cons (ps_ret (pe_call G_made (hr.mono (by decide)) (by rfl) T.m_made T.F_made.kp T.b_made .nil pass0 (pa_cons (pe_op op_sub (pe_op op_mulW (pe_ix (ix_tupK K) (pv 0) pe_int (fun _ _ => rfl)) (pe_ix (ix_tupK K) (pv 1) pe_int (fun _ _ => rfl))) (pe_op op_mulW (pe_ix (ix_tupK K) (pv 1) pe_int (fun _ _ => rfl)) (pe_ix (ix_tupK K) (pv 0) pe_int (fun _ _ => rfl)))) (pa_cons (pe_op op_mulW (pe_ix (ix_tupK K) (pv 0) pe_int (fun _ _ => rfl)) (pe_ix (ix_tupK K) (pv 1) pe_int (fun _ _ => rfl))) pa_nil))))
    pss_nil), ?_⟩
  have x1 := hX.p1
  have x2 := hX.p2
  have y1 := hY.p1
  have y2 := hY.p2
  refine gs_ret (gr_of (gd_call (ga_cons (gd_i0 (gd_i (gd_ixT gd_var gd_int (i0 _)) (gd_ixT gd_var gd_int (i1 _)) (cmul (by omega) (by omega))) (gd_i (gd_ixT gd_var gd_int (i0 _)) (gd_ixT gd_var gd_int (i1 _)) (cmul (by omega) (by omega)))) (ga_cons (gd_i (gd_ixT gd_var gd_int (i1 _)) (gd_ixT gd_var gd_int (i1 _)) (cmul (by omega) (by omega))) ga_nil)) ⟨_, _, rfl, Int.mul_pos x2.1 y2.1, ?_, rfl⟩)) ?_
  · have : (fr W X).2 * (fr W Y).2 ≤ 10000000 * 10000000 := Int.mul_le_mul x2.2 y2.2 (by omega) (by omega)
    omega
  · show frD _ = frD _
    rw [fr_sub hX.pos]
theorem ok_less (T : Tx K mg fd C) : FnOk P w K mg base CX0 1 (He.ga K "less") (fd "less") ["one", "other"] (spR K C R_less) := by
  refine ok_of T.F_less sc_less (fun ds d h => by obtain ⟨W, X, Y, rfl, _⟩ := h; rfl) fun cdv A outer s H E hr ds d h => ?_
  obtain ⟨W, X, Y, rfl, hX, hY, rfl⟩ := h
  refine ⟨_, (pss_cons (ps_ret (pe_cmpR op_lt (pe_op op_mulW (pe_ix (ix_tupK K) (pv 0) pe_int (fun _ _ => rfl)) (pe_ix (ix_tupK K) (pv 1) pe_int (fun _ _ => rfl))) (pe_op op_mulW (pe_ix (ix_tupK K) (pv 1) pe_int (fun _ _ => rfl)) (pe_ix (ix_tupK K) (pv 0) pe_int (fun _ _ => rfl))) (nomark _)))
    pss_nil), ?_⟩
  have x1 := hX.p1
  have x2 := hX.p2
  have y1 := hY.p1
  have y2 := hY.p2
  refine gs_ret (gr_of (gd_b0 (gd_i (gd_ixT gd_var gd_int (i0 _)) (gd_ixT gd_var gd_int (i1 _)) (cmul (by omega) (by omega))) (gd_i (gd_ixT gd_var gd_int (i0 _)) (gd_ixT gd_var gd_int (i1 _)) (cmul (by omega) (by omega))))) ?_
  show PyData.bool _ = PyData.bool _
  exact congrArg PyData.bool (decide_eq_decide.mpr (fr_lt hX.pos))
theorem ok_floor_of (T : Tx K mg fd C) : FnOk P w K mg base CX0 1 (He.ga K "floor_of") (fd "floor_of") ["one"] (spR K C R_floor) := by
  refine ok_of T.F_floor_of sc_floor_of (fun ds d h => by obtain ⟨W, X, rfl, _⟩ := h; rfl) fun cdv A outer s H E hr ds d h => ?_
  obtain ⟨W, X, rfl, hX, rfl⟩ := h
  refine ⟨_, (pss_cons (ps_ret (pe_op op_fdivW (pe_ix (ix_tupK K) (pv 0) pe_int (fun _ _ => rfl)) (pe_ix (ix_tupK K) (pv 0) pe_int (fun _ _ => rfl))))
    pss_nil), ?_⟩
  have x2 := hX.p2
  refine gs_ret (gr_of (gd_i (gd_ixT gd_var gd_int (i0 _)) (gd_ixT gd_var gd_int (i1 _)) (cdiv (by omega) (by omega)))) ?_
  show PyData.int _ = PyData.int _
  rw [fr_div hX.pos]
theorem ok_ceiling_of (T : Tx K mg fd C) : FnOk P w K mg base CX0 1 (He.ga K "ceiling_of") (fd "ceiling_of") ["one"] (spR K C R_ceil) := by
  refine ok_of T.F_ceiling_of sc_ceiling_of (fun ds d h => by obtain ⟨W, X, rfl, _⟩ := h; rfl) fun cdv A outer s H E hr ds d h => ?_
  obtain ⟨W, X, rfl, hX, rfl⟩ := h
  refine ⟨_, (pss_cons (ps_ret (pe_un un_neg (pe_op op_fdivW (pe_un un_neg (pe_ix (ix_tupK K) (pv 0) pe_int (fun _ _ => rfl))) (pe_ix (ix_tupK K) (pv 0) pe_int (fun _ _ => rfl)))))
    pss_nil), ?_⟩
  have x2 := hX.p2
  refine gs_ret (gr_of (gd_un (gd_i (gd_un (gd_ixT gd_var gd_int (i0 _))) (gd_ixT gd_var gd_int (i1 _)) (cdiv (by omega) (by omega))))) ?_
  show PyData.int _ = PyData.int _
  rw [fr_neg_div hX.pos]
end
end Du

namespace Du
open PySem PySem.Spec PyProof.Rows L2
/-- the least and the greatest count, of a bound M / W and a due X / W -/
def lowZ (W M : Int) (o : Bool) (X : Int) : Int := if o then (if (X - M) / W + 1 > 0 then (X - M) / W + 1 else 0) else (if -((-(X - M)) / W) > 0 then -((-(X - M)) / W) else 0)
def highZ (W M : Int) (o : Bool) (X : Int) : Int := if o then (if -((-(X + M)) / W) - 1 > 0 then -((-(X + M)) / W) - 1 else 0) else (X + M) / W
def bndD (W M : Int) (o : Bool) : PyData := .tuple [frD (fr W M), .bool o]
def R_low (ds : List PyData) (d : PyData) : Prop := ∃ (W M X : Int) (o : Bool), ds = [bndD W M o, frD (fr W X)] ∧ Ok W X ∧ Ok W M ∧ Ok W (X - M) ∧ d = .int (lowZ W M o X)
def R_high (ds : List PyData) (d : PyData) : Prop := ∃ (W M X : Int) (o : Bool), ds = [bndD W M o, frD (fr W X)] ∧ Ok W X ∧ Ok W M ∧ Ok W (X + M) ∧ d = .int (highZ W M o X)
theorem j0 (a b : PyData) : atI [a, b] 0 = some a := rfl
theorem j1 (a b : PyData) : atI [a, b] 1 = some b := rfl
/-- dues by turns, ranges by turns -/
def rowD (W : Int) (r : List Int) : PyData := .list (r.map fun X => frD (fr W X))
def tabD (W : Int) (T : List (List Int)) : PyData := .list (T.map (rowD W))
def rngD (R : List (List (Int × Int))) : PyData := .list (R.map fun r => .list (r.map frD))
def ranges (W M : Int) (o : Bool) (T : List (List Int)) : List (List (Int × Int)) := T.map fun r => r.map fun X => (lowZ W M o X, highZ W M o X)
/-- all of a table is small enough -/
structure OkT (W M : Int) (T : List (List Int)) : Prop where
  hW : 0 < W ∧ W ≤ 10000000
  hM : 0 ≤ M ∧ M ≤ 100000000
  hT : ∀ r ∈ T, ∀ X ∈ r, 0 ≤ X ∧ X ≤ 100000000
  l : T.length ≤ 100
  n : ∀ r ∈ T, r.length ≤ 100
def R_ranges (ds : List PyData) (d : PyData) : Prop := ∃ (W M : Int) (o : Bool) (k : PyData) (T : List (List Int)), ds = [.dict [(k, tabD W T)], bndD W M o] ∧ OkT W M T ∧ d = rngD (ranges W M o T)
section
variable {P : Program} {w : World} {K : PySem.W.Frag} {mg : Str → Option Value} {base : Heap} {fd : Str → FuncData} {C : Addr}
theorem ok_low_of (T : Tx K mg fd C) : FnOk P w K mg base CX0 4 (He.ga K "low_of") (fd "low_of") ["bound", "due"] (spR K C R_low) := by
  refine ok_of T.F_low_of sc_low_of (fun ds d h => by obtain ⟨W, M, X, o, rfl, _⟩ := h; rfl) fun cdv A outer s H E hr ds d h => ?_
  obtain ⟨W, M, X, o, rfl, hX, hM, hD, rfl⟩ := h
  have G_minus := ok_minus (P := P) (w := w) (base := base) T
  have G_floor_of := ok_floor_of (P := P) (w := w) (base := base) T
  have G_ceiling_of := ok_ceiling_of (P := P) (w := w) (base := base) T
  refine ⟨_, (pss_cons (ps_if (pt_val (pe_ix (ix_tupK K) (pv 0) pe_int (fun _ _ => rfl)))
    (pss_cons (ps_ret (pe_callB (call_maxT rfl) (by rfl) T.n_max (by decide +kernel) (pa_cons pe_int (pa_cons (pe_op op_add (pe_call G_floor_of (hr.mono (by decide)) (by rfl) T.m_floor_of T.F_floor_of.kp T.b_floor_of .nil pass0 (pa_cons (pe_call G_minus (hr.mono (by decide)) (by rfl) T.m_minus T.F_minus.kp T.b_minus .nil pass0 (pa_cons (pv 1) (pa_cons (pe_ix (ix_tupK K) (pv 0) pe_int (fun _ _ => rfl)) pa_nil))) pa_nil)) pe_int) pa_nil))))
    pss_nil)
    pss_nil)
    (pss_cons (ps_ret (pe_callB (call_maxT rfl) (by rfl) T.n_max (by decide +kernel) (pa_cons pe_int (pa_cons (pe_call G_ceiling_of (hr.mono (by decide)) (by rfl) T.m_ceiling_of T.F_ceiling_of.kp T.b_ceiling_of .nil pass0 (pa_cons (pe_call G_minus (hr.mono (by decide)) (by rfl) T.m_minus T.F_minus.kp T.b_minus .nil pass0 (pa_cons (pv 1) (pa_cons (pe_ix (ix_tupK K) (pv 0) pe_int (fun _ _ => rfl)) pa_nil))) pa_nil)) pa_nil))))
    pss_nil)), ?_⟩
  have gm := gd_call (K := K) (C := C) (D := [.v (bndD W M o), .v (frD (fr W X))]) (E := E0) (ga_cons (gd_var (k := 1)) (ga_cons (gd_ixT (gd_var (k := 0)) gd_int (j0 _ _)) ga_nil)) (R := R_minus) ⟨W, X, M, rfl, hX, hM, rfl⟩
  refine gs_if (gb_val (gd_ixT gd_var gd_int (j1 _ _))) (fun h => ?_) (fun h => gs_nx ?_)
  · subst h
    exact gs_ret (gr_of (gd_max2 gd_int (gd_i0 (gd_call (ga_cons gm ga_nil) ⟨W, _, rfl, hD, rfl⟩) gd_int))) rfl
  · subst h
    exact gs_ret (gr_of (gd_max2 gd_int (gd_call (ga_cons gm ga_nil) ⟨W, _, rfl, hD, rfl⟩))) rfl
theorem ok_high_of (T : Tx K mg fd C) : FnOk P w K mg base CX0 4 (He.ga K "high_of") (fd "high_of") ["bound", "due"] (spR K C R_high) := by
  refine ok_of T.F_high_of sc_high_of (fun ds d h => by obtain ⟨W, M, X, o, rfl, _⟩ := h; rfl) fun cdv A outer s H E hr ds d h => ?_
  obtain ⟨W, M, X, o, rfl, hX, hM, hD, rfl⟩ := h
  have G_plus := ok_plus (P := P) (w := w) (base := base) T
  have G_floor_of := ok_floor_of (P := P) (w := w) (base := base) T
  have G_ceiling_of := ok_ceiling_of (P := P) (w := w) (base := base) T
  refine ⟨_, (pss_cons (ps_if (pt_val (pe_ix (ix_tupK K) (pv 0) pe_int (fun _ _ => rfl)))
    (pss_cons (ps_ret (pe_callB (call_maxT rfl) (by rfl) T.n_max (by decide +kernel) (pa_cons pe_int (pa_cons (pe_op op_sub (pe_call G_ceiling_of (hr.mono (by decide)) (by rfl) T.m_ceiling_of T.F_ceiling_of.kp T.b_ceiling_of .nil pass0 (pa_cons (pe_call G_plus (hr.mono (by decide)) (by rfl) T.m_plus T.F_plus.kp T.b_plus .nil pass0 (pa_cons (pv 1) (pa_cons (pe_ix (ix_tupK K) (pv 0) pe_int (fun _ _ => rfl)) pa_nil))) pa_nil)) pe_int) pa_nil))))
    pss_nil)
    pss_nil)
    (pss_cons (ps_ret (pe_call G_floor_of (hr.mono (by decide)) (by rfl) T.m_floor_of T.F_floor_of.kp T.b_floor_of .nil pass0 (pa_cons (pe_call G_plus (hr.mono (by decide)) (by rfl) T.m_plus T.F_plus.kp T.b_plus .nil pass0 (pa_cons (pv 1) (pa_cons (pe_ix (ix_tupK K) (pv 0) pe_int (fun _ _ => rfl)) pa_nil))) pa_nil)))
    pss_nil)), ?_⟩
  have gm := gd_call (K := K) (C := C) (D := [.v (bndD W M o), .v (frD (fr W X))]) (E := E0) (ga_cons (gd_var (k := 1)) (ga_cons (gd_ixT (gd_var (k := 0)) gd_int (j0 _ _)) ga_nil)) (R := R_plus) ⟨W, X, M, rfl, hX, hM, rfl⟩
  refine gs_if (gb_val (gd_ixT gd_var gd_int (j1 _ _))) (fun h => ?_) (fun h => gs_nx ?_)
  · subst h
    exact gs_ret (gr_of (gd_max2 gd_int (gd_i0 (gd_call (ga_cons gm ga_nil) ⟨W, _, rfl, hD, rfl⟩) gd_int))) rfl
  · subst h
    exact gs_ret (gr_of (gd_call (ga_cons gm ga_nil) ⟨W, _, rfl, hD, rfl⟩)) rfl
theorem OkT.ok {W M : Int} {T : List (List Int)} (h : OkT W M T) : Ok W M := ⟨h.hW.1, h.hW.2, by have := h.hM; omega, by have := h.hM; omega⟩
theorem ok_ranges (T : Tx K mg fd C) : FnOk P w K mg base CX0 5 (He.ga K "ranges_by_turns") (fd "ranges_by_turns") ["plan", "bound"] (spR K C R_ranges) := by
  refine ok_of T.F_ranges_by_turns sc_ranges_by_turns (fun ds d h => by obtain ⟨W, M, o, k, T, rfl, _⟩ := h; rfl) fun cdv A outer s H E hr ds d h => ?_
  obtain ⟨W, M, o, k, Tb, rfl, hT, rfl⟩ := h
  have G_low_of := ok_low_of (P := P) (w := w) (base := base) T
  have G_high_of := ok_high_of (P := P) (w := w) (base := base) T
  refine ⟨_, (pss_cons (ps_ret (pe_lc (own := [("dues", 2)]) rfl sc_ranges_by_turns.nd (pi_listK K (pe_fld (pv 0) rfl)) (blkOk_by (by kernel_rfl)) (fun _ _ _ _ _ => (pg_name (i := 2) sc_ranges_by_turns.nd rfl (.inl rfl))) (fun _ _ _ _ _ => pts_nil) (fun _ _ _ _ _ => (pe_lc (own := [("due", 3)]) rfl sc_ranges_by_turns.nd (pi_listK K (pv 2)) (blkOk_by (by kernel_rfl)) (fun _ _ _ _ _ => (pg_name (i := 3) sc_ranges_by_turns.nd rfl (.inl rfl))) (fun _ _ _ _ _ => pts_nil) (fun _ _ _ _ _ => (pe_tup (pa_cons (pe_call G_low_of (hr.mono (by decide)) (by rfl) T.m_low_of T.F_low_of.kp T.b_low_of .nil pass0 (pa_cons (pv 1) (pa_cons (pv 3) pa_nil))) (pa_cons (pe_call G_high_of (hr.mono (by decide)) (by rfl) T.m_high_of T.F_high_of.kp T.b_high_of .nil pass0 (pa_cons (pv 1) (pa_cons (pv 3) pa_nil))) pa_nil))))))))
    pss_nil), ?_⟩
  refine gs_ret (gr_of (gd_new (gl_lc (is := [2]) (xs := Tb.map (rowD W)) (rs := (ranges W M o Tb).map fun r => .list (r.map frD)) (gj_of (gi_list (gd_table T.cl gd_var (fun z => nomatch z)))) (by simp [ranges]) (by rw [List.length_map]; exact Nat.le_trans hT.l (by decide)) (by simp) fun i d hd => ?_))) rfl
  rw [List.getElem?_map] at hd
  obtain ⟨r, hr1, rfl⟩ := Option.map_eq_some_iff.mp hd
  have rm := List.mem_of_getElem? hr1
  refine ⟨_, _, gg_name, gd_new (gl_lc (is := [3]) (xs := r.map fun X => frD (fr W X)) (rs := (r.map fun X => (lowZ W M o X, highZ W M o X)).map frD) (gj_of (gi_list gd_var)) (by simp) (by rw [List.length_map]; exact Nat.le_trans (hT.n r rm) (by decide)) (by simp) fun j e he => ?_), by simp [ranges, hr1]⟩
  rw [List.getElem?_map] at he
  obtain ⟨X, hX1, rfl⟩ := Option.map_eq_some_iff.mp he
  have xm := hT.hT r rm X (List.mem_of_getElem? hX1)
  have hW := hT.hW
  have hM := hT.hM
  refine ⟨_, _, gg_name, gd_tup (ga_cons (gd_call (ga_cons gd_var (ga_cons gd_var ga_nil)) ⟨W, M, X, o, rfl, ⟨hW.1, hW.2, by omega, by omega⟩, hT.ok, ⟨hW.1, hW.2, by omega, by omega⟩, rfl⟩) (ga_cons (gd_call (ga_cons gd_var (ga_cons gd_var ga_nil)) ⟨W, M, X, o, rfl, ⟨hW.1, hW.2, by omega, by omega⟩, hT.ok, ⟨hW.1, hW.2, by omega, by omega⟩, rfl⟩) ga_nil)), by simp [hX1, frD]⟩
end
end Du

namespace Du
open PySem PySem.Spec PyProof.Rows L2
theorem atD {ds : List PyData} {z : Int} {j : Nat} {d : PyData} (e : z = (j : Int)) (h : ds[j]? = some d) : atI ds z = some d := by
  rw [e]
  exact atI_nat h
theorem get_rng {n i : Nat} {f : Nat → PyData} {d : PyData} (h : ((List.range n).map f)[i]? = some d) : i < n ∧ d = f i := by
  rw [List.getElem?_map] at h
  obtain ⟨k, hk, rfl⟩ := Option.map_eq_some_iff.mp h
  have hi := (List.getElem?_eq_some_iff.mp hk).1
  rw [List.length_range] at hi
  rw [List.getElem?_range hi] at hk
  cases hk
  exact ⟨hi, rfl⟩
def rowsD (R : Rng) : List PyData := R.map fun r => .list (r.map frD)
theorem row_at {R : Rng} {n t : Nat} (hn : ∀ r ∈ R, r.length = n) (ht : t < R.length) : (rowsD R)[t]? = some (.list ((R.getD t []).map frD)) := by
  unfold rowsD
  rw [List.getElem?_map, List.getElem?_eq_getElem ht]
  show some (PyData.list (R[t].map frD)) = _
  rw [List.getD_eq_getElem?_getD, List.getElem?_eq_getElem ht]
  rfl
theorem it_at {R : Rng} {n t i : Nat} (hn : ∀ r ∈ R, r.length = n) (ht : t < R.length) (hi : i < n) : ((R.getD t []).map frD)[i]? = some (frD (lo R t i, Du.hi R t i)) := by
  have e : R.getD t [] = R[t] := by rw [List.getD_eq_getElem?_getD, List.getElem?_eq_getElem ht] <;> rfl
  have hl : i < (R.getD t []).length := by
    rw [e, hn _ (List.getElem_mem ht)]
    exact hi
  rw [List.getElem?_map, List.getElem?_eq_getElem hl]
  unfold lo Du.hi
  rw [List.getD_eq_getElem?_getD (l := R.getD t []), List.getElem?_eq_getElem hl]
  rfl
/-- a table of ranges of n claimants -/
structure OkR (R : Rng) (n : Nat) : Prop where
  rn : ∀ r ∈ R, r.length = n
  rl : R.length ≤ 500
  rm : n ≤ 500
def intsD (cs : List Int) : PyData := .list (cs.map PyData.int)
theorem ints_at {cs : List Int} {i : Nat} (h : i < cs.length) : (cs.map PyData.int)[i]? = some (.int (cs.getD i 0)) := by
  rw [List.getElem?_map, List.getElem?_eq_getElem h, List.getD_eq_getElem?_getD, List.getElem?_eq_getElem h] <;> rfl
def mdD (md : List (Nat × Int)) : List PyData := md.map fun p => .tuple [.int p.1, .int p.2]
theorem md_at {md : List (Nat × Int)} {i : Nat} (h : i < md.length) : (mdD md)[i]? = some (.tuple [.int (md.getD i (0, 0)).1, .int (md.getD i (0, 0)).2]) := by
  unfold mdD
  rw [List.getElem?_map, List.getElem?_eq_getElem h, List.getD_eq_getElem?_getD, List.getElem?_eq_getElem h] <;> rfl
def R_must (ds : List PyData) (d : PyData) : Prop := ∃ (R : Rng) (n t i : Nat) (c : Int), ds = [rngD R, .int t, .int i, .int c] ∧ OkR R n ∧ t ≤ R.length ∧ i < n ∧ d = .int (mustBy R t i c : Nat)
def R_soon (ds : List PyData) (d : PyData) : Prop := ∃ (R : Rng) (t : Nat) (cs : List Int), ds = [rngD R, .int t, intsD cs] ∧ OkR R cs.length ∧ t < R.length ∧ d = (match soon R t cs cs.length with | none => .none | some p => .int (p.2 : Nat))
def R_far (ds : List PyData) (d : PyData) : Prop := ∃ (R : Rng) (t : Nat) (cs : List Int), ds = [rngD R, .int t, intsD cs] ∧ OkR R cs.length ∧ t < R.length ∧ d = .bool (farB R t cs)
def R_few (ds : List PyData) (d : PyData) : Prop := ∃ (R : Rng) (t : Nat) (cs : List Int), ds = [rngD R, .int t, intsD cs] ∧ OkR R cs.length ∧ t < R.length ∧ d = .bool (fewB R t cs)
def R_over (ds : List PyData) (d : PyData) : Prop := ∃ (R : Rng) (n t : Nat) (md : List (Nat × Int)), ds = [rngD R, .int t, .list (mdD md)] ∧ OkR R n ∧ t < R.length ∧ t ≤ md.length ∧ (∀ p ∈ md, p.1 < n) ∧ d = .int (ofr R t md t : Nat)
section
variable {P : Program} {w : World} {K : PySem.W.Frag} {mg : Str → Option Value} {base : Heap} {fd : Str → FuncData} {C : Addr}
theorem ok_must_by (T : Tx K mg fd C) : FnOk P w K mg base CX0 1 (He.ga K "must_by") (fd "must_by") ["table", "at", "who", "count"] (spR K C R_must) := by
  refine ok_of T.F_must_by sc_must_by (fun ds d h => by obtain ⟨R, n, t, i, c, rfl, _⟩ := h; rfl) fun cdv A outer s H E hr ds d h => ?_
  obtain ⟨R, n, t, i, c, rfl, hR, ht, hi, rfl⟩ := h
  refine ⟨_, (pss_cons (ps_for PassesOwn.never rfl (pi_range2 (by rfl) T.n_range (pa_cons (pv 1) (pa_cons (pe_callB (call_lenK K) (by rfl) T.n_len (by decide +kernel) (pa_cons (pv 0) pa_nil)) pa_nil))) (pg_name (i := 4) sc_must_by.nd rfl (.inl rfl))
    (pss_cons (ps_if (pt_cmpR op_gt (pe_ix (ix_tupK K) (pe_ix (ix_listK K) (pe_ix (ix_listK K) (pv 0) (pv 4) (fun _ _ => rfl)) (pv 2) (fun _ _ => rfl)) pe_int (fun _ _ => rfl)) (pv 3) (nomark _))
    (pss_cons (ps_ret (pv 4))
    pss_nil)
    pss_nil)
    pss_nil))
    (pss_cons (ps_ret (pe_callB (call_lenK K) (by rfl) T.n_len (by decide +kernel) (pa_cons (pv 0) pa_nil)))
    pss_nil)), ?_⟩
  have ll : (rowsD R).length = R.length := List.length_map _
  have hl := hR.rl
  refine gs_for (is := [4]) (gi_range2 (lo := (t : Int)) (hi := (rowsD R).length) (ga_cons gd_var (ga_cons (gd_len (ds := rowsD R) gd_var) ga_nil)) (by rw [ll]; omega)) (fun k D => D = [.v (rngD R), .v (.int t), .v (.int i), .v (.int c), .no] ∧ mustIn i c (R.drop (t + k)) (t + k) = mustBy R t i c) ⟨rfl, rfl⟩ (fun k D1 d hd hI => ?_) (fun D1 hI => ?_)
  · obtain ⟨rfl, e⟩ := hI
    obtain ⟨hk, rfl⟩ := get_rng hd
    rw [ll] at hk
    have hp : t + k < R.length := by omega
    refine ⟨_, gg_name, gs_if (gb_test (gd_b0 (gd_ixT (gd_ixL (gd_ixL (ds := rowsD R) gd_var gd_var (atD (j := t + k) (by omega) (row_at hR.rn hp))) gd_var (atD rfl (it_at hR.rn hp hi))) gd_int (j0 _ _)) gd_var)) (fun h => gs_ret (gr_of gd_var) ?_) (fun h => gs_nx (gs_next (D' := [.v (rngD R), .v (.int t), .v (.int i), .v (.int c), .no]) ⟨rfl, ?_⟩ ?_))⟩
    · show PyData.int _ = PyData.int _
      rw [← e, must_step hp, if_pos (of_decide_eq_true h)]
      congr 1
    · rw [← e, must_step hp, if_neg (of_decide_eq_false h)]
      rfl
    · exact ⟨.inr rfl, .inr rfl, .inr rfl, .inr rfl, .inl rfl, trivial⟩
  · obtain ⟨rfl, e⟩ := hI
    rw [List.length_map, List.length_range, ll] at e
    refine gs_ret (gr_of (gd_len (ds := rowsD R) gd_var)) ?_
    show PyData.int _ = PyData.int _
    rw [← e, ll, must_end (by omega)]
    congr 1
    omega
/-- what the choice so far is worth -/
def optD : Option (Nat × Nat) → PyData
  | none => .none
  | some p => .tuple [.int (p.1 : Nat), .int (p.2 : Nat)]
theorem ok_soonest (T : Tx K mg fd C) : FnOk P w K mg base CX0 2 (He.ga K "soonest") (fd "soonest") ["table", "at", "counts"] (spR K C R_soon) := by
  refine ok_of T.F_soonest sc_soonest (fun ds d h => by obtain ⟨R, t, cs, rfl, _⟩ := h; rfl) fun cdv A outer s H E hr ds d h => ?_
  obtain ⟨R, t, cs, rfl, hR, ht, rfl⟩ := h
  have G_must_by := ok_must_by (P := P) (w := w) (base := base) T
  refine ⟨_, (pss_cons (ps_set (i := 3) sc_soonest.nd rfl (.inl rfl) pe_non)
    (pss_cons (ps_for PassesOwn.never rfl (pi_range1 (by rfl) T.n_range (pa_cons (pe_callB (call_lenK K) (by rfl) T.n_len (by decide +kernel) (pa_cons (pv 2) pa_nil)) pa_nil)) (pg_name (i := 4) sc_soonest.nd rfl (.inl rfl))
    (pss_cons (ps_if (pt_cmpR op_le (pe_op op_add (pe_ix (ix_listK K) (pv 2) (pv 4) (fun _ _ => rfl)) pe_int) (pe_ix (ix_tupK K) (pe_ix (ix_listK K) (pe_ix (ix_listK K) (pv 0) (pv 1) (fun _ _ => rfl)) (pv 4) (fun _ _ => rfl)) pe_int (fun _ _ => rfl)) (nomark _))
    (pss_cons (ps_set (i := 5) sc_soonest.nd rfl (.inl rfl) (pe_call G_must_by (hr.mono (by decide)) (by rfl) T.m_must_by T.F_must_by.kp T.b_must_by .nil pass0 (pa_cons (pv 0) (pa_cons (pv 1) (pa_cons (pv 4) (pa_cons (pe_ix (ix_listK K) (pv 2) (pv 4) (fun _ _ => rfl)) pa_nil))))))
    (pss_cons (ps_if (PW.pt (pw_or (pt_cmpR op_isN (pv 3) pe_non (nomark _)) (pw_or1 (pt_cmpR op_lt (pv 5) (pe_ix (ix_tupK K) (pv 3) pe_int (fun _ _ => rfl)) (nomark _)))))
    (pss_cons (ps_set (i := 3) sc_soonest.nd rfl (.inl rfl) (pe_tup (pa_cons (pv 5) (pa_cons (pv 4) pa_nil))))
    pss_nil)
    pss_nil)
    pss_nil))
    pss_nil)
    pss_nil))
    (pss_cons (ps_if (pt_cmpR op_isN (pv 3) pe_non (nomark _))
    (pss_cons (ps_ret pe_non)
    pss_nil)
    pss_nil)
    (pss_cons (ps_ret (pe_ix (ix_tupK K) (pv 3) pe_int (fun _ _ => rfl)))
    pss_nil)))), ?_⟩
  have lc : (cs.map PyData.int).length = cs.length := List.length_map _
  have hm := hR.rm
  have hl := hR.rl
  refine gs_asg gd_non ?_
  refine gs_for (is := [4]) (gi_range1 (hi := (cs.map PyData.int).length) (ga_cons (gd_len (ds := cs.map PyData.int) gd_var) ga_nil) (by rw [lc]; omega)) (fun k D => D = [.v (rngD R), .v (.int t), .v (intsD cs), .v (optD ((List.range k).foldl (soonUp R t cs) none)), .no, .no]) rfl (fun k D1 d hd hI => ?_) (fun D1 hI => ?_)
  · subst hI
    obtain ⟨hk, rfl⟩ := get_rng hd
    rw [lc, Int.toNat_natCast] at hk
    refine ⟨_, gg_name, ?_⟩
    have gc := gd_ixL (K := K) (C := C) (D := [.v (rngD R), .v (.int t), .v (intsD cs), .v (optD ((List.range k).foldl (soonUp R t cs) none)), .v (.int (k : Nat)), .no]) (ds := cs.map PyData.int) (gd_var (k := 2)) (gd_var (k := 4)) (atD rfl (ints_at hk))
    have fin : ∀ {x y : Sl}, (List.range (k + 1)).foldl (soonUp R t cs) none = soonUp R t cs ((List.range k).foldl (soonUp R t cs) none) k := by
      intro _ _
      rw [List.range_succ, List.foldl_append]
      rfl
    generalize hf : (List.range k).foldl (soonUp R t cs) none = f at *
    have fin := fin (x := .no) (y := .no)
    refine gs_if (gb_test (gd_b0 (gd_i0 gc gd_int) (gd_ixT (gd_ixL (gd_ixL (ds := rowsD R) gd_var gd_var (atD rfl (row_at hR.rn ht))) gd_var (atD rfl (it_at hR.rn ht hk))) gd_int (j1 _ _)))) (fun h => ?_) (fun h => gs_nx (gs_next (D' := [.v (rngD R), .v (.int t), .v (intsD cs), .v (optD (soonUp R t cs f k)), .no, .no]) (by rw [fin]) ?_))
    · have h' : cs.getD k 0 + 1 ≤ Du.hi R t k := of_decide_eq_true h
      refine gs_asg (gd_call (ga_cons gd_var (ga_cons gd_var (ga_cons gd_var (ga_cons gc ga_nil)))) ⟨R, cs.length, t, k, cs.getD k 0, rfl, hR, by omega, hk, rfl⟩) ?_
      cases f with
      | none =>
        refine gs_if (gb_or1 (Gb.is (gb_test (gd_isN gd_var)) rfl)) (fun _ => ?_) no_tf
        refine gs_asg (gd_tup (ga_cons gd_var (ga_cons gd_var ga_nil))) (gs_nx (gs_nx (gs_next (D' := [.v (rngD R), .v (.int t), .v (intsD cs), .v (optD (soonUp R t cs none k)), .no, .no]) (by rw [fin]) ?_)))
        unfold soonUp
        rw [if_pos h']
        exact ⟨.inr rfl, .inr rfl, .inr rfl, .inr rfl, .inl rfl, .inl rfl, trivial⟩
      | some p =>
        refine gs_if (gb_or (gb_test (gd_isN gd_var)) (fun _ => gb_test (gd_b0 gd_var (gd_ixT gd_var gd_int (j0 _ _))))) (fun h2 => ?_) (fun h2 => ?_)
        · have h3 : mustBy R t k (cs.getD k 0) < p.1 := by
            have := of_decide_eq_true (show decide (((mustBy R t k (cs.getD k 0) : Nat) : Int) < (p.1 : Nat)) = true from h2)
            omega
          refine gs_asg (gd_tup (ga_cons gd_var (ga_cons gd_var ga_nil))) (gs_nx (gs_nx (gs_next (D' := [.v (rngD R), .v (.int t), .v (intsD cs), .v (optD (soonUp R t cs (some p) k)), .no, .no]) (by rw [fin]) ?_)))
          unfold soonUp
          rw [if_pos h']
          show Wk _ [_, _, _, .v (optD (if mustBy R t k (cs.getD k 0) < p.1 then some (mustBy R t k (cs.getD k 0), k) else some p)), _, _]
          rw [if_pos h3]
          exact ⟨.inr rfl, .inr rfl, .inr rfl, .inr rfl, .inl rfl, .inl rfl, trivial⟩
        · have h3 : ¬ mustBy R t k (cs.getD k 0) < p.1 := by
            have := of_decide_eq_false (show decide (((mustBy R t k (cs.getD k 0) : Nat) : Int) < (p.1 : Nat)) = false from h2)
            omega
          refine gs_nx (gs_nx (gs_next (D' := [.v (rngD R), .v (.int t), .v (intsD cs), .v (optD (soonUp R t cs (some p) k)), .no, .no]) (by rw [fin]) ?_))
          unfold soonUp
          rw [if_pos h']
          show Wk _ [_, _, _, .v (optD (if mustBy R t k (cs.getD k 0) < p.1 then some (mustBy R t k (cs.getD k 0), k) else some p)), _, _]
          rw [if_neg h3]
          exact ⟨.inr rfl, .inr rfl, .inr rfl, .inr rfl, .inl rfl, .inl rfl, trivial⟩
    · have h' : ¬ cs.getD k 0 + 1 ≤ Du.hi R t k := of_decide_eq_false h
      unfold soonUp
      rw [if_neg h']
      exact ⟨.inr rfl, .inr rfl, .inr rfl, .inr rfl, .inl rfl, .inr rfl, trivial⟩
  · subst hI
    rw [List.length_map, List.length_range, lc, Int.toNat_natCast]
    show GS K C _ [.v (rngD R), .v (.int t), .v (intsD cs), .v (optD (soon R t cs cs.length)), .no, .no] _
    cases hs : soon R t cs cs.length with
    | none => exact gs_if (gb_test (gd_isN gd_var)) (fun _ => gs_ret (gr_of gd_non) rfl) no_tf
    | some p => exact gs_if (gb_test (gd_isN gd_var)) no_ft (fun _ => gs_nx (gs_ret (gr_of (gd_ixT gd_var gd_int (j1 _ _))) rfl))
theorem any_up {f : Nat → Bool} {k : Nat} (h : (List.range k).any f = false) (hk : f k = false) : (List.range (k + 1)).any f = false := by
  rw [List.range_succ, List.any_append, h]
  simp [hk]
theorem any_yes {f : Nat → Bool} {k n : Nat} (hk : k < n) (h : f k = true) : (List.range n).any f = true := List.any_eq_true.mpr ⟨k, List.mem_range.mpr hk, h⟩
theorem ok_too_far (T : Tx K mg fd C) : FnOk P w K mg base CX0 1 (He.ga K "too_far") (fd "too_far") ["table", "at", "counts"] (spR K C R_far) := by
  refine ok_of T.F_too_far sc_too_far (fun ds d h => by obtain ⟨R, t, cs, rfl, _⟩ := h; rfl) fun cdv A outer s H E hr ds d h => ?_
  obtain ⟨R, t, cs, rfl, hR, ht, rfl⟩ := h
  refine ⟨_, (pss_cons (ps_for PassesOwn.never rfl (pi_range1 (by rfl) T.n_range (pa_cons (pe_callB (call_lenK K) (by rfl) T.n_len (by decide +kernel) (pa_cons (pv 2) pa_nil)) pa_nil)) (pg_name (i := 3) sc_too_far.nd rfl (.inl rfl))
    (pss_cons (ps_if (pt_cmpR op_gt (pe_ix (ix_listK K) (pv 2) (pv 3) (fun _ _ => rfl)) (pe_ix (ix_tupK K) (pe_ix (ix_listK K) (pe_ix (ix_listK K) (pv 0) (pv 1) (fun _ _ => rfl)) (pv 3) (fun _ _ => rfl)) pe_int (fun _ _ => rfl)) (nomark _))
    (pss_cons (ps_ret pe_bl)
    pss_nil)
    pss_nil)
    pss_nil))
    (pss_cons (ps_ret pe_bl)
    pss_nil)), ?_⟩
  have lc : (cs.map PyData.int).length = cs.length := List.length_map _
  have hm := hR.rm
  refine gs_for (is := [3]) (gi_range1 (hi := (cs.map PyData.int).length) (ga_cons (gd_len (ds := cs.map PyData.int) gd_var) ga_nil) (by rw [lc]; omega)) (fun k D => D = [.v (rngD R), .v (.int t), .v (intsD cs), .no] ∧ (List.range k).any (fun who => decide (Du.hi R t who < cs.getD who 0)) = false) ⟨rfl, rfl⟩ (fun k D1 d hd hI => ?_) (fun D1 hI => ?_)
  · obtain ⟨rfl, e⟩ := hI
    obtain ⟨hk, rfl⟩ := get_rng hd
    rw [lc, Int.toNat_natCast] at hk
    refine ⟨_, gg_name, gs_if (gb_test (gd_b0 (gd_ixL (ds := cs.map PyData.int) gd_var gd_var (atD rfl (ints_at hk))) (gd_ixT (gd_ixL (gd_ixL (ds := rowsD R) gd_var gd_var (atD rfl (row_at hR.rn ht))) gd_var (atD rfl (it_at hR.rn ht hk))) gd_int (j1 _ _)))) (fun h => gs_ret (gr_of gd_bl) ?_) (fun h => gs_nx (gs_next (D' := [.v (rngD R), .v (.int t), .v (intsD cs), .no]) ⟨rfl, any_up e h⟩ ⟨.inr rfl, .inr rfl, .inr rfl, .inl rfl, trivial⟩))⟩
    show PyData.bool _ = PyData.bool _
    unfold farB
    rw [any_yes hk h]
  · obtain ⟨rfl, e⟩ := hI
    rw [List.length_map, List.length_range, lc, Int.toNat_natCast] at e
    refine gs_ret (gr_of gd_bl) ?_
    show PyData.bool _ = PyData.bool _
    unfold farB
    rw [e]
theorem ok_too_few (T : Tx K mg fd C) : FnOk P w K mg base CX0 1 (He.ga K "too_few") (fd "too_few") ["table", "at", "counts"] (spR K C R_few) := by
  refine ok_of T.F_too_few sc_too_few (fun ds d h => by obtain ⟨R, t, cs, rfl, _⟩ := h; rfl) fun cdv A outer s H E hr ds d h => ?_
  obtain ⟨R, t, cs, rfl, hR, ht, rfl⟩ := h
  refine ⟨_, (pss_cons (ps_for PassesOwn.never rfl (pi_range1 (by rfl) T.n_range (pa_cons (pe_callB (call_lenK K) (by rfl) T.n_len (by decide +kernel) (pa_cons (pv 2) pa_nil)) pa_nil)) (pg_name (i := 3) sc_too_few.nd rfl (.inl rfl))
    (pss_cons (ps_if (pt_cmpR op_lt (pe_ix (ix_listK K) (pv 2) (pv 3) (fun _ _ => rfl)) (pe_ix (ix_tupK K) (pe_ix (ix_listK K) (pe_ix (ix_listK K) (pv 0) (pv 1) (fun _ _ => rfl)) (pv 3) (fun _ _ => rfl)) pe_int (fun _ _ => rfl)) (nomark _))
    (pss_cons (ps_ret pe_bl)
    pss_nil)
    pss_nil)
    pss_nil))
    (pss_cons (ps_ret pe_bl)
    pss_nil)), ?_⟩
  have lc : (cs.map PyData.int).length = cs.length := List.length_map _
  have hm := hR.rm
  refine gs_for (is := [3]) (gi_range1 (hi := (cs.map PyData.int).length) (ga_cons (gd_len (ds := cs.map PyData.int) gd_var) ga_nil) (by rw [lc]; omega)) (fun k D => D = [.v (rngD R), .v (.int t), .v (intsD cs), .no] ∧ (List.range k).any (fun who => decide (cs.getD who 0 < lo R t who)) = false) ⟨rfl, rfl⟩ (fun k D1 d hd hI => ?_) (fun D1 hI => ?_)
  · obtain ⟨rfl, e⟩ := hI
    obtain ⟨hk, rfl⟩ := get_rng hd
    rw [lc, Int.toNat_natCast] at hk
    refine ⟨_, gg_name, gs_if (gb_test (gd_b0 (gd_ixL (ds := cs.map PyData.int) gd_var gd_var (atD rfl (ints_at hk))) (gd_ixT (gd_ixL (gd_ixL (ds := rowsD R) gd_var gd_var (atD rfl (row_at hR.rn ht))) gd_var (atD rfl (it_at hR.rn ht hk))) gd_int (j0 _ _)))) (fun h => gs_ret (gr_of gd_bl) ?_) (fun h => gs_nx (gs_next (D' := [.v (rngD R), .v (.int t), .v (intsD cs), .no]) ⟨rfl, any_up e h⟩ ⟨.inr rfl, .inr rfl, .inr rfl, .inl rfl, trivial⟩))⟩
    show PyData.bool _ = PyData.bool _
    unfold fewB
    rw [any_yes hk h]
  · obtain ⟨rfl, e⟩ := hI
    rw [List.length_map, List.length_range, lc, Int.toNat_natCast] at e
    refine gs_ret (gr_of gd_bl) ?_
    show PyData.bool _ = PyData.bool _
    unfold fewB
    rw [e]
theorem ok_over_from (T : Tx K mg fd C) : FnOk P w K mg base CX0 1 (He.ga K "over_from") (fd "over_from") ["table", "at", "made"] (spR K C R_over) := by
  refine ok_of T.F_over_from sc_over_from (fun ds d h => by obtain ⟨R, n, t, md, rfl, _⟩ := h; rfl) fun cdv A outer s H E hr ds d h => ?_
  obtain ⟨R, n, t, md, rfl, hR, ht, hl, hp, rfl⟩ := h
  refine ⟨_, (pss_cons (ps_set (i := 3) sc_over_from.nd rfl (.inl rfl) (pv 1))
    (pss_cons (ps_while PassesOwn.never (PW.pt (pw_and (pt_cmpR op_gt (pv 3) pe_int (nomark _)) (pw_and1 (pt_cmpR op_ge (pe_ix (ix_tupK K) (pe_ix (ix_listK K) (pe_ix (ix_listK K) (pv 0) (pv 1) (fun _ _ => rfl)) (pe_ix (ix_tupK K) (pe_ix (ix_listK K) (pv 2) (pe_op op_sub (pv 3) pe_int) (fun _ _ => rfl)) pe_int (fun _ _ => rfl)) (fun _ _ => rfl)) pe_int (fun _ _ => rfl)) (pe_ix (ix_tupK K) (pe_ix (ix_listK K) (pv 2) (pe_op op_sub (pv 3) pe_int) (fun _ _ => rfl)) pe_int (fun _ _ => rfl)) (nomark _)))))
    (pss_cons (ps_set (i := 3) sc_over_from.nd rfl (.inl rfl) (pe_op op_sub (pv 3) pe_int))
    pss_nil))
    (pss_cons (ps_ret (pv 3))
    pss_nil))), ?_⟩
  refine gs_asg gd_var ?_
  refine gs_while (fun b D => D = [.v (rngD R), .v (.int t), .v (.list (mdD md)), .v (.int b)] ∧ b ≤ t ∧ ofr R t md b = ofr R t md t) t ⟨rfl, Nat.le_refl _, rfl⟩ fun b D1 hI => ?_
  obtain ⟨rfl, hb, e⟩ := hI
  cases b with
  | zero =>
    refine ⟨false, gb_and0 (Gb.is (gb_test (gd_b0 gd_var gd_int)) (by decide)), no_ft, fun _ => gs_ret (gr_of gd_var) ?_⟩
    show PyData.int _ = PyData.int _
    rw [← e]
    rfl
  | succ b =>
    have hbm : b < md.length := by omega
    have gm := gd_ixL (K := K) (C := C) (D := [.v (rngD R), .v (.int t), .v (.list (mdD md)), .v (.int ((b + 1 : Nat) : Int))]) (ds := mdD md) (gd_var (k := 2)) (gd_i0 (g := fun i j => i - j) (gd_var (k := 3)) (gd_int (i := 1))) (atD (j := b) (by omega) (md_at hbm))
    have hw : (md.getD b (0, 0)).1 < n := by
      rw [getD_at hbm]
      exact hp _ (List.getElem_mem hbm)
    refine ⟨_, gb_and (gb_test (gd_b0 gd_var gd_int)) (fun _ => gb_test (gd_b0 (gd_ixT (gd_ixL (gd_ixL (ds := rowsD R) gd_var gd_var (atD rfl (row_at hR.rn ht))) (gd_ixT gm gd_int (j0 _ _)) (atD rfl (it_at hR.rn ht hw))) gd_int (j0 _ _)) (gd_ixT gm gd_int (j1 _ _)))), fun h => ?_, fun h => ?_⟩
    · have h2 := of_decide_eq_true (Bool.and_eq_true_iff.mp h).2
      refine gs_asg (gd_i0 gd_var gd_int) (gs_nx ⟨b, Nat.lt_succ_self b, ?_, by omega, ?_⟩)
      · show [_, _, _, Sl.v (.int (((b + 1 : Nat) : Int) - 1))] = _
        rw [show (((b + 1 : Nat) : Int) - 1) = b by omega]
      · rw [← e]
        conv => rhs; unfold ofr
        rw [if_pos h2]
    · rw [Bool.and_eq_false_iff] at h
      have h2 : ¬ (md.getD b (0, 0)).2 ≤ lo R t (md.getD b (0, 0)).1 := by
        rcases h with h | h
        · exact absurd (of_decide_eq_false h) (by omega)
        · exact of_decide_eq_false h
      refine gs_ret (gr_of gd_var) ?_
      show PyData.int _ = PyData.int _
      rw [← e]
      conv => rhs; unfold ofr
      rw [if_neg h2]
end
end Du

namespace Du
open PySem PySem.Spec PyProof.Rows L2
def outD : Out → PyData
  | .over a b => .tuple [.str "paper", .tuple [.str "over", .int a, .int b]]
  | .under a b => .tuple [.str "paper", .tuple [.str "under", .int a, .int b]]
  | .go _ md => .tuple [.str "row", .list (md.map fun p => .int (p.1 : Nat))]
def R_dealt (ds : List PyData) (d : PyData) : Prop := ∃ (R : Rng) (first : Int) (start : List Int), ds = [rngD R, .int first, intsD start] ∧ OkR R start.length ∧ 1 ≤ R.length ∧ d = outD (dealtO R first start)
section
variable {P : Program} {w : World} {K : PySem.W.Frag} {mg : Str → Option Value} {base : Heap} {fd : Str → FuncData} {C : Addr}
theorem ok_dealt (T : Tx K mg fd C) : FnOk P w K mg base CX0 3 (He.ga K "dealt") (fd "dealt") ["table", "first", "start"] (spR K C R_dealt) := by
  refine ok_of T.F_dealt sc_dealt (fun ds d h => by obtain ⟨R, f, st, rfl, _⟩ := h; rfl) fun cdv A outer s H E hr ds d h => ?_
  obtain ⟨R, first, start, rfl, hR, h1, rfl⟩ := h
  have G_too_few := ok_too_few (P := P) (w := w) (base := base) T
  have G_too_far := ok_too_far (P := P) (w := w) (base := base) T
  have G_soonest := ok_soonest (P := P) (w := w) (base := base) T
  have G_over_from := ok_over_from (P := P) (w := w) (base := base) T
  refine ⟨_, (pss_cons (ps_set (i := 3) sc_dealt.nd rfl (.inl rfl) (pe_callTy (call_listK K) (by rfl) T.n_list (by decide +kernel) (pa_cons (pv 2) pa_nil)))
    (pss_cons (ps_set (i := 4) sc_dealt.nd rfl (.inl rfl) (pe_lst pa_nil))
    (pss_cons (ps_if (PW.pt (pw_or (pt_val (pe_call G_too_few (hr.mono (by decide)) (by rfl) T.m_too_few T.F_too_few.kp T.b_too_few .nil pass0 (pa_cons (pv 0) (pa_cons pe_int (pa_cons (pv 3) pa_nil))))) (pw_or1 (pt_val (pe_call G_too_far (hr.mono (by decide)) (by rfl) T.m_too_far T.F_too_far.kp T.b_too_far .nil pass0 (pa_cons (pv 0) (pa_cons pe_int (pa_cons (pv 3) pa_nil))))))))
    (pss_cons (ps_ret (pe_tup (pa_cons pe_str (pa_cons (pe_tup (pa_cons pe_str (pa_cons (pv 1) (pa_cons (pv 1) pa_nil)))) pa_nil))))
    pss_nil)
    pss_nil)
    (pss_cons (ps_for PassesOwn.never rfl (pi_range2 (by rfl) T.n_range (pa_cons pe_int (pa_cons (pe_callB (call_lenK K) (by rfl) T.n_len (by decide +kernel) (pa_cons (pv 0) pa_nil)) pa_nil))) (pg_name (i := 5) sc_dealt.nd rfl (.inl rfl))
    (pss_cons (ps_if (pt_val (pe_call G_too_far (hr.mono (by decide)) (by rfl) T.m_too_far T.F_too_far.kp T.b_too_far .nil pass0 (pa_cons (pv 0) (pa_cons (pv 5) (pa_cons (pv 3) pa_nil)))))
    (pss_cons (ps_ret (pe_tup (pa_cons pe_str (pa_cons (pe_tup (pa_cons pe_str (pa_cons (pe_op op_add (pv 1) (pv 5)) (pa_cons (pe_op op_add (pv 1) (pv 5)) pa_nil)))) pa_nil))))
    pss_nil)
    pss_nil)
    (pss_cons (ps_set (i := 6) sc_dealt.nd rfl (.inl rfl) (pe_call G_soonest (hr.mono (by decide)) (by rfl) T.m_soonest T.F_soonest.kp T.b_soonest .nil pass0 (pa_cons (pv 0) (pa_cons (pv 5) (pa_cons (pv 3) pa_nil)))))
    (pss_cons (ps_if (pt_cmpR op_isN (pv 6) pe_non (nomark _))
    (pss_cons (ps_ret (pe_tup (pa_cons pe_str (pa_cons (pe_tup (pa_cons pe_str (pa_cons (pv 1) (pa_cons (pe_op op_add (pv 1) (pv 5)) pa_nil)))) pa_nil))))
    pss_nil)
    pss_nil)
    (pss_cons (ps_asg (pe_op op_add (pe_ix (ix_listK K) (pv 3) (pv 6) (fun _ _ => rfl)) pe_int) (pg_sub (pv 3) (pv 6) set_list))
    (pss_cons (ps_expr (pe_bm PySem.F.plainAttrs_list PySem.F.slot_list_append PySem.F.type_list_append mt_append (pv 4) (pa_cons (pe_tup (pa_cons (pv 6) (pa_cons (pe_ix (ix_listK K) (pv 3) (pv 6) (fun _ _ => rfl)) pa_nil))) pa_nil)))
    (pss_cons (ps_if (pt_val (pe_call G_too_few (hr.mono (by decide)) (by rfl) T.m_too_few T.F_too_few.kp T.b_too_few .nil pass0 (pa_cons (pv 0) (pa_cons (pv 5) (pa_cons (pv 3) pa_nil)))))
    (pss_cons (ps_ret (pe_tup (pa_cons pe_str (pa_cons (pe_tup (pa_cons pe_str (pa_cons (pe_op op_add (pv 1) (pe_call G_over_from (hr.mono (by decide)) (by rfl) T.m_over_from T.F_over_from.kp T.b_over_from .nil pass0 (pa_cons (pv 0) (pa_cons (pv 5) (pa_cons (pv 4) pa_nil))))) (pa_cons (pe_op op_add (pv 1) (pv 5)) pa_nil)))) pa_nil))))
    pss_nil)
    pss_nil)
    pss_nil)))))))
    (pss_cons (ps_ret (pe_tup (pa_cons pe_str (pa_cons (pe_lc (own := [("who", 6), ("number", 7)]) rfl sc_dealt.nd (pi_listK K (pv 4)) (blkOk_by (by kernel_rfl)) (fun _ _ _ _ _ => (pg_tupK K (n := 2) rfl (pgs_cons (pg_name (i := 6) sc_dealt.nd rfl (.inl rfl)) (pgs_cons (pg_name (i := 7) sc_dealt.nd rfl (.inl rfl)) pgs_nil)))) (fun _ _ _ _ _ => pts_nil) (fun _ _ _ _ _ => (pv 6))) pa_nil))))
    pss_nil))))), ?_⟩
  have ll : (rowsD R).length = R.length := List.length_map _
  have hl := hR.rl
  have hm := hR.rm
  refine gs_asgL (gl_listof (ds := start.map PyData.int) gd_var) (gs_asgL (gl_lst ga_nil) ?_)
  have lst : (start.map PyData.int).length = start.length := List.length_map _
  refine gs_if (b := fewB R 0 start || farB R 0 start) (gb_or (gb_val (gd_callX (gx_cons (gr_of gd_var) (gx_cons (gr_of gd_int) (gx_cons gr_own gx_nil))) ⟨R, 0, start, rfl, hR, by omega, rfl⟩ trivial)) (fun _ => gb_val (gd_callX (gx_cons (gr_of gd_var) (gx_cons (gr_of gd_int) (gx_cons gr_own gx_nil))) ⟨R, 0, start, rfl, hR, by omega, rfl⟩ trivial))) (fun h => ?_) (fun h => gs_nx ?_)
  · refine gs_ret (gr_of (gd_tup (ga_cons gd_str (ga_cons (gd_tup (ga_cons gd_str (ga_cons gd_var (ga_cons gd_var ga_nil)))) ga_nil)))) ?_
    show _ = outD _
    unfold dealtO
    rw [if_pos h]
    rfl
  · have e0 : dealtO R first start = turns R first (R.length - 1) 1 start [] := by
      unfold dealtO
      rw [if_neg (by rw [h]; exact Bool.false_ne_true)]
    refine gs_for (is := [5]) (gi_range2 (lo := 1) (hi := (rowsD R).length) (ga_cons gd_int (ga_cons (gd_len (ds := rowsD R) gd_var) ga_nil)) (by rw [ll]; omega)) (fun k D => ∃ (cs : List Int) (md : List (Nat × Int)), D = [.v (rngD R), .v (.int first), .v (intsD start), .own (cs.map PyData.int), .own (mdD md), .no, .no, .no] ∧ cs.length = start.length ∧ md.length = k ∧ (∀ p ∈ md, p.1 < start.length) ∧ turns R first (R.length - 1 - k) (1 + k) cs md = dealtO R first start) ⟨start, [], rfl, rfl, rfl, fun p hp => (by cases hp), e0.symm⟩ (fun k D1 d hd hI => ?_) (fun D1 hI => ?_)
    · obtain ⟨cs, md, rfl, hcs, hmd, hp, e⟩ := hI
      obtain ⟨hk, rfl⟩ := get_rng hd
      rw [ll] at hk
      have ht : 1 + k < R.length := by omega
      have hR' : OkR R cs.length := by rw [hcs]; exact hR
      rw [show R.length - 1 - k = (R.length - 1 - (k + 1)) + 1 by omega] at e
      have ea : (1 : Int) + (k : Nat) = ((1 + k : Nat) : Int) := by omega
      rw [ea]
      refine ⟨_, gg_name, gs_if (gb_val (gd_callX (gx_cons (gr_of gd_var) (gx_cons (gr_of gd_var) (gx_cons gr_own gx_nil))) ⟨R, 1 + k, cs, rfl, hR', ht, rfl⟩ trivial)) (fun h => ?_) (fun h => gs_nx ?_)⟩
      · refine gs_ret (gr_of (gd_tup (ga_cons gd_str (ga_cons (gd_tup (ga_cons gd_str (ga_cons (gd_i0 gd_var gd_var) (ga_cons (gd_i0 gd_var gd_var) ga_nil)))) ga_nil)))) ?_
        show _ = outD _
        rw [← e]
        unfold turns turn
        rw [if_pos h]
        rfl
      · have hfar := h
        refine gs_asg (gd_callX (gx_cons (gr_of gd_var) (gx_cons (gr_of gd_var) (gx_cons gr_own gx_nil))) ⟨R, 1 + k, cs, rfl, hR', ht, rfl⟩ ?_) ?_
        · cases soon R (1 + k) cs cs.length <;> trivial
        · cases hs : soon R (1 + k) cs cs.length with
          | none =>
            refine gs_if (gb_test (gd_isN gd_var)) (fun _ => ?_) no_tf
            refine gs_ret (gr_of (gd_tup (ga_cons gd_str (ga_cons (gd_tup (ga_cons gd_str (ga_cons gd_var (ga_cons (gd_i0 gd_var gd_var) ga_nil)))) ga_nil)))) ?_
            show _ = outD _
            rw [← e]
            unfold turns turn
            rw [if_neg (by rw [hfar]; exact Bool.false_ne_true), hs]
            rfl
          | some p =>
            have hw : p.2 < cs.length := soon_lt _ (Nat.le_refl _) p hs
            have ho : ∀ l, (cs.set p.2 l).length = cs.length := fun l => List.length_set ..
            refine gs_if (gb_test (gd_isN gd_var)) no_ft (fun _ => gs_nx ?_)
            have gcs : atI (cs.map PyData.int) ((p.2 : Nat) : Int) = some (.int (cs.getD p.2 0)) := atD rfl (ints_at hw)
            refine gs_setI (k := 3) (m := p.2) (ds := cs.map PyData.int) rfl (gd_i0 (gd_ixO (k := 3) (ds := cs.map PyData.int) rfl gd_var gcs) gd_int) gd_var rfl (by rw [List.length_map]; exact hw) ?_
            have em : (cs.map PyData.int).set p.2 (.int (cs.getD p.2 0 + 1)) = (cs.set p.2 (cs.getD p.2 0 + 1)).map PyData.int := by rw [List.map_set]
            rw [em]
            generalize hcs' : cs.set p.2 (cs.getD p.2 0 + 1) = cs'
            have hl' : cs'.length = cs.length := by rw [← hcs']; exact ho _
            have gcs' : atI (cs'.map PyData.int) ((p.2 : Nat) : Int) = some (.int (cs.getD p.2 0 + 1)) := atD rfl (by
              rw [ints_at (by rw [hl']; exact hw), ← hcs', getD_at (by rw [ho]; exact hw), List.getElem_set_self])
            refine gs_app (k := 4) (ds := mdD md) rfl (ga_cons (gd_tup (ga_cons gd_var (ga_cons (gd_ixO (k := 3) (ds := cs'.map PyData.int) rfl gd_var gcs') ga_nil))) ga_nil) (by unfold mdD; rw [List.length_map]; omega) ?_
            have em2 : mdD md ++ [.tuple [.int ((p.2 : Nat) : Int), .int (cs.getD p.2 0 + 1)]] = mdD (md ++ [(p.2, cs.getD p.2 0 + 1)]) := by
              unfold mdD
              rw [List.map_append]
              rfl
            rw [em2]
            have hmd' : (md ++ [(p.2, cs.getD p.2 0 + 1)]).length = k + 1 := by rw [List.length_append, hmd]; rfl
            have hp' : ∀ q ∈ md ++ [(p.2, cs.getD p.2 0 + 1)], q.1 < start.length := fun q hq => by
              rcases List.mem_append.mp hq with z | z
              · exact hp q z
              · rw [List.mem_singleton.mp z]
                show p.2 < _
                omega
            have e2 : turns R first (R.length - 1 - (k + 1) + 1) (1 + k) cs md = (match (if fewB R (1 + k) cs' then Out.over (first + ofr R (1 + k) (md ++ [(p.2, cs.getD p.2 0 + 1)]) (1 + k)) (first + (1 + k : Nat)) else .go cs' (md ++ [(p.2, cs.getD p.2 0 + 1)])) with
                | .go cs' md' => turns R first (R.length - 1 - (k + 1)) (1 + k + 1) cs' md'
                | o => o) := by
              conv => lhs; unfold turns turn
              rw [if_neg (by rw [hfar]; exact Bool.false_ne_true), hs]
              simp only [hcs'] <;> rfl
            rw [e2] at e
            generalize hM : md ++ [(p.2, cs.getD p.2 0 + 1)] = md' at *
            have hR2 : OkR R cs'.length := by rw [hl']; exact hR'
            refine gs_if (gb_val (gd_callX (gx_cons (gr_of gd_var) (gx_cons (gr_of gd_var) (gx_cons gr_own gx_nil))) ⟨R, 1 + k, cs', rfl, hR2, ht, rfl⟩ trivial)) (fun h => ?_) (fun h => gs_nx ?_)
            · refine gs_ret (gr_of (gd_tup (ga_cons gd_str (ga_cons (gd_tup (ga_cons gd_str (ga_cons (gd_i0 gd_var (gd_callX (gx_cons (gr_of gd_var) (gx_cons (gr_of gd_var) (gx_cons gr_own gx_nil))) ⟨R, start.length, 1 + k, md', rfl, hR, ht, by omega, hp', rfl⟩ trivial)) (ga_cons (gd_i0 gd_var gd_var) ga_nil)))) ga_nil)))) ?_
              show _ = outD _
              rw [← e, if_pos h]
              rfl
            · refine gs_next (D' := [.v (rngD R), .v (.int first), .v (intsD start), .own (cs'.map PyData.int), .own (mdD md'), .no, .no, .no]) ⟨cs', md', rfl, by omega, hmd', hp', ?_⟩ ⟨.inr rfl, .inr rfl, .inr rfl, .inr rfl, .inr rfl, .inl rfl, .inl rfl, .inr rfl, trivial⟩
              rw [← e, if_neg (by rw [h]; exact Bool.false_ne_true)]
              show _ = turns R first (R.length - 1 - (k + 1)) (1 + k + 1) cs' md'
              rw [show 1 + (k + 1) = 1 + k + 1 by omega]
    · obtain ⟨cs, md, rfl, hcs, hmd, hp, e⟩ := hI
      rw [List.length_map, List.length_range, ll] at e hmd
      rw [show R.length - 1 - ((R.length : Int) - 1).toNat = 0 by omega] at e
      refine gs_give 4 (ds := mdD md) rfl (gs_ret (gr_of (gd_tup (ga_cons gd_str (ga_cons (gd_new (gl_lc (is := [6, 7]) (xs := mdD md) (rs := md.map fun p => .int (p.1 : Nat)) (gj_of (gi_list gd_var)) (by unfold mdD; rw [List.length_map, List.length_map]) (by unfold mdD; rw [List.length_map]; omega) (by simp) fun i d hd => ?_)) ga_nil)))) ?_)
      · unfold mdD at hd
        rw [List.getElem?_map] at hd
        obtain ⟨q, hq, rfl⟩ := Option.map_eq_some_iff.mp hd
        exact ⟨_, _, gg_two, gd_var, by rw [List.getElem?_map, hq] <;> rfl⟩
      · show _ = outD _
        rw [← e]
        rfl
end
end Du

namespace Du
open PySem PySem.Spec PyProof.Rows L2
/-- all small enough -/
def OkL (W : Int) (xs : List Int) : Prop := ∀ x ∈ xs, Ok W x
theorem eqOk_frD (p : Int × Int) : eqOk (frD p) = true := rfl
theorem depth_frD (p : Int × Int) : PyData.depth (frD p) ≤ 3 := by
  simp [frD, PyData.depth, PyData.depthAll]
theorem eqOk_row (W : Int) (xs : List Int) : eqOk (rowD W xs) = true := by
  have h1 : ∀ xs : List Int, plainAll (xs.map fun X => frD (fr W X)) = true := fun xs => by
    induction xs with
    | nil => rfl
    | cons x xs ih => simpa [plainAll, frD, plainD] using ih
  have h2 : ∀ xs : List Int, PyData.canLayAll0 (xs.map fun X => frD (fr W X)) = true := fun xs => by
    induction xs with
    | nil => rfl
    | cons x xs ih => simpa [PyData.canLayAll0, PyData.canLay0, frD] using ih
  have h3 : ∀ xs : List Int, PyData.depthAll (xs.map fun X => frD (fr W X)) ≤ 3 := fun xs => by
    induction xs with
    | nil => simp [PyData.depthAll]
    | cons x xs ih =>
      have := depth_frD (fr W x)
      rw [List.map_cons]
      unfold PyData.depthAll
      omega
  unfold eqOk SeqAt.shaped rowD
  rw [Bool.and_eq_true, Bool.and_eq_true]
  refine ⟨?_, ?_, ?_⟩
  · unfold plainD
    exact h1 xs
  · unfold PyData.canLay0
    exact h2 xs
  · have := h3 xs
    unfold PyData.depth
    exact decide_eq_true (by omega)
theorem eqv_frD (p q : Int × Int) : PyData.eqv (frD p) (frD q) = decide (p = q) := by
  obtain ⟨a, b⟩ := p
  obtain ⟨c, d⟩ := q
  simp only [frD, PyData.eqv, PyData.eqvAll]
  by_cases h1 : a = c <;> by_cases h2 : b = d <;> simp [h1, h2]
theorem cut_take {ds : List PyData} {k : Nat} (h : k ≤ ds.length) : cutD ds none (some (k : Int)) = ds.take k := by
  unfold cutD
  rw [HT.sIx_none, HT.sIx_nat, Nat.min_eq_left h]
  simp
theorem cut_drop {ds : List PyData} {k : Nat} (h : k ≤ ds.length) : cutD ds (some (k : Int)) none = ds.drop k := by
  unfold cutD
  rw [HT.sIx_none, HT.sIx_nat, Nat.min_eq_left h]
  exact List.take_of_length_le (by rw [List.length_drop]; exact Nat.le_refl _)
theorem fr_at {W : Int} {xs : List Int} {i : Nat} (h : i < xs.length) : (xs.map fun X => frD (fr W X))[i]? = some (frD (fr W (xs[i]))) := by
  rw [List.getElem?_map, List.getElem?_eq_getElem h] <;> rfl
def R_tog (ds : List PyData) (d : PyData) : Prop := ∃ (W : Int) (xs ys : List Int), ds = [rowD W xs, rowD W ys] ∧ OkL W xs ∧ OkL W ys ∧ xs.length + ys.length ≤ 900 ∧ d = rowD W (togZ xs ys)
def R_sort (n : Nat) (ds : List PyData) (d : PyData) : Prop := ∃ (W : Int) (xs : List Int), ds = [rowD W xs] ∧ OkL W xs ∧ xs.length ≤ 2 ^ n ∧ n ≤ 8 ∧ d = rowD W (sortZ n xs)
def R_rise (ds : List PyData) (d : PyData) : Prop := ∃ (W : Int) (xs : List Int), ds = [rowD W xs] ∧ OkL W xs ∧ xs.length ≤ 256 ∧ d = rowD W (riseZ (sortZ 8 xs))
def R_all (ds : List PyData) (d : PyData) : Prop := ∃ (W : Int) (T : List (List Int)), ds = [tabD W T] ∧ T.flatten.length ≤ 900 ∧ T.length ≤ 900 ∧ d = rowD W T.flatten
section
variable {P : Program} {w : World} {K : PySem.W.Frag} {mg : Str → Option Value} {base : Heap} {fd : Str → FuncData} {C : Addr}
theorem ok_together (T : Tx K mg fd C) : FnOk P w K mg base CX0 2 (He.ga K "together") (fd "together") ["ones", "others"] (spR K C R_tog) := by
  refine ok_of T.F_together sc_together (fun ds d h => by obtain ⟨W, xs, ys, rfl, _⟩ := h; rfl) fun cdv A outer s H E hr ds d h => ?_
  obtain ⟨W, xs, ys, rfl, hx, hy, hl, rfl⟩ := h
  have G_less := ok_less (P := P) (w := w) (base := base) T
  refine ⟨_, (pss_cons (ps_set (i := 2) sc_together.nd rfl (.inl rfl) (pe_lst pa_nil))
    (pss_cons (ps_set (i := 3) sc_together.nd rfl (.inl rfl) pe_int)
    (pss_cons (ps_for PassesOwn.never rfl (pi_listK K (pv 0)) (pg_name (i := 4) sc_together.nd rfl (.inl rfl))
    (pss_cons (ps_while PassesOwn.never (PW.pt (pw_and (pt_cmpR op_lt (pv 3) (pe_callB (call_lenK K) (by rfl) T.n_len (by decide +kernel) (pa_cons (pv 1) pa_nil)) (nomark _)) (pw_and1 (pt_val (pe_call G_less (hr.mono (by decide)) (by rfl) T.m_less T.F_less.kp T.b_less .nil pass0 (pa_cons (pe_ix (ix_listK K) (pv 1) (pv 3) (fun _ _ => rfl)) (pa_cons (pv 4) pa_nil)))))))
    (pss_cons (ps_expr (pe_bm PySem.F.plainAttrs_list PySem.F.slot_list_append PySem.F.type_list_append mt_append (pv 2) (pa_cons (pe_ix (ix_listK K) (pv 1) (pv 3) (fun _ _ => rfl)) pa_nil)))
    (pss_cons (ps_set (i := 3) sc_together.nd rfl (.inl rfl) (pe_op op_add (pv 3) pe_int))
    pss_nil)))
    (pss_cons (ps_expr (pe_bm PySem.F.plainAttrs_list PySem.F.slot_list_append PySem.F.type_list_append mt_append (pv 2) (pa_cons (pv 4) pa_nil)))
    pss_nil)))
    (pss_cons (ps_ret (pe_op op_cat (pv 2) (pe_slice (sl_listK K) (pv 1) (po_some (pv 3)) po_none)))
    pss_nil)))), ?_⟩
  have ly : (ys.map fun X => frD (fr W X)).length = ys.length := List.length_map _
  have ll := tog_len xs ys
  refine gs_asgL (gl_lst ga_nil) (gs_asg gd_int ?_)
  refine gs_for (is := [4]) (gi_list (ds := xs.map fun X => frD (fr W X)) gd_var) (fun i D => ∃ (f : List Int) (t : Nat), D = [.v (rowD W xs), .v (rowD W ys), .own (f.map fun X => frD (fr W X)), .v (.int t), .no] ∧ t ≤ ys.length ∧ f.length = i + t ∧ f ++ togZ (xs.drop i) (ys.drop t) = togZ xs ys) ⟨[], 0, rfl, Nat.zero_le _, rfl, rfl⟩ (fun i D1 d hd hI => ?_) (fun D1 hI => ?_)
  · obtain ⟨f, t, rfl, ht, hf, e⟩ := hI
    rw [List.getElem?_map] at hd
    obtain ⟨a, ha, rfl⟩ := Option.map_eq_some_iff.mp hd
    obtain ⟨hi, ea⟩ := List.getElem?_eq_some_iff.mp ha
    rw [List.drop_eq_getElem_cons hi, ea] at e
    have oka : Ok W a := hx a (List.mem_of_getElem? ha)
    refine ⟨_, gg_name, gs_while (fun m D => ∃ (f : List Int) (t : Nat), D = [.v (rowD W xs), .v (rowD W ys), .own (f.map fun X => frD (fr W X)), .v (.int t), .v (frD (fr W a))] ∧ m = ys.length - t ∧ t ≤ ys.length ∧ f.length = i + t ∧ f ++ togZ (a :: xs.drop (i + 1)) (ys.drop t) = togZ xs ys) (ys.length - t) ⟨f, t, rfl, rfl, ht, hf, e⟩ fun m D1 hI => ?_⟩
    clear e hf ht
    obtain ⟨f, t, rfl, rfl, ht, hf, e⟩ := hI
    by_cases hlt : t < ys.length
    · have okb : Ok W ys[t] := hy _ (List.getElem_mem hlt)
      refine ⟨_, gb_and (gb_test (gd_b0 gd_var (gd_len (ds := ys.map fun X => frD (fr W X)) gd_var))) (fun _ => gb_val (gd_call (ga_cons (gd_ixL (ds := ys.map fun X => frD (fr W X)) gd_var gd_var (atD rfl (fr_at hlt))) (ga_cons gd_var ga_nil)) ⟨W, _, a, rfl, okb, oka, rfl⟩)), fun h => ?_, fun h => ?_⟩
      · have h2 := of_decide_eq_true (Bool.and_eq_true_iff.mp h).2
        refine gs_app (k := 2) rfl (ga_cons (gd_ixL (ds := ys.map fun X => frD (fr W X)) gd_var gd_var (atD rfl (fr_at hlt))) ga_nil) (by rw [List.length_map]; omega) (gs_asg (gd_i0 gd_var gd_int) (gs_nx ⟨_, ?_, f ++ [ys[t]], t + 1, ?_, rfl, by omega, by rw [List.length_append, hf]; simp; omega, ?_⟩))
        · omega
        · rw [List.map_append]
          rfl
        · rw [← e, List.drop_eq_getElem_cons hlt, tog_lt h2]
          simp
      · have h2 : ¬ ys[t] < a := by
          rw [Bool.and_eq_false_iff] at h
          rcases h with h | h
          · exact absurd (of_decide_eq_false h) (by rw [ly]; omega)
          · exact of_decide_eq_false h
        refine gs_app (k := 2) rfl (ga_cons gd_var ga_nil) (by rw [List.length_map]; omega) (gs_next (D' := [.v (rowD W xs), .v (rowD W ys), .own ((f ++ [a]).map fun X => frD (fr W X)), .v (.int t), .no]) ⟨f ++ [a], t, rfl, ht, by rw [List.length_append, hf]; simp; omega, ?_⟩ ⟨.inr rfl, .inr rfl, .inr (by rw [List.map_append] <;> rfl), .inr rfl, .inl rfl, trivial⟩)
        rw [← e, tog_ge (fun x hx => by rw [List.drop_eq_getElem_cons hlt] at hx; cases hx; exact h2)]
        simp
    · have et : t = ys.length := by omega
      refine ⟨false, gb_and0 (Gb.is (gb_test (gd_b0 gd_var (gd_len (ds := ys.map fun X => frD (fr W X)) gd_var))) (decide_eq_false (by rw [ly]; omega))), no_ft, fun _ => ?_⟩
      refine gs_app (k := 2) rfl (ga_cons gd_var ga_nil) (by rw [List.length_map]; omega) (gs_next (D' := [.v (rowD W xs), .v (rowD W ys), .own ((f ++ [a]).map fun X => frD (fr W X)), .v (.int t), .no]) ⟨f ++ [a], t, rfl, ht, by rw [List.length_append, hf]; simp; omega, ?_⟩ ⟨.inr rfl, .inr rfl, .inr (by rw [List.map_append] <;> rfl), .inr rfl, .inl rfl, trivial⟩)
      rw [← e, tog_ge (fun x hx => by rw [et, List.drop_length] at hx; cases hx)]
      simp
  · obtain ⟨f, t, rfl, ht, hf, e⟩ := hI
    rw [List.length_map, List.drop_length] at e
    rw [List.length_map] at hf
    refine gs_ret (gr_of (gd_new (gl_catO (k := 2) rfl (gd_new (gl_slice (ds := ys.map fun X => frD (fr W X)) gd_var (go_some gd_var) go_none)) ?_))) ?_
    · rw [cut_drop (by rw [ly]; exact ht), List.length_map, List.length_drop, ly]
      omega
    · rw [cut_drop (by rw [ly]; exact ht)]
      show PyData.list _ = PyData.list _
      rw [← e, List.map_append, ← List.map_drop]
      rfl
theorem pow8 {n : Nat} (h : n ≤ 8) : 2 ^ n ≤ 256 := Nat.pow_le_pow_right (by decide) h
theorem ok_sort (T : Tx K mg fd C) : ∀ n : Nat, FnOk P w K mg base CX0 (n + 3) (He.ga K "sorted_by_worth") (fd "sorted_by_worth") ["some"] (spR K C (R_sort n))
  | 0 => by
    refine (ok_of (k := 2) T.F_sorted_by_worth sc_sorted_by_worth (fun ds d h => by obtain ⟨W, xs, rfl, _⟩ := h; rfl) fun cdv A outer s H E hr ds d h => ?_)
    obtain ⟨W, xs, rfl, hx, hl, _, rfl⟩ := h
    have G_together := ok_together (P := P) (w := w) (base := base) T
    have lx : (xs.map fun X => frD (fr W X)).length = xs.length := List.length_map _
    have hl' : xs.length ≤ 1 := hl
    have G_sorted_by_worth : FnOk P w K mg base CX0 0 (He.ga K "sorted_by_worth") (fd "sorted_by_worth") ["some"] (spR K C fun _ _ => False) := ⟨fun vs H Q E h => by obtain ⟨_, _, _, _, _, h, _⟩ := h; exact h.elim, fun A outer s H args us vs Q E _ _ _ _ h => by obtain ⟨_, _, _, _, _, h, _⟩ := h; exact h.elim⟩
    refine ⟨_, (pss_cons (ps_if (pt_cmpR op_lt (pe_callB (call_lenK K) (by rfl) T.n_len (by decide +kernel) (pa_cons (pv 0) pa_nil)) pe_int (nomark _))
    (pss_cons (ps_ret (pe_callTy (call_listK K) (by rfl) T.n_list (by decide +kernel) (pa_cons (pv 0) pa_nil)))
    pss_nil)
    pss_nil)
    (pss_cons (ps_set (i := 1) sc_sorted_by_worth.nd rfl (.inl rfl) (pe_op op_fdivW (pe_callB (call_lenK K) (by rfl) T.n_len (by decide +kernel) (pa_cons (pv 0) pa_nil)) pe_int))
    (pss_cons (ps_ret (pe_call G_together (hr.mono (by decide)) (by rfl) T.m_together T.F_together.kp T.b_together .nil pass0 (pa_cons (pe_call G_sorted_by_worth (hr.mono (by decide)) (by rfl) T.m_sorted_by_worth T.F_sorted_by_worth.kp T.b_sorted_by_worth .nil pass0 (pa_cons (pe_slice (sl_listK K) (pv 0) po_none (po_some (pv 1))) pa_nil)) (pa_cons (pe_call G_sorted_by_worth (hr.mono (by decide)) (by rfl) T.m_sorted_by_worth T.F_sorted_by_worth.kp T.b_sorted_by_worth .nil pass0 (pa_cons (pe_slice (sl_listK K) (pv 0) (po_some (pv 1)) po_none) pa_nil)) pa_nil))))
    pss_nil))), ?_⟩
    refine gs_if (gb_test (gd_b0 (gd_len (ds := xs.map fun X => frD (fr W X)) gd_var) gd_int)) (fun _ => gs_ret (gr_of (gd_new (gl_listof (ds := xs.map fun X => frD (fr W X)) gd_var))) rfl) (fun h => absurd (of_decide_eq_false h) (by rw [lx]; omega))
  | n + 1 => by
    refine (ok_of (k := n + 3) T.F_sorted_by_worth sc_sorted_by_worth (fun ds d h => by obtain ⟨W, xs, rfl, _⟩ := h; rfl) fun cdv A outer s H E hr ds d h => ?_)
    obtain ⟨W, xs, rfl, hx, hl, hn, rfl⟩ := h
    have G_together := FnOk.mono (ok_together (P := P) (w := w) (base := base) T) (show 2 ≤ n + 3 by omega)
    have G_sorted_by_worth := ok_sort T n
    have lx : (xs.map fun X => frD (fr W X)).length = xs.length := List.length_map _
    have hp := pow8 hn
    refine ⟨_, (pss_cons (ps_if (pt_cmpR op_lt (pe_callB (call_lenK K) (by rfl) T.n_len (by decide +kernel) (pa_cons (pv 0) pa_nil)) pe_int (nomark _))
    (pss_cons (ps_ret (pe_callTy (call_listK K) (by rfl) T.n_list (by decide +kernel) (pa_cons (pv 0) pa_nil)))
    pss_nil)
    pss_nil)
    (pss_cons (ps_set (i := 1) sc_sorted_by_worth.nd rfl (.inl rfl) (pe_op op_fdivW (pe_callB (call_lenK K) (by rfl) T.n_len (by decide +kernel) (pa_cons (pv 0) pa_nil)) pe_int))
    (pss_cons (ps_ret (pe_call G_together hr (by rfl) T.m_together T.F_together.kp T.b_together .nil pass0 (pa_cons (pe_call G_sorted_by_worth hr (by rfl) T.m_sorted_by_worth T.F_sorted_by_worth.kp T.b_sorted_by_worth .nil pass0 (pa_cons (pe_slice (sl_listK K) (pv 0) po_none (po_some (pv 1))) pa_nil)) (pa_cons (pe_call G_sorted_by_worth hr (by rfl) T.m_sorted_by_worth T.F_sorted_by_worth.kp T.b_sorted_by_worth .nil pass0 (pa_cons (pe_slice (sl_listK K) (pv 0) (po_some (pv 1)) po_none) pa_nil)) pa_nil))))
    pss_nil))), ?_⟩
    refine gs_if (gb_test (gd_b0 (gd_len (ds := xs.map fun X => frD (fr W X)) gd_var) gd_int)) (fun h => gs_ret (gr_of (gd_new (gl_listof (ds := xs.map fun X => frD (fr W X)) gd_var))) ?_) (fun h => gs_nx ?_)
    · have h' := of_decide_eq_true h
      rw [lx] at h'
      show PyData.list _ = rowD W _
      unfold sortZ
      rw [if_pos (by omega)]
      rfl
    · have h' := of_decide_eq_false h
      rw [lx] at h'
      have hh : xs.length / 2 ≤ xs.length := by omega
      refine gs_asg (d := .int ((xs.length / 2 : Nat) : Int)) (Gd.is (gd_i (gd_len (ds := xs.map fun X => frD (fr W X)) gd_var) gd_int (cdiv (by omega) (by omega))) (by rw [lx]; rfl)) ?_
      rw [Nat.pow_succ] at hl
      refine gs_ret (gr_of (gd_call (ga_cons (gd_call (ga_cons (gd_new (gl_slice (ds := xs.map fun X => frD (fr W X)) gd_var go_none (go_some gd_var))) ga_nil) ⟨W, xs.take (xs.length / 2), ?_, fun x h => hx x (List.mem_of_mem_take h), ?_, by omega, rfl⟩) (ga_cons (gd_call (ga_cons (gd_new (gl_slice (ds := xs.map fun X => frD (fr W X)) gd_var (go_some gd_var) go_none)) ga_nil) ⟨W, xs.drop (xs.length / 2), ?_, fun x h => hx x (List.mem_of_mem_drop h), ?_, by omega, rfl⟩) ga_nil)) ⟨W, _, _, rfl, ?_, ?_, ?_, rfl⟩)) ?_
      · rw [cut_take (by rw [lx]; exact hh), ← List.map_take]
        rfl
      · rw [List.length_take]
        omega
      · rw [cut_drop (by rw [lx]; exact hh), ← List.map_drop]
        rfl
      · rw [List.length_drop]
        omega
      · exact fun x h => hx x (List.mem_of_mem_take ((sort_mem ..).mp h))
      · exact fun x h => hx x (List.mem_of_mem_drop ((sort_mem ..).mp h))
      · rw [sort_len, sort_len, List.length_take, List.length_drop]
        omega
      · show rowD W _ = rowD W _
        conv => rhs; unfold sortZ
        rw [if_neg (by omega)]
end
end Du

namespace Du
open PySem PySem.Spec PyProof.Rows L2
theorem eqv_nil (ds : List PyData) : PyData.eqv (.list ds) (.list []) = decide (ds = []) := by
  cases ds with
  | nil => simp [PyData.eqv, PyData.eqvAll]
  | cons x xs => simp [PyData.eqv, PyData.eqvAll]
def R_parts (ds : List PyData) (d : PyData) : Prop := ∃ (W : Int) (Xs : List Int), ds = [rowD W Xs] ∧ 0 < W ∧ W ≤ 10000000 ∧ (∀ X ∈ Xs, 0 ≤ X ∧ X ≤ 100000000) ∧ Xs.length ≤ 100 ∧ d = rowD W (riseZ (sortZ 8 (candZ W Xs)))
section
variable {P : Program} {w : World} {K : PySem.W.Frag} {mg : Str → Option Value} {base : Heap} {fd : Str → FuncData} {C : Addr}
theorem ok_rising (T : Tx K mg fd C) : FnOk P w K mg base CX0 12 (He.ga K "rising") (fd "rising") ["some"] (spR K C R_rise) := by
  refine ok_of T.F_rising sc_rising (fun ds d h => by obtain ⟨W, xs, rfl, _⟩ := h; rfl) fun cdv A outer s H E hr ds d h => ?_
  obtain ⟨W, xs, rfl, hx, hl, rfl⟩ := h
  have G_sorted_by_worth := ok_sort (P := P) (w := w) (base := base) T 8
  refine ⟨_, (pss_cons (ps_set (i := 1) sc_rising.nd rfl (.inl rfl) (pe_lst pa_nil))
    (pss_cons (ps_for PassesOwn.never rfl (pi_listK K (pe_call G_sorted_by_worth (hr.mono (by decide)) (by rfl) T.m_sorted_by_worth T.F_sorted_by_worth.kp T.b_sorted_by_worth .nil pass0 (pa_cons (pv 0) pa_nil))) (pg_name (i := 2) sc_rising.nd rfl (.inl rfl))
    (pss_cons (ps_if (PW.pt (pw_or (pt_cmpR (op_eqD hr.units) (pv 1) (pe_lst pa_nil) (nomark _)) (pw_or1 (pt_cmpR (op_neD hr.units) (pe_ix (ix_listK K) (pv 1) (pe_un un_neg pe_int) (fun _ _ => rfl)) (pv 2) (nomark _)))))
    (pss_cons (ps_expr (pe_bm PySem.F.plainAttrs_list PySem.F.slot_list_append PySem.F.type_list_append mt_append (pv 1) (pa_cons (pv 2) pa_nil)))
    pss_nil)
    pss_nil)
    pss_nil))
    (pss_cons (ps_ret (pv 1))
    pss_nil))), ?_⟩
  refine gs_asgL (gl_lst ga_nil) ?_
  generalize hs : sortZ 8 xs = ys
  have ly : ys.length ≤ 256 := by rw [← hs, sort_len]; exact hl
  have hy : OkL W ys := fun x h => hx x (by rw [← hs] at h; exact (sort_mem ..).mp h)
  have gsort : Gd K C (tCall (spR K C (R_sort 8)) [] E0 (tCons (tVar 0) tNil)) [.v (rowD W xs), .own [], .no] (rowD W ys) := gd_call (ga_cons gd_var ga_nil) ⟨W, xs, rfl, hx, hl, Nat.le_refl _, by rw [hs]⟩
  refine gs_for (is := [2]) (gi_list (ds := ys.map fun X => frD (fr W X)) gsort) (fun i D => D = [.v (rowD W xs), .own (((ys.take i).foldl riseUp []).map fun X => frD (fr W X)), .no]) rfl (fun i D1 d hd hI => ?_) (fun D1 hI => ?_)
  · subst hI
    rw [List.getElem?_map] at hd
    obtain ⟨a, ha, rfl⟩ := Option.map_eq_some_iff.mp hd
    have oka : Ok W a := hy a (List.mem_of_getElem? ha)
    have hi := (List.getElem?_eq_some_iff.mp ha).1
    have e1 : (ys.take (i + 1)).foldl riseUp [] = riseUp ((ys.take i).foldl riseUp []) a := by
      rw [List.take_add_one, ha, List.foldl_append]
      rfl
    have lf := (rise_fold (ys.take i) []).2.2
    have mf := (rise_fold (ys.take i) []).1
    generalize (ys.take i).foldl riseUp [] = f at *
    have lf2 : f.length ≤ 256 := by
      rw [List.length_take] at lf
      simp at lf
      omega
    refine ⟨_, gg_name, ?_⟩
    have yes : riseUp f a = f ++ [a] → GS K C (tSeq (tDrop (tBM K "list" rAppend (tVar 1) (tCons (tVar 2) tNil))) tNext) [.v (rowD W xs), .own (f.map fun X => frD (fr W X)), .v (frD (fr W a))] { nx := fun D' => GS K C tNext D' { nx := fun D => D = [.v (rowD W xs), .own (((ys.take (i + 1)).foldl riseUp []).map fun X => frD (fr W X)), .no], rt := fun e => e = rowD W (riseZ ys), bk := fun D' => GS K C (tSeq (tRet (tVar 1)) tNext) D' { nx := fun _ => rowD W (riseZ ys) = PyData.none, rt := fun e => e = rowD W (riseZ ys) }, ct := fun D => D = [.v (rowD W xs), .own (((ys.take (i + 1)).foldl riseUp []).map fun X => frD (fr W X)), .no] }, rt := fun e => e = rowD W (riseZ ys), bk := fun D' => GS K C (tSeq (tRet (tVar 1)) tNext) D' { nx := fun _ => rowD W (riseZ ys) = PyData.none, rt := fun e => e = rowD W (riseZ ys) }, ct := fun D => D = [.v (rowD W xs), .own (((ys.take (i + 1)).foldl riseUp []).map fun X => frD (fr W X)), .no] } := fun hz =>
      gs_app (k := 1) rfl (ga_cons gd_var ga_nil) (by rw [List.length_map]; omega) (gs_nx (gs_next (D' := [.v (rowD W xs), .own (((ys.take (i + 1)).foldl riseUp []).map fun X => frD (fr W X)), .no]) rfl ⟨.inr rfl, .inr (by rw [e1, hz, List.map_append] <;> rfl), .inl rfl, trivial⟩))
    by_cases hn : f = []
    · refine gs_if (gb_or1 (Gb.is (gb_test (gr_eqD gr_own (gr_of (gd_new (gl_lst ga_nil))) (eqOk_row W f) rfl)) ?_)) (fun _ => yes ?_) no_tf
      · rw [eqv_nil, hn]
        rfl
      · unfold riseUp
        rw [if_pos (.inl hn)]
    · obtain ⟨g, b, rfl⟩ : ∃ g b, f = g ++ [b] := ⟨f.dropLast, f.getLast hn, (List.dropLast_concat_getLast hn).symm⟩
      have okb : Ok W b := by
        have hm := (mf b).mp (by simp)
        rcases hm with z | z
        · cases z
        · exact hy b (List.mem_of_mem_take z)
      refine gs_if (b := !decide (b = a)) (Gb.is (gb_or (b := false) (Gb.is (gb_test (gr_eqD gr_own (gr_of (gd_new (gl_lst ga_nil))) (eqOk_row W (g ++ [b])) rfl)) ?_) (fun _ => gb_test (gr_neD (gr_of (gd_ixO (k := 1) (ds := (g ++ [b]).map fun X => frD (fr W X)) (d := frD (fr W b)) rfl (gd_un gd_int) ?_)) (gr_of gd_var) (eqOk_frD _) (eqOk_frD _)))) ?_) (fun h => yes ?_) (fun h => gs_nx (gs_next (D' := [.v (rowD W xs), .own (((ys.take (i + 1)).foldl riseUp []).map fun X => frD (fr W X)), .no]) rfl ⟨.inr rfl, .inr ?_, .inl rfl, trivial⟩))
      · rw [eqv_nil]
        simp
      · rw [List.map_append]
        exact atI_last _ _
      · rw [eqv_frD, Bool.false_or]
        congr 1
        exact decide_eq_decide.mpr ⟨fun z => fr_inj okb.pos z, fun z => by rw [z]⟩
      · have h' : ¬ b = a := by simpa using h
        unfold riseUp
        rw [if_pos (.inr (by simpa using h'))]
      · have h' : b = a := by simpa using h
        rw [e1]
        unfold riseUp
        rw [if_neg (by simpa using h')]
  · subst hI
    rw [List.length_map, List.take_length]
    exact gs_ret gr_own rfl
theorem ok_all_in (T : Tx K mg fd C) : FnOk P w K mg base CX0 1 (He.ga K "all_in") (fd "all_in") ["rows"] (spR K C R_all) := by
  refine ok_of T.F_all_in sc_all_in (fun ds d h => by obtain ⟨W, T, rfl, _⟩ := h; rfl) fun cdv A outer s H E hr ds d h => ?_
  obtain ⟨W, Tb, rfl, hl, hl2, rfl⟩ := h
  refine ⟨_, (pss_cons (ps_set (i := 1) sc_all_in.nd rfl (.inl rfl) (pe_lst pa_nil))
    (pss_cons (ps_for PassesOwn.never rfl (pi_listK K (pv 0)) (pg_name (i := 2) sc_all_in.nd rfl (.inl rfl))
    (pss_cons (ps_set (i := 1) sc_all_in.nd rfl (.inl rfl) (pe_op op_cat (pv 1) (pe_callTy (call_listK K) (by rfl) T.n_list (by decide +kernel) (pa_cons (pv 2) pa_nil))))
    pss_nil))
    (pss_cons (ps_ret (pv 1))
    pss_nil))), ?_⟩
  refine gs_asg (gd_new (gl_lst ga_nil)) ?_
  refine gs_for (is := [2]) (gi_list (ds := Tb.map (rowD W)) gd_var) (fun i D => D = [.v (tabD W Tb), .v (rowD W (Tb.take i).flatten), .no]) rfl (fun i D1 d hd hI => ?_) (fun D1 hI => ?_)
  · subst hI
    rw [List.getElem?_map] at hd
    obtain ⟨r, hr1, rfl⟩ := Option.map_eq_some_iff.mp hd
    have e1 : (Tb.take (i + 1)).flatten = (Tb.take i).flatten ++ r := by
      rw [List.take_add_one, hr1, List.flatten_append]
      simp
    have hb : ((Tb.take i).flatten ++ r).length ≤ 900 := by
      rw [← e1]
      have : Tb.flatten.length = (Tb.take (i + 1)).flatten.length + (Tb.drop (i + 1)).flatten.length := by rw [← List.length_append, ← List.flatten_append, List.take_append_drop]
      omega
    rw [List.length_append] at hb
    refine ⟨_, gg_name, gs_asg (gd_new (gl_cat (ds := (Tb.take i).flatten.map fun X => frD (fr W X)) (es := r.map fun X => frD (fr W X)) gd_var (gd_new (gl_listof gd_var)) (by rw [List.length_map, List.length_map]; omega))) (gs_next (D' := [.v (tabD W Tb), .v (rowD W (Tb.take (i + 1)).flatten), .no]) rfl ⟨.inr rfl, .inr ?_, .inl rfl, trivial⟩)⟩
    rw [e1]
    unfold rowD
    rw [List.map_append]
  · subst hI
    rw [List.length_map, List.take_length]
    exact gs_ret (gr_of gd_var) rfl
/-! ### parts_of_one: a dict -/
def keyL (W X : Int) : List Int := [(fr W X).1, (fr W X).2]
theorem keyL_inj {W X Y : Int} (hW : 0 < W) (h : keyL W X = keyL W Y) : X = Y := by
  unfold keyL at h
  simp only [List.cons.injEq] at h
  exact fr_inj hW (Prod.ext h.1 h.2.1)
theorem at_none {xs : DK} {k : List Int} : (atKey xs k).isSome = true ↔ k ∈ xs.map (·.1) := by
  unfold atKey
  rw [Option.isSome_map, List.find?_isSome]
  simp
theorem stored_keys {xs : DK} {k : List Int} {p : Addr} {v : Value} : (storedH xs k p v).map (·.1) = if k ∈ xs.map (·.1) then xs.map (·.1) else xs.map (·.1) ++ [k] := by
  unfold storedH
  by_cases h : k ∈ xs.map (·.1)
  · rw [if_pos (at_none.mpr h), if_pos h, List.map_map]
    refine List.map_congr_left fun x _ => ?_
    show (putAt k v x).1 = x.1
    unfold putAt
    split <;> rfl
  · rw [if_neg (fun z => h (at_none.mp z)), if_neg h, List.map_append]
    rfl
theorem stored_keyed {G : Hp} {xs : DK} {k : List Int} {p : Addr} {v : Value} (h : Keyed K G xs) (hp : SqT K G p (k.map V.int)) : Keyed K G (storedH xs k p v) := by
  constructor
  · intro x hx
    unfold storedH at hx
    split at hx
    · obtain ⟨y, hy, rfl⟩ := List.mem_map.mp hx
      have := h.at_ y hy
      unfold putAt
      split
      · exact this
      · exact this
    · rcases List.mem_append.mp hx with z | z
      · exact h.at_ x z
      · rw [List.mem_singleton.mp z]
        exact hp
  · rw [stored_keys]
    split
    · exact h.nd
    · rename_i hk
      rw [List.nodup_append]
      exact ⟨h.nd, by simp, fun a ha b hb => by rw [List.mem_singleton.mp hb]; exact fun e => hk (e ▸ ha)⟩
theorem ins_keys {W : Int} (hW : 0 < W) {cs : List Int} {x : Int} : (if keyL W x ∈ cs.map (keyL W) then cs.map (keyL W) else cs.map (keyL W) ++ [keyL W x]) = (insZ cs x).map (keyL W) := by
  unfold insZ
  by_cases h : x ∈ cs
  · rw [if_pos h, if_pos (List.mem_map_of_mem h)]
  · rw [if_neg h, if_neg, List.map_append]
    · rfl
    · intro z
      obtain ⟨y, hy, e⟩ := List.mem_map.mp z
      exact h (keyL_inj hW e ▸ hy)
theorem Keyed.up {G G' : Hp} {xs : DK} (h : Keyed K G xs) (e : Same G G') : Keyed K G' xs := ⟨fun x hx => sqT_mono e (h.at_ x hx), h.nd⟩
theorem Conc.move {S0 S : Addr → Prop} {H0 H : Hp} {D : List Sl} {st st' : L2.St} (c : Conc K C S0 H0 S D st H) (hl : st'.length = D.length) (h : ∀ (i : Nat) x, D[i]? = some x → x ≠ .no → st'[i]? = st[i]?) : Conc K C S0 H0 S D st' H where
  len := hl
  sub := c.sub
  dom0 := c.dom0
  dom := c.dom
  old := c.old
  val := fun i d q => by
    rw [h i _ q (fun z => nomatch z)]
    exact c.val i d q
  own := fun i ds q => by
    rw [h i _ q (fun z => nomatch z)]
    exact c.own i ds q
  sep := fun i j ds es l q1 q2 a b => by
    rw [h i _ q1 (fun z => nomatch z)] at a
    rw [h j _ q2 (fun z => nomatch z)] at b
    exact c.sep i j ds es l q1 q2 a b
theorem at_key {G : Hp} {v : V} {W X : Int} (h : At K C G v (frD (fr W X))) : ∃ p, v = .ref p ∧ SqT K G p ((keyL W X).map V.int) := by
  cases h with
  | @tup a vs _ hl hs =>
    cases hs with
    | cons h1 t =>
      cases h1
      cases t with
      | cons h2 t =>
        cases h2
        cases t
        exact ⟨a, rfl, hl⟩
theorem ok_parts (T : Tx K mg fd C) : FnOk P w K mg base CX0 13 (He.ga K "parts_of_one") (fd "parts_of_one") ["dues"] (spR K C R_parts) := by
  refine ok_of T.F_parts_of_one sc_parts_of_one (fun ds d h => by obtain ⟨W, xs, rfl, _⟩ := h; rfl) fun cdv A outer s H E hr ds d h => ?_
  obtain ⟨W, Xs, rfl, hW, hW2, hX, hl, rfl⟩ := h
  have G_minus := ok_minus (P := P) (w := w) (base := base) T
  have G_floor_of := ok_floor_of (P := P) (w := w) (base := base) T
  have G_rising := ok_rising (P := P) (w := w) (base := base) T
  have hu := hu_of hr
  refine ⟨_, (pss_cons (ps_set (i := 1) sc_parts_of_one.nd rfl (.inl rfl) (pe_dispX (k1 := [0, 1]) (k2 := [1, 1]) (pe_gl rfl T.c_NOUGHT) (pe_gl rfl T.c_ONE) pe_bl pe_bl T.k_NOUGHT T.k_ONE (Nat.lt_of_succ_lt hu)))
    (pss_cons (ps_for PassesOwn.never rfl (pi_listK K (pv 0)) (pg_name (i := 2) sc_parts_of_one.nd rfl (.inl rfl))
      (pss_cons (ps_set (i := 3) sc_parts_of_one.nd rfl (.inl rfl) (pe_call G_minus (hr.mono (by decide)) (by rfl) T.m_minus T.F_minus.kp T.b_minus .nil pass0 (pa_cons (pv 2) (pa_cons (pe_tup (pa_cons (pe_call G_floor_of (hr.mono (by decide)) (by rfl) T.m_floor_of T.F_floor_of.kp T.b_floor_of .nil pass0 (pa_cons (pv 2) pa_nil)) (pa_cons pe_int pa_nil))) pa_nil))))
      (pss_cons (ps_asg pe_bl (pg_sub (pv 1) (pv 3) (set_dct hu)))
      (pss_cons (ps_asg pe_bl (pg_sub (pv 1) (pe_call G_minus (hr.mono (by decide)) (by rfl) T.m_minus T.F_minus.kp T.b_minus .nil pass0 (pa_cons (pe_gl rfl T.c_ONE) (pa_cons (pv 3) pa_nil))) (set_dct hu)))
      pss_nil))))
    (pss_cons (ps_ret (pe_call G_rising hr (by rfl) T.m_rising T.F_rising.kp T.b_rising .nil pass0 (pa_cons (pe_callTy (call_listX rfl) (by rfl) T.n_list (by decide +kernel) (pa_cons (pv 1) pa_nil)) pa_nil)))
    pss_nil))), ?_⟩
  intro S0 H0 S st H E c nx rt _ _
  obtain ⟨v0, b0, c0, d0, rfl⟩ : ∃ a b c d, st = [a, b, c, d] := by
    have := c.len
    match st, this with
    | [a, b, c, d], _ => exact ⟨a, b, c, d, rfl⟩
  obtain ⟨v, hv, hat⟩ := c.val 0 _ rfl
  have hv : v0 = some v := Option.some.inj hv
  subst hv
  intro d hd
  cases hat with
  | @lst a vs _ ha hs =>
    have nad : a ≠ d := ne_of_none (hid_some ha).2 hd
    have ha2 := (hid_some ha).2
    have lvs : vs.length = Xs.length := by rw [hs.len, List.length_map]
    have sq : ∀ {H' : Hp}, Same H H' → SqL K H' a vs := fun e => SqL.of (e _ _ ha2)
    let cF : Nat → List Int := fun i => (Xs.take i).foldl (fun cs X => insZ (insZ cs (X % W)) (W - X % W)) [0, W]
    have cl : ∀ i, (cF i).length ≤ 202 := fun i => by
      have := (cand_fold W (Xs.take i) [0, W]).2
      have l2 : (Xs.take i).length ≤ 100 := by rw [List.length_take]; omega
      show ((Xs.take i).foldl (fun cs X => insZ (insZ cs (X % W)) (W - X % W)) [0, W]).length ≤ 202
      simp only [List.length_cons, List.length_nil] at this
      omega
    refine ⟨.ref a, rfl, a, rfl, ⟨vs, sq (same_new hd)⟩, for_list (K := K) (a := a) (xs := vs) (fun i st' H' => ∃ y2 y3 xs, st' = [some (.ref a), some (.ref d), y2, y3] ∧ Same H H' ∧ H' d = some (DcO P w d xs) ∧ Keyed K (hid (more S d) H') xs ∧ xs.map (·.1) = (cF i).map (keyL W)) ?_ (fun i st' H' _ h => ?_) (fun i x st' H' hi h => ?_) (fun st' H' h => ?_)⟩
    · refine ⟨c0, d0, _, rfl, same_new hd, upd_same, ⟨fun x hx => ?_, ?_⟩, ?_⟩
      · have hx : x ∈ ([([0, 1], He.ga K "NOUGHT", Value.bool true), ([1, 1], He.ga K "ONE", Value.bool true)] : DK) := hx
        rcases List.mem_cons.mp hx with z | z
        · rw [z]
          exact T.k_NOUGHT _
        · rw [List.mem_singleton.mp z]
          exact T.k_ONE _
      · show ([[0, 1], [1, 1]] : List (List Int)).Nodup
        decide
      · show ([[0, 1], [1, 1]] : List (List Int)) = [keyL W 0, keyL W W]
        unfold keyL
        rw [fr_zero hW, fr_one hW]
    · obtain ⟨_, _, _, _, e, _⟩ := h
      exact sq e
    · obtain ⟨y2, y3, xs, rfl, e0, hD, hk, hm⟩ := h
      obtain ⟨dX, hdX, hax⟩ := hs.get' hi
      rw [List.getElem?_map] at hdX
      obtain ⟨X, hX1, rfl⟩ := Option.map_eq_some_iff.mp hdX
      have xm := hX X (List.mem_of_getElem? hX1)
      have f1 : 0 ≤ X % W := Int.emod_nonneg _ (by omega)
      have f2 : X % W < W := Int.emod_lt_of_pos _ hW
      have f3 : X / W * W = X - X % W := by
        have := Int.emod_add_mul_ediv X W
        rw [Int.mul_comm W] at this
        omega
      have okX : Ok W X := ⟨hW, hW2, by omega, by omega⟩
      have okF : Ok W (X / W * W) := ⟨hW, hW2, by omega, by omega⟩
      have okP : Ok W (X % W) := ⟨hW, hW2, by omega, by omega⟩
      have okW : Ok W W := ⟨hW, hW2, by omega, by omega⟩
      have cn : cF (i + 1) = insZ (insZ (cF i) (X % W)) (W - X % W) := by
        show (Xs.take (i + 1)).foldl _ _ = _
        rw [List.take_add_one, hX1, List.foldl_append]
        rfl
      have lx : xs.length ≤ 202 := by
        have := congrArg List.length hm
        rw [List.length_map, List.length_map] at this
        have := cl i
        omega
      have upS : Same (hid S H) (hid (more S d) H') := hid_more e0 hd
      have dm : ∀ b, more S d b → H' b ≠ none := fun b z => by
        rcases z with z | z
        · intro q
          exact c.dom b z (e0.free q)
        · rw [z, hD]
          simp
      have cc : Conc K C S H (more S d) [.v (rowD W Xs), .no, .v (frD (fr W X)), .no] [some (.ref a), some (.ref d), some x, y3] H' := by
        refine ⟨rfl, fun b z => .inl z, c.dom, dm, e0, fun j e q => ?_, fun j es q => ?_, fun j k es fs l q _ => ?_⟩
        · match j, q with
          | 0, q =>
            cases q
            exact ⟨_, rfl, .lst (upS _ _ ha) (hs.up upS)⟩
          | 2, q =>
            cases q
            exact ⟨x, rfl, hax.up upS⟩
          | 1, q => cases q
          | 3, q => cases q
          | n + 4, q => cases q
        · match j, q with
          | 0, q => cases q
          | 1, q => cases q
          | 2, q => cases q
          | 3, q => cases q
          | n + 4, q => cases q
        · match j, q with
          | 0, q => cases q
          | 1, q => cases q
          | 2, q => cases q
          | 3, q => cases q
          | n + 4, q => cases q
      have gp : Gd K C (tCall (spR K C R_minus) [] E0 (tCons (tVar 2) (tCons (tTup (tCons (tCall (spR K C R_floor) [] E0 (tCons (tVar 2) tNil)) (tCons (tC (.int 1)) tNil))) tNil))) [.v (rowD W Xs), .no, .v (frD (fr W X)), .no] (frD (fr W (X % W))) := by
        have gt : Gd K C (tTup (tCons (tCall (spR K C R_floor) [] E0 (tCons (tVar 2) tNil)) (tCons (tC (.int 1)) tNil))) [.v (rowD W Xs), .no, .v (frD (fr W X)), .no] (frD (fr W (X / W * W))) := by
          rw [fr_whole hW]
          exact gd_tup (ga_cons (gd_call (ga_cons gd_var ga_nil) ⟨W, X, rfl, okX, rfl⟩) (ga_cons gd_int ga_nil))
        exact gd_call (ga_cons gd_var (ga_cons gt ga_nil)) ⟨W, X, X / W * W, rfl, okX, okF, by rw [show X - X / W * W = X % W by omega]⟩
      refine gp _ _ _ _ _ cc _ fun v H1 e1 a1 => ?_
      have c1 := (cc.up e1).set (i := 3) a1
      obtain ⟨p, rfl, hp⟩ := at_key a1
      have hD1 := e1 _ _ hD
      have hk1 := hk.up (hid_mono (S := more S d) e1)
      have hk1' : Keyed K H1 xs := hk1.up hid_le
      refine ⟨.ref d, rfl, .ref p, rfl, d, p, keyL W (X % W), xs, rfl, rfl, rfl, sqT_mono hid_le hp, hD1, hk1', by omega, ?_⟩
      have sd : more S d d := .inr rfl
      have hk2 : Keyed K (hid (more S d) (upd H1 d (DcO P w d (storedH xs (keyL W (X % W)) p (.bool true))))) (storedH xs (keyL W (X % W)) p (.bool true)) := by
        rw [hid_upd sd]
        exact stored_keyed hk1 hp
      have hm2 : (storedH xs (keyL W (X % W)) p (.bool true)).map (·.1) = (insZ (cF i) (X % W)).map (keyL W) := by
        rw [stored_keys, hm, ins_keys hW]
      generalize storedH xs (keyL W (X % W)) p (.bool true) = xs2 at *
      have lx2 : xs2.length ≤ 203 := by
        have := congrArg List.length hm2
        rw [List.length_map, List.length_map] at this
        have l2 : (insZ (cF i) (X % W)).length ≤ (cF i).length + 1 := by
          unfold insZ
          split <;> simp
        have := cl i
        omega
      have e2 : Same H (upd H1 d (DcO P w d xs2)) := same_mut (e0.trans e1) hd
      have hD2 : (upd H1 d (DcO P w d xs2)) d = some (DcO P w d xs2) := upd_same
      have c2 : Conc K C S H (more S d) [.v (rowD W Xs), .no, .v (frD (fr W X)), .v (frD (fr W (X % W)))] [some (.ref a), some (.ref d), some x, some (.ref p)] (upd H1 d (DcO P w d xs2)) := by
        refine ⟨rfl, c1.sub, c1.dom0, fun b z => ?_, e2, fun j e q => ?_, fun j es q => ?_, c1.sep⟩
        · by_cases eb : b = d
          · rw [eb, hD2]
            simp
          · rw [upd_ne eb]
            exact c1.dom b z
        · rw [hid_upd sd]
          exact c1.val j e q
        · match j, q with
          | 0, q => cases q
          | 1, q => cases q
          | 2, q => cases q
          | 3, q => cases q
          | n + 4, q => cases q
      have gq : Gd K C (tCall (spR K C R_minus) [] E0 (tCons (tC (.ref (He.ga K "ONE"))) (tCons (tVar 3) tNil))) [.v (rowD W Xs), .no, .v (frD (fr W X)), .v (frD (fr W (X % W)))] (frD (fr W (W - X % W))) :=
        gd_call (ga_cons (gd_tupK (ns := [1, 1]) T.k_ONE) (ga_cons gd_var ga_nil)) ⟨W, W, X % W, by rw [fr_one hW] <;> rfl, okW, okP, rfl⟩
      refine ⟨.ref d, rfl, ?_⟩
      refine gq _ _ _ _ _ c2 _ fun v2 H3 e3 a3 => ?_
      obtain ⟨p2, rfl, hp2⟩ := at_key a3
      have hk3 := hk2.up (hid_mono (S := more S d) e3)
      refine ⟨d, p2, keyL W (W - X % W), xs2, rfl, rfl, rfl, sqT_mono hid_le hp2, e3 _ _ hD2, hk3.up hid_le, by omega, ?_⟩
      refine ⟨_, _, _, rfl, same_mut (e2.trans e3) hd, upd_same, ?_, ?_⟩
      · rw [hid_upd sd]
        exact stored_keyed hk3 hp2
      · rw [stored_keys, hm2, ins_keys hW, cn]
    · obtain ⟨y2, y3, xs, rfl, e0, hD, hk, hm⟩ := h
      have hm : xs.map (·.1) = (candZ W Xs).map (keyL W) := by
        rw [hm]
        show ((Xs.take vs.length).foldl (fun cs X => insZ (insZ cs (X % W)) (W - X % W)) [0, W]).map (keyL W) = _
        rw [lvs, List.take_length]
        rfl
      have lx : xs.length = (candZ W Xs).length := by
        have := congrArg List.length hm
        rwa [List.length_map, List.length_map] at this
      have lc := cand_len (W := W) (Xs := Xs)
      refine ⟨.ref d, rfl, d, xs, rfl, hD, by omega, fun l hl2 => ?_⟩
      have e1 : Same H' (upd H' l (.lst (xs.map fun x => V.ref x.2.1))) := same_new hl2
      have nS : ¬ S l := fun z => c.dom l z (e0.free hl2)
      have all : ∀ (ys : DK) (cs : List Int), (∀ x ∈ ys, SqT K (hid (more S d) H') x.2.1 (x.1.map V.int)) → ys.map (·.1) = cs.map (keyL W) → AtAll K C (hid S (upd H' l (.lst (xs.map fun x => V.ref x.2.1)))) (ys.map fun x => V.ref x.2.1) (cs.map fun X => frD (fr W X)) := by
        intro ys
        induction ys with
        | nil =>
          intro cs _ q
          cases cs with
          | nil => exact .nil
          | cons _ _ => cases q
        | cons y ys ih =>
          intro cs g q
          cases cs with
          | nil => cases q
          | cons x cs =>
            rw [List.map_cons, List.map_cons] at q
            injection q with q1 q2
            refine .cons (.tup (xs := (keyL W x).map V.int) (sqT_mono ((hid_sub (S := more S d) (S' := S) fun b z => Or.inl z).trans (hid_mono e1)) ?_) (AtAll.ofInts (keyL W x))) (ih cs (fun z hz => g z (List.mem_cons_of_mem _ hz)) q2)
            rw [← q1]
            exact g y (List.mem_cons_self ..)
      have okc : OkL W (candZ W Xs) := fun y hy => by
        rcases cand_mem.mp hy with z | z | ⟨X, _, z⟩
        · exact ⟨hW, hW2, by omega, by omega⟩
        · exact ⟨hW, hW2, by omega, by omega⟩
        · have f1 : 0 ≤ X % W := Int.emod_nonneg _ (by omega)
          have f2 : X % W < W := Int.emod_lt_of_pos _ hW
          exact ⟨hW, hW2, by omega, by omega⟩
      refine ⟨S, [rowD W (candZ W Xs)], _, fun b z q => c.dom b z (e0.free (e1.free q)), .cons (.lst (by rw [hid_of nS]; exact upd_same) (all xs _ hk.at_ hm)) .nil, ⟨W, _, rfl, okc, by omega, rfl⟩, fun v H3 e3 a3 => ?_⟩
      exact rt _ v H3 rfl (c.old.trans (e0.trans (e1.trans e3))) (a3.up (hid_sub c.sub))
end
end Du

namespace Du
open PySem PySem.Spec PyProof.Rows L2
def wD (ws : List Int) : List PyData := ws.map PyData.int
def spD (sp : List (Nat × List Int)) : List PyData := sp.map fun p => .tuple [.int (p.1 : Nat), .list (wD p.2)]
def keptD (sp : List (Nat × List Int)) : List PyData := sp.map fun p => .tuple [.int (p.1 : Nat), .tuple (wD p.2)]
structure OkW (ws : List Int) : Prop where
  l : 1 ≤ ws.length ∧ ws.length ≤ 3
  w : ∀ x ∈ ws, 0 ≤ x ∧ x ≤ 1000
  s : 0 < ws.sum
structure OkS (n : Nat) (sp : List (Nat × List Int)) : Prop where
  l : 1 ≤ sp.length ∧ sp.length ≤ 2
  t : ∀ p ∈ sp, 1 ≤ p.1 ∧ p.1 ≤ 3
  w : ∀ p ∈ sp, OkW p.2
  n : ∀ p ∈ sp, p.2.length = n
theorem eqOk_list {ds : List PyData} {k : Nat} (h : ∀ d ∈ ds, plainD d = true ∧ d.canLay0 = true ∧ d.depth ≤ k) (hk : k ≤ 60) : eqOk (.list ds) = true := by
  have h1 : ∀ ds : List PyData, (∀ d ∈ ds, plainD d = true ∧ d.canLay0 = true ∧ d.depth ≤ k) → plainAll ds = true ∧ PyData.canLayAll0 ds = true ∧ PyData.depthAll ds ≤ k := fun ds => by
    induction ds with
    | nil =>
      intro _
      refine ⟨rfl, rfl, ?_⟩
      simp [PyData.depthAll]
    | cons x xs ih =>
      intro h
      obtain ⟨a, b, c⟩ := h x (List.mem_cons_self ..)
      obtain ⟨a', b', c'⟩ := ih fun d hd => h d (List.mem_cons_of_mem _ hd)
      refine ⟨?_, ?_, ?_⟩
      · simp only [plainAll, a, a', Bool.and_self]
      · simp only [PyData.canLayAll0, b, b', Bool.and_self]
      · simp only [PyData.depthAll]
        omega
  obtain ⟨a, b, c⟩ := h1 ds h
  unfold eqOk SeqAt.shaped
  rw [Bool.and_eq_true, Bool.and_eq_true]
  refine ⟨?_, ?_, ?_⟩
  · simpa only [plainD] using a
  · simpa only [PyData.canLay0] using b
  · simp only [PyData.depth]
    exact decide_eq_true (by omega)
theorem eqOk_parts {d : PyData} (h : eqOk d = true) : plainD d = true ∧ d.canLay0 = true ∧ d.depth ≤ 64 := by
  unfold eqOk SeqAt.shaped at h
  rw [Bool.and_eq_true, Bool.and_eq_true] at h
  exact ⟨h.1, h.2.1, of_decide_eq_true h.2.2⟩
theorem ints_parts (ws : List Int) : plainD (.list (wD ws)) = true ∧ (PyData.list (wD ws)).canLay0 = true ∧ (PyData.list (wD ws)).depth ≤ 2 := by
  have h : plainAll (wD ws) = true ∧ PyData.canLayAll0 (wD ws) = true ∧ PyData.depthAll (wD ws) ≤ 1 := by
    unfold wD
    induction ws with
    | nil =>
      refine ⟨rfl, rfl, ?_⟩
      simp [PyData.depthAll]
    | cons x xs ih =>
      obtain ⟨a, b, c⟩ := ih
      refine ⟨?_, ?_, ?_⟩
      · simpa [plainAll, plainD] using a
      · simpa [PyData.canLayAll0, PyData.canLay0] using b
      · simp only [List.map_cons, PyData.depthAll, PyData.depth]
        omega
  refine ⟨?_, ?_, ?_⟩
  · simpa only [plainD] using h.1
  · simpa only [PyData.canLay0] using h.2.1
  · simp only [PyData.depth]
    omega
theorem eqOk_sp (sp : List (Nat × List Int)) : eqOk (.list (spD sp)) = true := by
  refine eqOk_list (k := 4) (fun d hd => ?_) (by decide)
  unfold spD at hd
  obtain ⟨p, _, rfl⟩ := List.mem_map.mp hd
  obtain ⟨a, b, c⟩ := ints_parts p.2
  refine ⟨?_, ?_, ?_⟩
  · simp only [plainD, plainAll] at a ⊢
    simp [a]
  · simp only [PyData.canLay0, PyData.canLayAll0] at b ⊢
    simp [b]
  · simp only [PyData.depth, PyData.depthAll] at c ⊢
    omega
def R_whole (ds : List PyData) (d : PyData) : Prop := ∃ n : Int, ds = [.int n] ∧ d = .bool true
def R_weights (ds : List PyData) (d : PyData) : Prop := ∃ ws : List Int, ds = [.list (wD ws)] ∧ OkW ws ∧ d = .bool true
def R_spell (ds : List PyData) (d : PyData) : Prop := ∃ p : Nat × List Int, ds = [.tuple [.int (p.1 : Nat), .list (wD p.2)]] ∧ 1 ≤ p.1 ∧ p.1 ≤ 3 ∧ OkW p.2 ∧ d = .bool true
def R_check (ds : List PyData) (d : PyData) : Prop := ∃ (n : Nat) (sp : List (Nat × List Int)), ds = [.list (spD sp)] ∧ OkS n sp ∧ d = .none
def R_many (ds : List PyData) (d : PyData) : Prop := ∃ (n : Nat) (sp : List (Nat × List Int)) (e : PyData), ds = [.dict [(.list (keptD sp), e)]] ∧ OkS n sp ∧ d = .int (n : Nat)
theorem kit_ii : kitB "int" "int" = some true := by decide +kernel
theorem kit_ib : kitB "int" "bool" = some false := by decide +kernel
theorem kit_ll : kitB "list" "list" = some true := by decide +kernel
theorem kit_tt : kitB "tuple" "tuple" = some true := by decide +kernel
section
variable {P : Program} {w : World} {K : PySem.W.Frag} {mg : Str → Option Value} {base : Heap} {fd : Str → FuncData} {C : Addr}
theorem ok_is_whole (T : Tx K mg fd C) : FnOk P w K mg base CX0 1 (He.ga K "is_whole") (fd "is_whole") ["thing"] (spR K C R_whole) := by
  refine ok_of T.F_is_whole sc_is_whole (fun ds d h => by obtain ⟨n, rfl, _⟩ := h; rfl) fun cdv A outer s H E hr ds d h => ?_
  obtain ⟨n, rfl, rfl⟩ := h
  refine ⟨_, (pss_cons (ps_ret (pe_and (pe_callB (call_isiK2 K) (by rfl) T.n_isinstance (by decide +kernel) (pa_cons (pv 0) (pa_cons (pe_bltn (v := .ty "int") (u := .type "int") (by rfl) T.n_int (by decide +kernel) rfl) pa_nil))) (pe_one (pe_not (pe_callB (call_isiK2 K) (by rfl) T.n_isinstance (by decide +kernel) (pa_cons (pv 0) (pa_cons (pe_bltn (v := .ty "bool") (u := .type "bool") (by rfl) T.n_bool (by decide +kernel) rfl) pa_nil)))))))
    pss_nil), ?_⟩
  exact gs_ret (gr_of (gd_andV (gd_isi (d := .int n) gd_var rfl kit_ii) (fun _ => gd_notV (gd_isi (d := .int n) gd_var rfl kit_ib)))) rfl
theorem ok_are_weights (T : Tx K mg fd C) : FnOk P w K mg base CX0 2 (He.ga K "are_weights") (fd "are_weights") ["thing"] (spR K C R_weights) := by
  refine ok_of T.F_are_weights sc_are_weights (fun ds d h => by obtain ⟨n, rfl, _⟩ := h; rfl) fun cdv A outer s H E hr ds d h => ?_
  obtain ⟨ws, rfl, hw, rfl⟩ := h
  have G_is_whole := ok_is_whole (P := P) (w := w) (base := base) T
  refine ⟨_, (pss_cons (ps_if (PW.pt (pw_or (pt_not (pt_val (pe_callB (call_isiK2 K) (by rfl) T.n_isinstance (by decide +kernel) (pa_cons (pv 0) (pa_cons (pe_bltn (v := .ty "list") (u := .type "list") (by rfl) T.n_list (by decide +kernel) rfl) pa_nil))))) (pw_or1 (pt_not (pt_chain op_le op_le pe_int (pe_callB (call_lenK K) (by rfl) T.n_len (by decide +kernel) (pa_cons (pv 0) pa_nil)) (pe_gl rfl T.c_MOST_CLAIMANTS))))))
    (pss_cons (ps_ret pe_bl)
    pss_nil)
    pss_nil)
    (pss_cons (ps_for PassesOwn.never rfl (pi_listK K (pv 0)) (pg_name (i := 1) sc_are_weights.nd rfl (.inl rfl))
    (pss_cons (ps_if (PW.pt (pw_or (pt_not (pt_val (pe_call G_is_whole (hr.mono (by decide)) (by rfl) T.m_is_whole T.F_is_whole.kp T.b_is_whole .nil pass0 (pa_cons (pv 1) pa_nil)))) (pw_or1 (pt_not (pt_chain op_le op_le pe_int (pv 1) (pe_gl rfl T.c_MOST_WEIGHT))))))
    (pss_cons (ps_ret pe_bl)
    pss_nil)
    pss_nil)
    pss_nil))
    (pss_cons (ps_ret (pe_cmpR op_gt (pe_callB (cr_sumK K rfl) (by rfl) T.n_sum (by decide +kernel) (pa_cons (pv 0) pa_nil)) pe_int (nomark _)))
    pss_nil))), ?_⟩
  have lw : (wD ws).length = ws.length := List.length_map _
  have hl := hw.l
  refine gs_if (b := false) (Gb.is (gb_or (b := false) (gb_not (gb_val (gd_isi gd_var (ints_parts ws).1 kit_ll))) (fun _ => gb_not (gb_chain gd_int (gd_len (ds := wD ws) gd_var) gd_int))) ?_) no_ft (fun _ => gs_nx ?_)
  · rw [lw, decide_eq_true (show (1 : Int) ≤ ws.length by omega), decide_eq_true (show (ws.length : Int) ≤ 6 by omega)]
    rfl
  refine gs_for (is := [1]) (gi_list (ds := wD ws) gd_var) (fun i D => D = [.v (.list (wD ws)), .no]) rfl (fun i D1 d hd hI => ?_) (fun D1 hI => ?_)
  · subst hI
    unfold wD at hd
    rw [List.getElem?_map] at hd
    obtain ⟨x, hx, rfl⟩ := Option.map_eq_some_iff.mp hd
    obtain ⟨x0, x1⟩ := hw.w x (List.mem_of_getElem? hx)
    refine ⟨_, gg_name, gs_if (b := false) (Gb.is (gb_or (b := false) (gb_not (gb_val (gd_call (R := R_whole) (ds := [.int x]) (ga_cons gd_var ga_nil) ⟨x, rfl, rfl⟩))) (fun _ => gb_not (gb_chain gd_int gd_var gd_int))) ?_) no_ft (fun _ => gs_nx (gs_next (D' := [.v (.list (wD ws)), .no]) rfl ⟨.inr rfl, .inl rfl, trivial⟩))⟩
    rw [decide_eq_true x0, decide_eq_true x1]
    rfl
  · subst hI
    refine gs_ret (gr_of (gd_b0 (gd_sum (ns := ws) gd_var) gd_int)) ?_
    show PyData.bool _ = PyData.bool _
    rw [decide_eq_true hw.s]
theorem ok_is_spell (T : Tx K mg fd C) : FnOk P w K mg base CX0 3 (He.ga K "is_spell") (fd "is_spell") ["thing"] (spR K C R_spell) := by
  refine ok_of T.F_is_spell sc_is_spell (fun ds d h => by obtain ⟨n, rfl, _⟩ := h; rfl) fun cdv A outer s H E hr ds d h => ?_
  obtain ⟨⟨t, ws⟩, rfl, ht1, ht2, hw, rfl⟩ := h
  have G_is_whole := ok_is_whole (P := P) (w := w) (base := base) T
  have G_are_weights := ok_are_weights (P := P) (w := w) (base := base) T
  refine ⟨_, (pss_cons (ps_if (PW.pt (pw_or (pt_not (pt_val (pe_callB (call_isiK2 K) (by rfl) T.n_isinstance (by decide +kernel) (pa_cons (pv 0) (pa_cons (pe_bltn (v := .ty "tuple") (u := .type "tuple") (by rfl) T.n_tuple (by decide +kernel) rfl) pa_nil))))) (pw_or1 (pt_cmpR op_ne (pe_callB (call_lenK K) (by rfl) T.n_len (by decide +kernel) (pa_cons (pv 0) pa_nil)) pe_int (nomark _)))))
    (pss_cons (ps_ret pe_bl)
    pss_nil)
    pss_nil)
    (pss_cons (ps_if (PW.pt (pw_or (pt_not (pt_val (pe_call G_is_whole (hr.mono (by decide)) (by rfl) T.m_is_whole T.F_is_whole.kp T.b_is_whole .nil pass0 (pa_cons (pe_ix (ix_tupK K) (pv 0) pe_int (fun _ _ => rfl)) pa_nil)))) (pw_or1 (pt_not (pt_chain op_le op_le pe_int (pe_ix (ix_tupK K) (pv 0) pe_int (fun _ _ => rfl)) (pe_gl rfl T.c_MOST_IN_SPELL))))))
    (pss_cons (ps_ret pe_bl)
    pss_nil)
    pss_nil)
    (pss_cons (ps_ret (pe_call G_are_weights (hr.mono (by decide)) (by rfl) T.m_are_weights T.F_are_weights.kp T.b_are_weights .nil pass0 (pa_cons (pe_ix (ix_tupK K) (pv 0) pe_int (fun _ _ => rfl)) pa_nil)))
    pss_nil))), ?_⟩
  have ht1 : 1 ≤ t := ht1
  have ht2 : t ≤ 3 := ht2
  have pl : plainD (.tuple [.int (t : Nat), .list (wD ws)]) = true := by
    have a := (ints_parts ws).1
    simp only [plainD, plainAll] at a ⊢
    simp [a]
  refine gs_if (b := false) (Gb.is (gb_or (b := false) (gb_not (gb_val (gd_isi gd_var pl kit_tt))) (fun _ => gb_test (gd_neI (gd_lenT gd_var) gd_int))) rfl) no_ft (fun _ => gs_nx ?_)
  refine gs_if (b := false) (Gb.is (gb_or (b := false) (gb_not (gb_val (gd_call (R := R_whole) (ds := [.int (t : Nat)]) (ga_cons (gd_ixT gd_var gd_int (j0 _ _)) ga_nil) ⟨t, rfl, rfl⟩))) (fun _ => gb_not (gb_chain gd_int (gd_ixT gd_var gd_int (j0 _ _)) gd_int))) ?_) no_ft (fun _ => gs_nx ?_)
  · show (false || !(decide ((1 : Int) ≤ t) && decide ((t : Int) ≤ 60))) = false
    rw [decide_eq_true (show (1 : Int) ≤ t by omega), decide_eq_true (show (t : Int) ≤ 60 by omega)]
    rfl
  exact gs_ret (gr_of (gd_call (ga_cons (gd_ixT gd_var gd_int (j1 _ _)) ga_nil) ⟨ws, rfl, hw, rfl⟩)) rfl
theorem sp_at {sp : List (Nat × List Int)} {i : Nat} {p : Nat × List Int} (h : sp[i]? = some p) : (spD sp)[i]? = some (.tuple [.int (p.1 : Nat), .list (wD p.2)]) := by
  unfold spD
  rw [List.getElem?_map, h] <;> rfl
theorem kept_at {sp : List (Nat × List Int)} {i : Nat} {p : Nat × List Int} (h : sp[i]? = some p) : (keptD sp)[i]? = some (.tuple [.int (p.1 : Nat), .tuple (wD p.2)]) := by
  unfold keptD
  rw [List.getElem?_map, h] <;> rfl
theorem ok_check_spells (T : Tx K mg fd C) : FnOk P w K mg base CX0 4 (He.ga K "check_spells") (fd "check_spells") ["thing"] (spR K C R_check) := by
  refine ok_of T.F_check_spells sc_check_spells (fun ds d h => by obtain ⟨n, sp, rfl, _⟩ := h; rfl) fun cdv A outer s H E hr ds d h => ?_
  obtain ⟨n, sp, rfl, hs, rfl⟩ := h
  have G_is_spell := ok_is_spell (P := P) (w := w) (base := base) T
  refine ⟨_, (pss_cons (ps_if (PW.pt (pw_or (pt_not (pt_val (pe_callB (call_isiK2 K) (by rfl) T.n_isinstance (by decide +kernel) (pa_cons (pv 0) (pa_cons (pe_bltn (v := .ty "list") (u := .type "list") (by rfl) T.n_list (by decide +kernel) rfl) pa_nil))))) (pw_or1 (pt_cmpR (op_eqD hr.units) (pv 0) (pe_lst pa_nil) (nomark _)))))
    (pss_cons ps_never
    pss_nil)
    pss_nil)
    (pss_cons (ps_set (i := 1) sc_check_spells.nd rfl (.inl rfl) pe_int)
    (pss_cons (ps_for PassesOwn.never rfl (pi_range1 (by rfl) T.n_range (pa_cons (pe_callB (call_lenK K) (by rfl) T.n_len (by decide +kernel) (pa_cons (pv 0) pa_nil)) pa_nil)) (pg_name (i := 2) sc_check_spells.nd rfl (.inl rfl))
    (pss_cons (ps_set (i := 3) sc_check_spells.nd rfl (.inl rfl) (pe_ix (ix_listK K) (pv 0) (pv 2) (fun _ _ => rfl)))
    (pss_cons (ps_if (PW.pt (pw_or (pt_cmpR op_ge (pv 2) (pe_gl rfl T.c_MOST_SPELLS) (nomark _)) (pw_or1 (pt_not (pt_val (pe_call G_is_spell (hr.mono (by decide)) (by rfl) T.m_is_spell T.F_is_spell.kp T.b_is_spell .nil pass0 (pa_cons (pv 3) pa_nil)))))))
    (pss_cons ps_never
    pss_nil)
    pss_nil)
    (pss_cons (ps_set (i := 1) sc_check_spells.nd rfl (.inl rfl) (pe_op op_add (pv 1) (pe_ix (ix_tupK K) (pv 3) pe_int (fun _ _ => rfl))))
    (pss_cons (ps_if (PW.pt (pw_or (pt_cmpR op_ne (pe_callB (call_lenK K) (by rfl) T.n_len (by decide +kernel) (pa_cons (pe_ix (ix_tupK K) (pv 3) pe_int (fun _ _ => rfl)) pa_nil)) (pe_callB (call_lenK K) (by rfl) T.n_len (by decide +kernel) (pa_cons (pe_ix (ix_tupK K) (pe_ix (ix_listK K) (pv 0) pe_int (fun _ _ => rfl)) pe_int (fun _ _ => rfl)) pa_nil)) (nomark _)) (pw_or1 (pt_cmpR op_gt (pv 1) (pe_gl rfl T.c_MOST_TURNS) (nomark _)))))
    (pss_cons ps_never
    pss_nil)
    pss_nil)
    pss_nil)))))
    pss_nil))), ?_⟩
  have ls : (spD sp).length = sp.length := List.length_map _
  have hl := hs.l
  obtain ⟨p0, hp0⟩ : ∃ p, sp[0]? = some p := ⟨sp[0]'(by omega), List.getElem?_eq_getElem _⟩
  refine gs_if (b := false) (Gb.is (gb_or (b := false) (gb_not (gb_val (gd_isi gd_var (eqOk_parts (eqOk_sp sp)).1 kit_ll))) (fun _ => gb_test (gr_eqD (gr_of gd_var) (gr_of (gd_new (gl_lst ga_nil))) (eqOk_sp sp) rfl))) ?_) no_ft (fun _ => gs_nx ?_)
  · rw [eqv_nil, Bool.false_or]
    refine decide_eq_false fun z => ?_
    rw [z] at ls
    simp at ls
    omega
  refine gs_asg gd_int ?_
  refine gs_for (is := [2]) (gi_range1 (hi := (spD sp).length) (ga_cons (gd_len (ds := spD sp) gd_var) ga_nil) (by rw [ls]; omega)) (fun i D => ∃ z : Int, D = [.v (.list (spD sp)), .v (.int z), .no, .no] ∧ 0 ≤ z ∧ z ≤ 3 * i) ⟨0, rfl, by omega, by omega⟩ (fun i D1 d hd hI => ?_) (fun D1 hI => ?_)
  · obtain ⟨z, rfl, hz, hz2⟩ := hI
    obtain ⟨hi, rfl⟩ := get_rng hd
    rw [ls, Int.toNat_natCast] at hi
    obtain ⟨p, hp⟩ : ∃ p, sp[i]? = some p := ⟨sp[i], List.getElem?_eq_getElem _⟩
    have pm := List.mem_of_getElem? hp
    have ht := hs.t p pm
    refine ⟨_, gg_name, gs_asg (gd_ixL (ds := spD sp) gd_var gd_var (atD rfl (sp_at hp))) ?_⟩
    refine gs_if (b := false) (Gb.is (gb_or (b := false) (Gb.is (gb_test (gd_b0 gd_var gd_int)) (decide_eq_false (by omega))) (fun _ => gb_not (gb_val (gd_call (R := R_spell) (ds := [.tuple [.int (p.1 : Nat), .list (wD p.2)]]) (ga_cons gd_var ga_nil) ⟨p, rfl, ht.1, ht.2, hs.w p pm, rfl⟩)))) rfl) no_ft (fun _ => gs_nx ?_)
    refine gs_asg (gd_i0 gd_var (gd_ixT gd_var gd_int (j0 _ _))) ?_
    have l1 : (wD p.2).length = n := by unfold wD; rw [List.length_map]; exact hs.n p pm
    have l0 : (wD p0.2).length = n := by unfold wD; rw [List.length_map]; exact hs.n p0 (List.mem_of_getElem? hp0)
    refine gs_if (b := false) (Gb.is (gb_or (b := false) (Gb.is (gb_test (gd_neI (gd_len (ds := wD p.2) (gd_ixT gd_var gd_int (j1 _ _))) (gd_len (ds := wD p0.2) (gd_ixT (gd_ixL (ds := spD sp) gd_var gd_int (atD (j := 0) rfl (sp_at hp0))) gd_int (j1 _ _))))) (by rw [l1, l0]; simp)) (fun _ => gb_test (gd_b0 gd_var gd_int))) ?_) no_ft (fun _ => gs_nx (gs_next (D' := [.v (.list (spD sp)), .v (.int (z + (p.1 : Nat))), .no, .no]) ⟨_, rfl, by omega, by omega⟩ ⟨.inr rfl, .inr rfl, .inl rfl, .inl rfl, trivial⟩))
    rw [Bool.false_or]
    exact decide_eq_false (by omega)
  · obtain ⟨z, rfl, _⟩ := hI
    exact gs_nx rfl
theorem ok_many (T : Tx K mg fd C) : FnOk P w K mg base CX0 1 (He.ma K C "many") (fd "Plan.many") ["self"] (spR K C R_many) := by
  refine ok_of T.F_many sc_Plan_many (fun ds d h => by obtain ⟨n, sp, e, rfl, _⟩ := h; rfl) fun cdv A outer s H E hr ds d h => ?_
  obtain ⟨n, sp, e, rfl, hs, rfl⟩ := h
  refine ⟨_, (pss_cons (ps_ret (pe_callB (call_lenK K) (by rfl) T.n_len (by decide +kernel) (pa_cons (pe_ix (ix_tupK K) (pe_ix (ix_listK K) (pe_fld (pv 0) rfl) pe_int (fun _ _ => rfl)) pe_int (fun _ _ => rfl)) pa_nil)))
    pss_nil), ?_⟩
  have hl := hs.l
  obtain ⟨p0, hp0⟩ : ∃ p, sp[0]? = some p := ⟨sp[0]'(by omega), List.getElem?_eq_getElem _⟩
  refine gs_ret (gr_of (gd_lenT (ds := wD p0.2) (gd_ixT (gd_ixL (ds := keptD sp) (gd_kept T.cl gd_var) gd_int (atD (j := 0) rfl (kept_at hp0))) gd_int (j1 _ _)))) ?_
  show PyData.int _ = PyData.int _
  unfold wD
  rw [List.length_map, hs.n p0 (List.mem_of_getElem? hp0)]
end
end Du

/-! The dues of a plan over one bottom W. -/
namespace Du
def due (T : List (List Int)) (t i : Nat) : Int := (T.getD t []).getD i 0
def addRow (u : Int) (k : Nat) (first ws : List Int) : List Int := List.zipWith (fun x w => x + k * w * u) first ws
def spellRows (W : Int) (first : List Int) (p : Nat × List Int) : List (List Int) := (List.range p.1).map fun k => addRow (W / p.2.sum) (k + 1) first p.2
def duesUp (W : Int) (T : List (List Int)) (p : Nat × List Int) : List (List Int) := T ++ spellRows W (T.getLastD []) p
def duesZ (W : Int) (n : Nat) (sp : List (Nat × List Int)) : List (List Int) := sp.foldl (duesUp W) [List.replicate n 0]
structure Dues (W : Int) (n : Nat) (T : List (List Int)) : Prop where
  len : 1 ≤ T.length
  row : ∀ r ∈ T, r.length = n
  zero : ∀ i, due T 0 i = 0
  mono : ∀ t i, t + 1 < T.length → i < n → due T t i ≤ due T (t + 1) i
  sum : ∀ t, t < T.length → (T.getD t []).sum = t * W
theorem getD_lt {α : Type} {l : List α} {i : Nat} (h : i < l.length) (d : α) : l.getD i d = l[i] := by
  rw [List.getD_eq_getElem?_getD, List.getElem?_eq_getElem h]
  rfl
theorem sum_rep (n : Nat) : (List.replicate n (0 : Int)).sum = 0 := by
  induction n with
  | zero => rfl
  | succ n ih => rw [List.replicate_succ, List.sum_cons, ih]; rfl
theorem due0 (W : Int) (n : Nat) : Dues W n [List.replicate n 0] := by
  refine ⟨by simp, fun r hr => ?_, fun i => ?_, fun t i h => ?_, fun t h => ?_⟩
  · rw [List.mem_singleton.mp hr, List.length_replicate]
  · show (List.replicate n (0 : Int)).getD i 0 = 0
    rw [List.getD_eq_getElem?_getD, List.getElem?_replicate]
    split <;> rfl
  · simp at h
  · have : t = 0 := by simpa using h
    subst this
    show (List.replicate n (0 : Int)).sum = _
    rw [sum_rep]
    simp
theorem addRow_sum {u c : Int} {k : Nat} : ∀ {f ws : List Int}, f.length = ws.length → (addRow u k f ws).sum = f.sum + k * u * ws.sum
  | [], [], _ => by simp [addRow]
  | x :: f, w :: ws, h => by
    have ih := addRow_sum (u := u) (c := c) (k := k) (f := f) (ws := ws) (by simpa using h)
    unfold addRow at ih ⊢
    rw [List.zipWith_cons_cons, List.sum_cons, List.sum_cons, List.sum_cons, ih]
    grind
  | [], _ :: _, h => by simp at h
  | _ :: _, [], h => by simp at h
theorem addRow_len {u : Int} {k : Nat} {f ws : List Int} (h : f.length = ws.length) : (addRow u k f ws).length = ws.length := by
  unfold addRow
  rw [List.length_zipWith, h, Nat.min_self]
theorem addRow_get {u : Int} {k i : Nat} {f ws : List Int} (h : f.length = ws.length) (hi : i < ws.length) : (addRow u k f ws).getD i 0 = f.getD i 0 + k * ws.getD i 0 * u := by
  rw [getD_lt (show i < f.length by omega), getD_lt hi, List.getD_eq_getElem?_getD]
  unfold addRow
  rw [List.getElem?_zipWith, List.getElem?_eq_getElem (show i < f.length by omega), List.getElem?_eq_getElem hi]
  rfl
theorem last_is {T : List (List Int)} (h : 1 ≤ T.length) : T.getLastD [] = T.getD (T.length - 1) [] := by
  cases T with
  | nil => simp at h
  | cons x r =>
    rw [List.getLastD_cons, getD_lt (show (x :: r).length - 1 < (x :: r).length by simp)]
    cases r with
    | nil => rfl
    | cons y q =>
      rw [List.getLastD_eq_getLast?, List.getLast?_eq_some_getLast (List.cons_ne_nil y q)]
      simp [List.getLast_eq_getElem]
theorem getD_app {T U : List (List Int)} {t : Nat} : (T ++ U).getD t [] = if t < T.length then T.getD t [] else U.getD (t - T.length) [] := by
  rw [List.getD_eq_getElem?_getD]
  split
  · rename_i h
    rw [List.getElem?_append_left h, List.getD_eq_getElem?_getD]
  · rename_i h
    rw [List.getElem?_append_right (by omega), List.getD_eq_getElem?_getD]
theorem rows_get {W : Int} {f : List Int} {p : Nat × List Int} {k : Nat} (h : k < p.1) : (spellRows W f p).getD k [] = addRow (W / p.2.sum) (k + 1) f p.2 := by
  unfold spellRows
  rw [List.getD_eq_getElem?_getD, List.getElem?_map, List.getElem?_range h]
  rfl
/-- one spell more -/
theorem Dues.up {W : Int} {n : Nat} {T : List (List Int)} {p : Nat × List Int} (h : Dues W n T) (hn : p.2.length = n) (hw : ∀ x ∈ p.2, 0 ≤ x) (hs : 0 < p.2.sum) (hd : p.2.sum ∣ W) (hW : 0 < W) : Dues W n (duesUp W T p) := by
  have hl := h.len
  have el := last_is hl
  have ll : (T.getLastD []).length = n := by
    rw [el, getD_lt (show T.length - 1 < T.length by omega)]
    exact h.row _ (List.getElem_mem _)
  have hu : W / p.2.sum * p.2.sum = W := Int.ediv_mul_cancel hd
  have hu0 : 0 ≤ W / p.2.sum := Int.ediv_nonneg (by omega) (by omega)
  have lr : (spellRows W (T.getLastD []) p).length = p.1 := by unfold spellRows; rw [List.length_map, List.length_range]
  have lw : (T.getLastD []).length = p.2.length := by rw [ll, hn]
  have dueR : ∀ t i, T.length ≤ t → t < T.length + p.1 → i < n → due (duesUp W T p) t i = due T (T.length - 1) i + ((t - T.length + 1 : Nat) : Int) * p.2.getD i 0 * (W / p.2.sum) := by
    intro t i h1 h2 hi
    unfold due duesUp
    rw [getD_app, if_neg (by omega), rows_get (by omega), addRow_get lw (by omega), el]
  have dueL : ∀ t i, t < T.length → due (duesUp W T p) t i = due T t i := by
    intro t i h1
    unfold due duesUp
    rw [getD_app, if_pos h1]
  have wn : ∀ i, 0 ≤ p.2.getD i 0 := fun i => by
    rw [List.getD_eq_getElem?_getD]
    cases q : p.2[i]? with
    | none => exact Int.le_refl 0
    | some x => exact hw x (List.mem_of_getElem? q)
  refine ⟨?_, fun r hr => ?_, fun i => ?_, fun t i h1 h2 => ?_, fun t h1 => ?_⟩
  · unfold duesUp
    rw [List.length_append]
    omega
  · rcases List.mem_append.mp hr with z | z
    · exact h.row r z
    · unfold spellRows at z
      obtain ⟨k, _, rfl⟩ := List.mem_map.mp z
      rw [addRow_len lw, hn]
  · rw [dueL 0 i (by omega), h.zero]
  · unfold duesUp at h1
    rw [List.length_append, lr] at h1
    have hx : 0 ≤ p.2.getD i 0 * (W / p.2.sum) := Int.mul_nonneg (wn i) hu0
    by_cases a : t + 1 < T.length
    · rw [dueL t i (by omega), dueL (t + 1) i a]
      exact h.mono t i a h2
    · by_cases b : t < T.length
      · have et : t = T.length - 1 := by omega
        rw [dueL t i b, dueR (t + 1) i (by omega) (by omega) h2, et]
        have : 0 ≤ ((T.length - 1 + 1 - T.length + 1 : Nat) : Int) * p.2.getD i 0 * (W / p.2.sum) := by
          rw [Int.mul_assoc]
          exact Int.mul_nonneg (by omega) hx
        omega
      · rw [dueR t i (by omega) (by omega) h2, dueR (t + 1) i (by omega) (by omega) h2]
        have e : t + 1 - T.length + 1 = (t - T.length + 1) + 1 := by omega
        rw [e]
        generalize t - T.length + 1 = k
        generalize p.2.getD i 0 = a at *
        generalize W / p.2.sum = b at *
        have : ((k + 1 : Nat) : Int) * a * b = (k : Int) * a * b + a * b := by
          rw [Int.natCast_add]
          grind
        omega
  · unfold duesUp at h1 ⊢
    rw [List.length_append, lr] at h1
    rw [getD_app]
    split
    · exact h.sum t (by assumption)
    · rename_i a
      rw [rows_get (by omega), addRow_sum (c := 0) lw, el, h.sum _ (by omega)]
      have e : ((t - T.length + 1 : Nat) : Int) * (W / p.2.sum) * p.2.sum = ((t - T.length + 1 : Nat) : Int) * W := by rw [Int.mul_assoc, hu]
      rw [e, ← Int.add_mul]
      congr 1
      omega
/-- what plans are made of here -/
structure Sp (W : Int) (n : Nat) (sp : List (Nat × List Int)) : Prop where
  len : ∀ p ∈ sp, p.2.length = n
  w : ∀ p ∈ sp, ∀ x ∈ p.2, 0 ≤ x
  s : ∀ p ∈ sp, 0 < p.2.sum
  d : ∀ p ∈ sp, p.2.sum ∣ W
  W : 0 < W
theorem dues_fold {W : Int} {n : Nat} : ∀ {sp : List (Nat × List Int)} {T : List (List Int)}, Sp W n sp → Dues W n T → Dues W n (sp.foldl (duesUp W) T) ∧ (sp.foldl (duesUp W) T).length = T.length + (sp.map (·.1)).sum
  | [], T, _, h => ⟨h, by simp⟩
  | p :: sp, T, q, h => by
    have hp : p ∈ p :: sp := List.mem_cons_self ..
    have q' : Sp W n sp := ⟨fun r hr => q.len r (List.mem_cons_of_mem _ hr), fun r hr => q.w r (List.mem_cons_of_mem _ hr), fun r hr => q.s r (List.mem_cons_of_mem _ hr), fun r hr => q.d r (List.mem_cons_of_mem _ hr), q.W⟩
    obtain ⟨h1, h2⟩ := dues_fold q' (h.up (q.len p hp) (q.w p hp) (q.s p hp) (q.d p hp) q.W)
    refine ⟨h1, ?_⟩
    rw [List.foldl_cons, h2, List.map_cons, List.sum_cons]
    unfold duesUp spellRows
    rw [List.length_append, List.length_map, List.length_range]
    omega
theorem dues_ok {W : Int} {n : Nat} {sp : List (Nat × List Int)} (q : Sp W n sp) : Dues W n (duesZ W n sp) ∧ (duesZ W n sp).length = 1 + (sp.map (·.1)).sum := dues_fold q (due0 W n)
theorem Dues.nonneg {W : Int} {n : Nat} {T : List (List Int)} (h : Dues W n T) {i : Nat} (hi : i < n) : ∀ t, t < T.length → 0 ≤ due T t i
  | 0, _ => by rw [h.zero]; exact Int.le_refl 0
  | t + 1, ht => Int.le_trans (h.nonneg hi t (by omega)) (h.mono t i ht hi)
theorem le_sum : ∀ {r : List Int} {x : Int}, (∀ y ∈ r, 0 ≤ y) → x ∈ r → x ≤ r.sum ∧ 0 ≤ r.sum
  | [], x, _, h => by cases h
  | y :: r, x, hn, h => by
    have hr : 0 ≤ r.sum := by
      clear h
      induction r with
      | nil => simp
      | cons z r ih =>
        rw [List.sum_cons]
        have := hn z (by simp)
        have := ih fun a ha => hn a (by
          rcases List.mem_cons.mp ha with e | e
          · rw [e]; simp
          · simp [e])
        omega
    have hy := hn y (by simp)
    rw [List.sum_cons]
    rcases List.mem_cons.mp h with e | e
    · omega
    · have := (le_sum (fun a ha => hn a (List.mem_cons_of_mem _ ha)) e).1
      omega
/-- no due is negative or above t turns -/
theorem Dues.bound {W : Int} {n : Nat} {T : List (List Int)} (h : Dues W n T) (hW : 0 < W) {r : List Int} (hr : r ∈ T) {X : Int} (hX : X ∈ r) : 0 ≤ X ∧ X ≤ T.length * W := by
  obtain ⟨t, ht, rfl⟩ := List.getElem_of_mem hr
  have e : T.getD t [] = T[t] := getD_lt ht _
  have nn : ∀ y ∈ T[t], 0 ≤ y := fun y hy => by
    obtain ⟨i, hi, rfl⟩ := List.getElem_of_mem hy
    have := h.nonneg (i := i) (by rw [← h.row _ hr]; exact hi) t ht
    unfold due at this
    rw [e, getD_lt hi] at this
    exact this
  refine ⟨nn X hX, ?_⟩
  have h1 := (le_sum nn hX).1
  have h2 := h.sum t ht
  rw [e] at h2
  have : (t : Int) * W ≤ T.length * W := Int.mul_le_mul_of_nonneg_right (by omega) (by omega)
  omega
end Du

namespace Du
open PySem PySem.Spec PyProof.Rows L2
def R_dues (ds : List PyData) (d : PyData) : Prop := ∃ (W : Int) (n : Nat) (sp : List (Nat × List Int)), ds = [.dict [(.list (keptD sp), .none)]] ∧ OkS n sp ∧ Sp W n sp ∧ W ≤ 10000000 ∧ d = tabD W (duesZ W n sp)
theorem tab_last {W : Int} {T : List (List Int)} (h : 1 ≤ T.length) : atI (T.map (rowD W)) (-1) = some (rowD W (T.getLastD [])) := by
  have hn : T ≠ [] := fun z => by rw [z] at h; simp at h
  obtain ⟨g, b, rfl⟩ : ∃ g b, T = g ++ [b] := ⟨T.dropLast, T.getLast hn, (List.dropLast_concat_getLast hn).symm⟩
  rw [List.map_append, List.getLastD_concat]
  exact atI_last _ _
theorem w_at {ws : List Int} {i : Nat} (h : i < ws.length) : (wD ws)[i]? = some (.int (ws.getD i 0)) := by
  unfold wD
  rw [List.getElem?_map, List.getElem?_eq_getElem h, getD_lt h] <;> rfl
theorem frow_at {W : Int} {r : List Int} {i : Nat} (h : i < r.length) : (r.map fun X => frD (fr W X))[i]? = some (frD (fr W (r.getD i 0))) := by
  rw [List.getElem?_map, List.getElem?_eq_getElem h, getD_lt h] <;> rfl
theorem getD_mem {r : List Int} {i : Nat} (h : i < r.length) : r.getD i 0 ∈ r := by
  rw [getD_lt h]
  exact List.getElem_mem h
theorem turns_le {sp : List (Nat × List Int)} (ht : ∀ p ∈ sp, p.1 ≤ 3) : (sp.map (·.1)).sum ≤ 3 * sp.length := by
  induction sp with
  | nil => simp
  | cons p sp ih =>
    have := ht p (List.mem_cons_self ..)
    have := ih fun q hq => ht q (List.mem_cons_of_mem _ hq)
    rw [List.map_cons, List.sum_cons, List.length_cons]
    omega
theorem Sp.take {W : Int} {n : Nat} {sp : List (Nat × List Int)} (q : Sp W n sp) (i : Nat) : Sp W n (sp.take i) :=
  ⟨fun p h => q.len p (List.mem_of_mem_take h), fun p h => q.w p (List.mem_of_mem_take h), fun p h => q.s p (List.mem_of_mem_take h), fun p h => q.d p (List.mem_of_mem_take h), q.W⟩
section
variable {P : Program} {w : World} {K : PySem.W.Frag} {mg : Str → Option Value} {base : Heap} {fd : Str → FuncData} {C : Addr}
theorem ok_dues (T : Tx K mg fd C) : FnOk P w K mg base CX0 4 (He.ma K C "dues_by_turns") (fd "Plan.dues_by_turns") ["self"] (spR K C R_dues) := by
  refine ok_of T.F_dues_by_turns sc_Plan_dues_by_turns (fun ds d h => by obtain ⟨W, n, sp, rfl, _⟩ := h; rfl) fun cdv A outer s H E hr ds d h => ?_
  obtain ⟨W, n, sp, rfl, hS, hQ, hW2, rfl⟩ := h
  have G_many := ok_many (P := P) (w := w) (base := base) T
  have G_plus := ok_plus (P := P) (w := w) (base := base) T
  have G_made := ok_made (P := P) (w := w) (base := base) T
  have hW := hQ.W
  refine ⟨_, (pss_cons (ps_set (i := 1) sc_Plan_dues_by_turns.nd rfl (.inl rfl) (pe_lst (pa_cons (pe_op op_rep (pe_lst (pa_cons (pe_gl rfl T.c_NOUGHT) pa_nil)) (pe_meth0 (pv 0) T.cl.cl T.M_many G_many (hr.mono (by decide)) T.b_many .nil pass0)) pa_nil)))
    (pss_cons (ps_for PassesOwn.never rfl (pi_listK K (pe_fld (pv 0) rfl)) (pg_tupK K (n := 2) rfl (pgs_cons (pg_name (i := 2) sc_Plan_dues_by_turns.nd rfl (.inl rfl)) (pgs_cons (pg_name (i := 3) sc_Plan_dues_by_turns.nd rfl (.inr rfl)) pgs_nil)))
    (pss_cons (ps_set (i := 4) sc_Plan_dues_by_turns.nd rfl (.inr rfl) (pe_callB (cr_sumTK K rfl) (by rfl) T.n_sum (by decide +kernel) (pa_cons (pv 3) pa_nil)))
    (pss_cons (ps_set (i := 5) sc_Plan_dues_by_turns.nd rfl (.inr rfl) (pe_ix (ix_listK K) (pv 1) (pe_un un_neg pe_int) (fun _ _ => rfl)))
    (pss_cons (ps_for PassesOwn.never rfl (pi_range2 (by rfl) T.n_range (pa_cons pe_int (pa_cons (pe_op op_add (pv 2) pe_int) pa_nil))) (pg_name (i := 6) sc_Plan_dues_by_turns.nd rfl (.inr rfl))
    (pss_cons (ps_expr (pe_bm PySem.F.plainAttrs_list PySem.F.slot_list_append PySem.F.type_list_append mt_append (pv 1) (pa_cons (pe_lc (own := [("who", 7)]) rfl sc_Plan_dues_by_turns.nd (pi_range1 (by rfl) T.n_range (pa_cons (pe_callB (call_lenK K) (by rfl) T.n_len (by decide +kernel) (pa_cons (pv 3) pa_nil)) pa_nil)) (blkOk_by (by kernel_rfl)) (fun _ _ _ _ _ => (pg_name (i := 7) sc_Plan_dues_by_turns.nd rfl (.inl rfl))) (fun _ _ _ _ _ => pts_nil) (fun _ _ _ _ _ => (pe_call G_plus (hr.mono (by decide)) (by rfl) T.m_plus T.F_plus.kp T.b_plus .nil pass0 (pa_cons (pe_ix (ix_listK K) (pv 5) (pv 7) (fun _ _ => rfl)) (pa_cons (pe_call G_made (hr.mono (by decide)) (by rfl) T.m_made T.F_made.kp T.b_made .nil pass0 (pa_cons (pe_op op_mulW (pv 6) (pe_ix (ix_tupK K) (pv 3) (pv 7) (fun _ _ => rfl))) (pa_cons (pv 4) pa_nil))) pa_nil))))) pa_nil)))
    pss_nil))
    pss_nil))))
    (pss_cons (ps_ret (pv 1))
    pss_nil))), ?_⟩
  have z0 : frD (fr W 0) = .tuple [.int 0, .int 1] := by rw [fr_zero hW] <;> rfl
  have n3 : n ≤ 3 := by
    obtain ⟨p0, hp0⟩ : ∃ p, sp[0]? = some p := ⟨sp[0]'(by have := hS.l; omega), List.getElem?_eq_getElem _⟩
    have pm := List.mem_of_getElem? hp0
    have := (hS.w p0 pm).l
    rw [hS.n p0 pm] at this
    omega
  refine gs_asgL (ds := [rowD W (List.replicate n 0)]) (gl_lst (ga_cons (Gd.is (gd_new (gl_rep (n := n) (gd_new (gl_lst (ga_cons (gd_tupK (ns := [0, 1]) T.k_NOUGHT) ga_nil))) (gd_meth gd_var ⟨n, sp, _, rfl, hS, rfl⟩ (by decide +kernel) (by decide +kernel)) (by omega))) ?_) ga_nil)) ?_
  · unfold rowD
    rw [List.map_replicate, z0]
    rfl
  refine gs_for (is := [2, 3]) (gi_list (ds := keptD sp) (gd_kept T.cl gd_var)) (fun i D => D = [.v (.dict [(.list (keptD sp), .none)]), .own (((sp.take i).foldl (duesUp W) [List.replicate n 0]).map (rowD W)), .no, .no, .no, .no, .no, .no]) rfl (fun i D1 d hd hI => ?_) (fun D1 hI => ?_)
  · subst hI
    unfold keptD at hd
    rw [List.getElem?_map] at hd
    obtain ⟨p, hp, rfl⟩ := Option.map_eq_some_iff.mp hd
    have pm := List.mem_of_getElem? hp
    obtain ⟨hD, hDl⟩ := dues_fold (hQ.take i) (due0 W n)
    have e1 : (sp.take (i + 1)).foldl (duesUp W) [List.replicate n 0] = duesUp W ((sp.take i).foldl (duesUp W) [List.replicate n 0]) p := by
      rw [List.take_add_one, hp, List.foldl_append]
      rfl
    rw [e1]
    have tl : ((sp.take i).map (·.1)).sum ≤ 6 := by
      have a := turns_le (sp := sp.take i) fun q hq => (hS.t q (List.mem_of_mem_take hq)).2
      have : (sp.take i).length ≤ 2 := by
        rw [List.length_take]
        have := hS.l
        omega
      omega
    generalize (sp.take i).foldl (duesUp W) [List.replicate n 0] = Tb at *
    have tl2 : Tb.length ≤ 7 := by
      rw [hDl, List.length_singleton]
      omega
    have ht := hS.t p pm
    have hw := hS.w p pm
    have hn := hS.n p pm
    have hl := last_is hD.len
    have lf : (Tb.getLastD []).length = n := by
      rw [hl, getD_lt (show Tb.length - 1 < Tb.length by have := hD.len; omega)]
      exact hD.row _ (List.getElem_mem _)
    have fb : ∀ X ∈ Tb.getLastD [], 0 ≤ X ∧ X ≤ 70000000 := fun X hX => by
      have hm : Tb.getLastD [] ∈ Tb := by
        rw [hl, getD_lt (show Tb.length - 1 < Tb.length by have := hD.len; omega)]
        exact List.getElem_mem _
      have b := hD.bound hW hm hX
      have : (Tb.length : Int) * W ≤ 7 * 10000000 := Int.mul_le_mul (by omega) hW2 (by omega) (by omega)
      omega
    generalize hf : Tb.getLastD [] = f at *
    have hdiv := hQ.d p pm
    have hu : W / p.2.sum * p.2.sum = W := Int.ediv_mul_cancel hdiv
    have hu0 : 0 ≤ W / p.2.sum := Int.ediv_nonneg (by omega) (by have := hw.s; omega)
    refine ⟨_, gg_two, ?_⟩
    refine gs_asg (gd_sumT (ns := p.2) gd_var) ?_
    refine gs_asg (gd_ixO (k := 1) (ds := Tb.map (rowD W)) (d := rowD W f) rfl (gd_un gd_int) (by rw [← hf]; exact tab_last hD.len)) ?_
    have lr : ((p.1 : Int) + 1 - 1).toNat = p.1 := by omega
    refine gs_for (is := [6]) (gi_range2 (lo := 1) (hi := (p.1 : Int) + 1) (ga_cons gd_int (ga_cons (gd_i0 gd_var gd_int) ga_nil)) (by omega)) (fun k D => D = [.v (.dict [(.list (keptD sp), .none)]), .own ((Tb ++ (List.range k).map fun k => addRow (W / p.2.sum) (k + 1) f p.2).map (rowD W)), .v (.int (p.1 : Nat)), .v (.tuple (wD p.2)), .v (.int p.2.sum), .v (rowD W f), .no, .no]) (by simp) (fun k D1 d hd hI => ?_) (fun D1 hI => ?_)
    · subst hI
      obtain ⟨hk, rfl⟩ := get_rng hd
      rw [lr] at hk
      refine ⟨_, gg_name, ?_⟩
      have lw : (wD p.2).length = n := by unfold wD; rw [List.length_map]; exact hn
      refine gs_app (k := 1) rfl (ga_cons (gd_new (gl_lc (is := [7]) (rs := (addRow (W / p.2.sum) (k + 1) f p.2).map fun X => frD (fr W X)) (gj_of (gi_range1 (hi := (wD p.2).length) (ga_cons (gd_lenT (ds := wD p.2) gd_var) ga_nil) (by rw [lw]; omega))) ?_ ?_ (by simp) fun j e he => ?_)) ga_nil) ?_ (gs_next (D' := [.v (.dict [(.list (keptD sp), .none)]), .own ((Tb ++ (List.range (k + 1)).map fun k => addRow (W / p.2.sum) (k + 1) f p.2).map (rowD W)), .v (.int (p.1 : Nat)), .v (.tuple (wD p.2)), .v (.int p.2.sum), .v (rowD W f), .no, .no]) rfl ⟨.inr rfl, .inr ?_, .inr rfl, .inr rfl, .inr rfl, .inr rfl, .inl rfl, .inr rfl, trivial⟩)
      · rw [List.length_map, addRow_len (by omega), List.length_map, List.length_range, lw, hn]
        omega
      · rw [List.length_map, List.length_range, lw]
        omega
      · obtain ⟨hj, rfl⟩ := get_rng he
        rw [lw, Int.toNat_natCast] at hj
        have f0 := fb _ (getD_mem (show j < f.length by omega))
        have w0 := hw.w _ (getD_mem (show j < p.2.length by omega))
        have wu : p.2.getD j 0 * (W / p.2.sum) ≤ W := by
          have h1 := (le_sum (fun y hy => (hw.w y hy).1) (getD_mem (show j < p.2.length by omega))).1
          have : p.2.getD j 0 * (W / p.2.sum) ≤ p.2.sum * (W / p.2.sum) := Int.mul_le_mul_of_nonneg_right h1 hu0
          rw [Int.mul_comm p.2.sum] at this
          omega
        have wu0 : 0 ≤ p.2.getD j 0 * (W / p.2.sum) := Int.mul_nonneg w0.1 hu0
        have tw : (1 + (k : Nat) : Int) * p.2.getD j 0 * (W / p.2.sum) = ((k + 1 : Nat) : Int) * (p.2.getD j 0 * (W / p.2.sum)) := by
          rw [Int.mul_assoc]
          congr 1
          omega
        have tb : ((k + 1 : Nat) : Int) * (p.2.getD j 0 * (W / p.2.sum)) ≤ 3 * W := Int.mul_le_mul (by omega) wu wu0 (by omega)
        have tb0 : 0 ≤ ((k + 1 : Nat) : Int) * (p.2.getD j 0 * (W / p.2.sum)) := Int.mul_nonneg (by omega) wu0
        have hs := hw.s
        have hsm : p.2.sum ≤ W := Int.le_of_dvd hW hdiv
        have em : mkF ((1 + (k : Nat) : Int) * p.2.getD j 0) p.2.sum = fr W ((1 + (k : Nat) : Int) * p.2.getD j 0 * (W / p.2.sum)) := by
          refine fr_eq hs hW ?_
          rw [Int.mul_assoc ((1 + (k : Nat) : Int) * p.2.getD j 0) (W / p.2.sum), hu]
        refine ⟨_, _, gg_name, gd_call (ga_cons (gd_ixL (ds := f.map fun X => frD (fr W X)) gd_var gd_var (atD rfl (frow_at (by omega)))) (ga_cons (gd_call (ga_cons (gd_i gd_var (gd_ixT gd_var gd_var (atD rfl (w_at (by omega)))) (cmul (by omega) (by omega))) (ga_cons gd_var ga_nil)) ⟨_, _, rfl, hs, by omega, rfl⟩) ga_nil)) ⟨W, f.getD j 0, (1 + (k : Nat) : Int) * p.2.getD j 0 * (W / p.2.sum), ?_, ⟨hW, hW2, by omega, by omega⟩, ⟨hW, hW2, by omega, by omega⟩, rfl⟩, ?_⟩
        · rw [← em]
        · rw [frow_at (by rw [addRow_len (by omega)]; omega), addRow_get (by omega) (by omega)]
          congr 4
          rw [show (1 + (k : Nat) : Int) = ((k + 1 : Nat) : Int) by omega]
      · rw [List.length_map, List.length_append, List.length_map, List.length_range]
        omega
      · rw [List.range_succ, List.map_append, List.map_append, List.map_append, List.map_append]
        simp [rowD]
    · subst hI
      rw [List.length_map, List.length_range, lr]
      refine gs_next (D' := [.v (.dict [(.list (keptD sp), .none)]), .own ((duesUp W Tb p).map (rowD W)), .no, .no, .no, .no, .no, .no]) rfl ⟨.inr rfl, .inr ?_, .inl rfl, .inl rfl, .inl rfl, .inl rfl, .inr rfl, .inr rfl, trivial⟩
      unfold duesUp spellRows
      rw [hf]
  · subst hI
    unfold keptD
    rw [List.length_map, List.take_length]
    exact gs_ret gr_own rfl
end
end Du

namespace Du
open PySem PySem.Spec PyProof.Rows L2 LamX NdefX
/-! ### a lambda with a parameter, called by the def that it is handed to -/
section
variable {X : Cx} {pins : List (Addr × Obj)} {σ : L2.St} {H : Hp} {s : Shared} {N Ng fr : List Str} {p a qg : Str} {F : NF} {f g : Addr} {pm ctv cdg : Value} {body e : Expr} {k i : Nat} {sg : Scope} {E0 : XK} {te tb : TE} {ws : List (Option V)} {p1 p2 : Pos}
theorem pe_act1 (S : NScope N [p] fr F.scope) (I : Inv X pins σ H s) (CA : CellsAt F.cl fr ws s.heap H)
    (hf : s.heap.get? f = some (PySem.W.kla_obj "<lambda>" F.qual F.params body F.scope F.cl pm F.c ctv)) (hfn : H f = none) (hfr : f ∉ frs X.stack)
    (hbind : ∀ u, bindArgs (PySem.W.kla_fn "<lambda>" F.qual F.params body F.scope F.cl pm (.ref F.c) ctv) ⟨[u], []⟩ = pure [(p, u)])
    (hr : Room (k + 1) (X.A.deeper (envOfC qg sg s.heap.objs.size g cdg)))
    (hbody : ∀ (A : Around) (outer : List Env) (s : Shared) (H : Hp) (E : XK), Room k (A.deeper (envF F f s.heap.objs.size)) → PE (ncx CX0 X.prog X.w X.K X.mg X.base N F f A outer s H E) body tb)
    (hN : Ng[i]? = some a) (hv : Vis sg a) (ha : PE (cxOf CX0 X.prog X.w X.K X.mg X.base Ng qg sg g cdg X.A X.stack s H E0).nox e te)
    (hd : (a == ("__debug__" : Str)) = false := by decide) (hcd : (a == ("__classdict__" : Str)) = false := by decide)
    (he : ∀ env : Env, starEach (e :: []) env = (false, eval e env) :: starEach [] env := by intro _; rfl) :
    PE (cxOf CX0 X.prog X.w X.K X.mg X.base Ng qg sg g cdg X.A X.stack s H E0).nox (.Call (.Name a p1) [e] [] p2)
      (fun σZ HZ Q => σZ[i]? = some (some (.ref f)) ∧ te σZ HZ fun v H1 => H1 F.c = some (CodeO F.c F.qual) ∧ tb (startF N [v] ws) H1 Q) := by
  refine ⟨fun pinsZ sZ σZ HZ Q IZ h => ?_⟩
  obtain ⟨hs, ht⟩ := h
  refine wpAny_Call_Name_kw (thn ((pe_var (pos := p1) (i := i) hN hv hd hcd).run pinsZ sZ σZ HZ (fun v H1 => v = .ref f ∧ H1 = HZ) IZ ⟨.ref f, hs, rfl, rfl⟩) fun u s1 ⟨v, H1, I1, r1, q1⟩ => ?_)
  obtain ⟨ev, eH⟩ := q1
  subst ev
  rw [eH] at I1
  obtain rfl : u = Value.ref f := r1
  have fAt : ∀ {σ2 : L2.St} {H2 : Hp} {s2 : Shared} {pn2 : List (Addr × Obj)}, Inv (cxOf CX0 X.prog X.w X.K X.mg X.base Ng qg sg g cdg X.A X.stack s H E0).nox pn2 σ2 H2 s2 → s2.heap.get? f = some (PySem.W.kla_obj "<lambda>" F.qual F.params body F.scope F.cl pm F.c ctv) :=
    fun I2 => I2.base.keep f _ hf hfn hfr (fun z => nomatch (show f ∈ ([] : List Addr) from z))
  refine PySem.W.callWith_F (first := []) ⟨_, _, _, _, fAt I1⟩ (thn ((pa_cons ha pa_nil (hs := he _)).run p2 pinsZ s1 σZ HZ (fun vs H1 => match vs with | [v] => H1 F.c = some (CodeO F.c F.qual) ∧ tb (startF N [v] ws) H1 Q | _ => False) I1 ht) fun us s2 ⟨vs, H2, I2, r, q⟩ => ⟨⟨_, _, _, _, fAt I2⟩, ?_⟩) (he _) rfl
  obtain ⟨u, v, rfl, rfl, ru⟩ : ∃ u v, us = [u] ∧ vs = [v] ∧ L2.RelV v u := by
    cases r with
    | nil => exact q.elim
    | cons ru r =>
      cases r with
      | nil => exact ⟨_, _, rfl, rfl, ru⟩
      | cons _ _ => exact q.elim
  obtain ⟨hc, q⟩ := q
  show wpAny _ _ (call (.ref f) [u]) _ _ _
  have of1 := fAt I2
  have un : Un (frs X.stack) [] H H2 s.heap s2.heap := I2.base
  have C2 : CellsAt F.cl fr ws s2.heap H2 := by
    refine ⟨CA.len, fun y c e => ?_, CA.inj, fun i y e => ?_⟩
    · obtain ⟨n, v, o, ho, hd⟩ := CA.all y c e
      obtain ⟨sl, q⟩ := un.any ho n (by simp)
      exact ⟨un.free c o ho n (by simp), v, _, q, hd⟩
    · obtain ⟨c, hc, hv⟩ := CA.has i y e
      refine ⟨c, hc, fun v ev => ?_⟩
      obtain ⟨u, r, o, ho, hd⟩ := hv v ev
      obtain ⟨sl, q⟩ := un.any ho (CA.all y c hc).1 (by simp)
      exact ⟨u, r, _, q, hd⟩
  obtain ⟨⟨oc, vs, t, hoc, hdc, hvc⟩, _, _⟩ := I2.hok F.c _ hc
  have rc : codeAny (model X.prog X.w) (X.A.deeper (envOfC qg sg s.heap.objs.size g cdg)) (.call (.ref f) ⟨[u], []⟩) (CR CX0 (envOfC qg sg s.heap.objs.size g cdg :: X.stack) X.prog X.w H2 s2 Q (fun _ _ _ => False)) s2 := by
    refine PySem.W.kla_callFunE hr.depth of1 rfl S.co S.gen rfl ⟨F.c, oc, vs, t, rfl, hoc, hdc, hvc⟩ ?_
    rw [hbind]
    refine wpAny_pure (wpAny_newFunctionEnv S.nocell (fun y hy => ?_) (fun h₁ hns hsb => ⟨I2.nolimit.fresh _ hsb, ?_⟩) S.kind)
    · rw [List.mem_singleton] at hy
      rw [hy]
      exact S.par p (by simp)
    show codeAny _ _ (.expr body (envF F f s2.heap.objs.size)) _ _
    have kp : ∀ b o, s2.heap.get? b = some o → h₁.get? b = some o := fun b o e => hsb.extBut b o (Nat.ne_of_lt (Heap.lt_size e)) (Heap.get?_push_of_some _ e)
    have J : Inv (ncx CX0 X.prog X.w X.K X.mg X.base N F f (X.A.deeper (envOfC qg sg s.heap.objs.size g cdg)) (envOfC qg sg s.heap.objs.size g cdg :: X.stack) s2 H2 (fun _ _ _ => False)) [] (startF N [v] ws) H2 { s2 with heap := h₁, toks := s2.toks + ([(p, u)] : List (Str × Value)).length } :=
      inv_startN (ps := [p]) (us := [u]) S hr.hd I2.env0 rfl (.cons ru .nil) C2 hns kp
    refine PySem.W.kla_codeExpr (wpAny_mono ((hbody _ _ s2 H2 _ (hr.deeper _)).run [] _ _ H2 Q J q) (fun v s' hq => ?_) fun e s' hq => hq)
    obtain ⟨w', H', J', rv, q⟩ := hq
    exact ⟨w', H', J'.os, J'.bare, J'.base, J'.hok, rv, q⟩
  refine wpAny_call (codeAny_mono rc fun r s' hq => ?_)
  cases r with
  | error e => exact (show False from hq).elim
  | ok fl =>
    cases fl with
    | ret u => exact I2.after hq
    | next => exact False.elim hq
    | brk => exact False.elim hq
    | cont => exact False.elim hq
end
/-! ### from data to states -/
def Fits (K : PySem.W.Frag) (C : Addr) (G : Hp) : List Sl → L2.St → Prop
  | [], [] => True
  | .v d :: D, x :: st => (∃ v, x = some v ∧ At K C G v d) ∧ Fits K C G D st
  | .no :: D, _ :: st => Fits K C G D st
  | _, _ => False
section
variable {K : PySem.W.Frag} {C : Addr} {G H : Hp} {S S0 : Addr → Prop} {H0 : Hp} {D : List Sl} {st : L2.St} {te : TE} {tz : TS} {tt : TT} {d : PyData} {i : Nat} {b : Bool}
theorem Fits.len : ∀ {D : List Sl} {st : L2.St}, Fits K C G D st → st.length = D.length
  | [], [], _ => rfl
  | .v _ :: _, _ :: _, h => congrArg Nat.succ (Fits.len h.2)
  | .no :: _, _ :: _, h => congrArg Nat.succ (Fits.len h)
theorem Fits.at_ : ∀ {D : List Sl} {st : L2.St} {i : Nat} {x : Sl}, Fits K C G D st → D[i]? = some x → x = .no ∨ ∃ d v, x = .v d ∧ st[i]? = some (some v) ∧ At K C G v d
  | [], [], _, _, _, e => by simp at e
  | .v d :: D, y :: st, 0, x, h, e => by
    have e : Sl.v d = x := Option.some.inj e
    obtain ⟨⟨v, h1, h2⟩, _⟩ := h
    exact .inr ⟨d, v, e.symm, by rw [h1] <;> rfl, h2⟩
  | .no :: D, y :: st, 0, x, h, e => .inl (Option.some.inj e).symm
  | .v d :: D, y :: st, i + 1, x, h, e => Fits.at_ (i := i) h.2 e
  | .no :: D, y :: st, i + 1, x, h, e => Fits.at_ (i := i) (show Fits K C G D st from h) e
theorem Fits.conc (dm : ∀ b, S b → H b ≠ none) (f : Fits K C (hid S H) D st) : Conc K C S H S D st H :=
  { len := f.len
    sub := fun b z => z
    dom0 := dm
    dom := dm
    old := Same.refl H
    val := fun i d h => by
      rcases f.at_ h with z | ⟨d', v, h1, h2, h3⟩
      · cases z
      · cases h1
        exact ⟨v, h2, h3⟩
    own := fun i ds h => by
      rcases f.at_ h with z | ⟨d', v, h1, h2, h3⟩
      · cases z
      · cases h1
    sep := fun i j ds es l h => by
      rcases f.at_ h with z | ⟨d', v, h1, h2, h3⟩
      · cases z
      · cases h1 }
/-- nothing is hidden -/
def F0 : Addr → Prop := fun _ => False
theorem hid0 : hid F0 H = H := by
  funext b
  exact hid_of (fun z => z)
theorem Fits.conc0 (f : Fits K C H D st) : Conc K C F0 H F0 D st H := Fits.conc (fun _ z => z.elim) (by rw [hid0]; exact f)
theorem go_asg {E : Ends} (he : Gd K C te D d) (c : Conc K C S0 H0 S D st H) (k : ∀ v H1, Same H H1 → At K C (hid S H1) v d → Conc K C S0 H0 S (D.set i (.v d)) (st.set i (some v)) H1 → tz E (st.set i (some v)) H1) : tSeq (tAsg te (gName i)) tz E st H :=
  he S0 H0 S st H c _ fun v H1 e1 a1 => k v H1 e1 a1 ((c.up e1).set a1)
theorem go_exp {Q : VK} (he : Gd K C te D d) (c : Conc K C S0 H0 S D st H) (k : ∀ v H1, Same H H1 → At K C (hid S H1) v d → Conc K C S0 H0 S D st H1 → Q v H1) : te st H Q :=
  he S0 H0 S st H c _ fun v H1 e1 a1 => k v H1 e1 a1 (c.up e1)
theorem go_tst {Q : Bool → Hp → Prop} (he : Gb K C tt D b) (c : Conc K C S0 H0 S D st H) (k : ∀ H1, Same H H1 → Conc K C S0 H0 S D st H1 → Q b H1) : tt st H Q :=
  he S0 H0 S st H c _ fun H1 e1 => k H1 e1 (c.up e1)
end
/-! ### first_kept -/
section
variable {P : Program} {w : World} {K : PySem.W.Frag} {mg : Str → Option Value} {base : Heap} {fd : Str → FuncData} {C : Addr}
abbrev NF1 : List Str := ["some", "kept", "low", "high", "half"]
theorem first_body (T : Tx K mg fd C) {g f : Addr} {cdg : Value} {A : Around} {outer : List Env} {s : Shared} {H : Hp} {E : XK} {U : V → Hp → VK → Prop} {pk : Nat → Bool} {ds : List PyData} {vs : V} {Q : VK}
    (act : ∀ (p1 p2 : Pos) (e : Expr) (te : TE), (∀ env : Env, starEach (e :: []) env = (false, eval e env) :: starEach [] env) → PE (cxOf CX0 P w K mg base NF1 "first_kept" (defScope s_first_kept) g cdg A outer s H E).nox e te →
      PE (cxOf CX0 P w K mg base NF1 "first_kept" (defScope s_first_kept) g cdg A outer s H E).nox (.Call (.Name "kept" p1) [e] [] p2) (fun σZ HZ Q => σZ[1]? = some (some (.ref f)) ∧ te σZ HZ fun v H1 => U v H1 Q))
    (hU : ∀ (i : Nat) (d : PyData) (v : V) (H1 : Hp) (Q : VK), ds[i]? = some d → Same H H1 → At K C H1 v d → (∀ H2, Same H1 H2 → Q (.bl (pk i)) H2) → U v H1 Q)
    (hv : At K C H vs (.list ds)) (hl : 1 ≤ ds.length ∧ ds.length ≤ 1000)
    (hQ : ∀ (r : Nat) (H' : Hp), r < ds.length → (r + 1 = ds.length ∨ pk r = true) → (r = 0 ∨ pk (r - 1) = false) → Same H H' → Q (.int r) H') :
    ∃ t, PSs (cxOf CX0 P w K mg base NF1 "first_kept" (defScope s_first_kept) g cdg A outer s H E).nox (defBody s_first_kept) t ∧ t { nx := fun _ H' => Q .non H', rt := Q } (L2.start NF1 [vs, .ref f]) H := by
  refine ⟨_, (pss_cons (ps_set (i := 2) sc_first_kept.nd rfl (.inl rfl) pe_int)
    (pss_cons (ps_set (i := 3) sc_first_kept.nd rfl (.inl rfl) (pe_op op_sub (pe_callB (call_lenK K) (by rfl) T.n_len (by decide +kernel) (pa_cons (pv 0) pa_nil)) pe_int))
    (pss_cons (ps_while PassesOwn.never (pt_cmpR op_lt (pv 2) (pv 3) (nomark _))
    (pss_cons (ps_set (i := 4) sc_first_kept.nd rfl (.inl rfl) (pe_op op_fdivW (pe_op op_add (pv 2) (pv 3)) pe_int))
    (pss_cons (ps_if (pt_val (act _ _ _ _ (fun _ => rfl) (pe_ix (ix_listK K) (pv 0) (pv 4) (fun _ _ => rfl))))
    (pss_cons (ps_set (i := 3) sc_first_kept.nd rfl (.inl rfl) (pv 4))
    pss_nil)
    (pss_cons (ps_set (i := 2) sc_first_kept.nd rfl (.inl rfl) (pe_op op_add (pv 4) pe_int))
    pss_nil))
    pss_nil)))
    (pss_cons (ps_ret (pv 2))
    pss_nil)))), ?_⟩
  have c0 : Conc K C F0 H F0 [.v (.list ds), .no, .no, .no, .no] (L2.start NF1 [vs, .ref f]) H := Fits.conc0 ⟨⟨_, rfl, hv⟩, trivial⟩
  refine go_asg gd_int c0 fun v H1 e1 a1 c1 => ?_
  cases a1
  refine go_asg (gd_i0 (gd_len (ds := ds) gd_var) gd_int) c1 fun v H2 e2 a2 c2 => ?_
  cases a2
  refine ⟨fun m st1 H1 => ∃ lo hi : Nat, m = hi - lo ∧ lo ≤ hi ∧ hi < ds.length ∧ (hi + 1 = ds.length ∨ pk hi = true) ∧ (lo = 0 ∨ pk (lo - 1) = false) ∧ st1[1]? = some (some (.ref f)) ∧ Conc K C F0 H F0 [.v (.list ds), .no, .v (.int lo), .v (.int hi), .no] st1 H1,
    ⟨ds.length - 1 - 0, 0, ds.length - 1, rfl, by omega, by omega, .inl (by omega), .inl rfl, rfl, ?_⟩, ?_⟩
  · have e : ((ds.length : Int) - 1) = ((ds.length - 1 : Nat) : Int) := by omega
    rw [← e]
    exact c2
  · rintro m st1 H3 ⟨lo, hi, rfl, h1, h2, h3, h4, hf, c3⟩
    refine go_tst (gb_test (gd_b0 gd_var gd_var)) c3 fun H4 e4 c4 => ?_
    by_cases hlt : lo < hi
    · have hb : decide ((lo : Int) < hi) = true := decide_eq_true (by omega)
      rw [hb]
      refine iteT ⟨fun st' H' => ∃ m', m' < hi - lo ∧ ∃ lo hi : Nat, m' = hi - lo ∧ lo ≤ hi ∧ hi < ds.length ∧ (hi + 1 = ds.length ∨ pk hi = true) ∧ (lo = 0 ∨ pk (lo - 1) = false) ∧ st'[1]? = some (some (.ref f)) ∧ Conc K C F0 H F0 [.v (.list ds), .no, .v (.int lo), .v (.int hi), .no] st' H', fun st' H' z => z, ?_⟩
      refine go_asg (gd_i (gd_i0 gd_var gd_var) gd_int (cdiv (by decide) (by decide))) c4 fun v H5 e5 a5 c5 => ?_
      cases a5
      have eh : ((lo : Int) + hi) / 2 = (((lo + hi) / 2 : Nat) : Int) := by omega
      rw [eh] at c5 ⊢
      generalize hm : (lo + hi) / 2 = mid at *
      have hmid : mid < ds.length := by omega
      refine ⟨by rw [List.getElem?_set_ne (by decide)]; exact hf, ?_⟩
      refine go_exp (gd_ixL (ds := ds) (d := ds[mid]) gd_var gd_var (atD rfl (List.getElem?_eq_getElem hmid))) c5 fun v H6 e6 a6 c6 => ?_
      refine hU mid ds[mid] v H6 _ (List.getElem?_eq_getElem hmid) c6.old (by rw [hid0] at a6; exact a6) fun H7 e7 => ⟨_, rfl, ?_⟩
      have c7 := c6.up e7
      cases hp : pk mid with
      | true =>
        refine iteT (go_asg (gd_var (d := .int mid)) c7 fun v H8 e8 a8 c8 => ?_)
        cases a8
        refine ⟨mid - lo, by omega, lo, mid, rfl, by omega, by omega, .inr hp, h4, ?_, c8.weak ⟨.inr rfl, .inr rfl, .inr rfl, .inr rfl, .inl rfl, trivial⟩⟩
        rw [List.getElem?_set_ne (by decide), List.getElem?_set_ne (by decide)]
        exact hf
      | false =>
        refine iteF (go_asg (gd_i0 (gd_var (d := .int mid)) gd_int) c7 fun v H8 e8 a8 c8 => ?_)
        cases a8
        refine ⟨hi - (mid + 1), by omega, mid + 1, hi, rfl, by omega, h2, h3, .inr hp, ?_, c8.weak ⟨.inr rfl, .inr rfl, .inr rfl, .inr rfl, .inl rfl, trivial⟩⟩
        rw [List.getElem?_set_ne (by decide), List.getElem?_set_ne (by decide)]
        exact hf
    · have hb : decide ((lo : Int) < hi) = false := decide_eq_false (by omega)
      rw [hb]
      refine iteF ?_
      have e : lo = hi := by omega
      subst e
      refine go_exp gd_var c4 fun v H5 e5 a5 c5 => ?_
      cases a5
      exact hQ lo H5 h2 h3 h4 c5.old
end
end Du

namespace Du
open PySem PySem.Spec PyProof.Rows L2 LamX NdefX
def lamQ : Str := ("fairest" : Str) ++ ".<locals>." ++ "<lambda>"
def planD (W : Int) (n : Nat) (sp : List (Nat × List Int)) : PyData := .dict [(.list (keptD sp), tabD W (duesZ W n sp))]
def fstD : Out → PyData
  | .go _ _ => .str "row"
  | _ => .str "paper"
def secD : Out → PyData
  | .over a b => .tuple [.str "over", .int a, .int b]
  | .under a b => .tuple [.str "under", .int a, .int b]
  | .go _ md => .list (md.map fun p => .int (p.1 : Nat))
theorem out_two (o : Out) : outD o = .tuple [fstD o, secD o] := by cases o <;> rfl
def rowB : Out → Bool
  | .go _ _ => true
  | _ => false
theorem fst_row (o : Out) : ∃ x, fstD o = .str x ∧ decide (x = ("row" : Str)) = rowB o := by
  cases o
  · exact ⟨_, rfl, show decide (("paper" : Str) = "row") = false by decide⟩
  · exact ⟨_, rfl, show decide (("paper" : Str) = "row") = false by decide⟩
  · exact ⟨_, rfl, show decide (("row" : Str) = "row") = true by decide⟩
/-- the deal for a bound -/
def dealF (W : Int) (n : Nat) (T : List (List Int)) (M : Int) (o : Bool) : Out := dealtO (ranges W M o T) 0 (List.replicate n 0)
def candF (W : Int) (T : List (List Int)) : List Int := riseZ (sortZ 8 (candZ W T.flatten))
def R_fair (W : Int) (n : Nat) (T : List (List Int)) (d : PyData) : Prop := ∃ r M, (candF W T)[r]? = some M ∧ (r + 1 = (candF W T).length ∨ rowB (dealF W n T M false) = true) ∧
  (∀ M', r ≠ 0 → (candF W T)[r - 1]? = some M' → rowB (dealF W n T M' false) = false) ∧ d = .tuple [frD (fr W M), secD (dealF W n T M false), secD (dealF W n T M true)]
def spFair (K : PySem.W.Frag) (C Pt : Addr) : L2.Sp := fun vs H Q _ => ∃ v W n sp, vs = [v] ∧ At K C H v (planD W n sp) ∧ OkS n sp ∧ Sp W n sp ∧ W ≤ 10000000 ∧ Tabs [(Pt, lamQ)] H ∧
  ∀ d u H', R_fair W n (duesZ W n sp) d → ExtN H H' → Tabs [(Pt, lamQ)] H' → At K C H' u d → Q u H'
abbrev NLm : List Str := ["one", "plan", "start"]
abbrev NFa : List Str := ["plan", "some", "most", "row", "paper", "start"]
/-- first_kept(some, lambda one: body) -/
def tLam1 (K : PySem.W.Frag) (C Pt : Addr) (tb : TE) : TE := fun σ H Q => ∃ (vsome vp vst : V) (ds : List PyData) (dp dst : PyData) (pk : Nat → Bool), σ[0]? = some (some vp) ∧ σ[1]? = some (some vsome) ∧ σ[5]? = some (some vst) ∧ Tabs [(Pt, lamQ)] H ∧
  At K C H vsome (.list ds) ∧ At K C H vp dp ∧ At K C H vst dst ∧ (1 ≤ ds.length ∧ ds.length ≤ 1000) ∧ (∀ (i : Nat) (d : PyData), ds[i]? = some d → Gd K C tb [.v d, .v dp, .v dst] (.bool (pk i))) ∧
  ∀ (r : Nat) (H' : Hp), ExtN H H' → Tabs [(Pt, lamQ)] H' → r < ds.length → (r + 1 = ds.length ∨ pk r = true) → (r = 0 ∨ pk (r - 1) = false) → Q (.int r) H'
section
variable {P : Program} {w : World} {K : PySem.W.Frag} {mg : Str → Option Value} {base : Heap} {fd : Str → FuncData} {C : Addr}
theorem pe_lam1 (T : Tx K mg fd C) {c Pt fa : Addr} (TB : TabB base mg c Pt) {A : Around} {outer : List Env} {s0 : Shared} {H0 : Hp} {E : XK} {params : Arguments} {body : Expr} {scope : Scope} {p p2 lpos pos : Pos} {tb : TE}
    (hr : Room 12 (cxOf CX0 P w K mg base NFa "fairest" (defScope s_fairest) fa (.ref c) A outer s0 H0 E).nox.A) (S : NScope NLm ["one"] ["plan", "start"] scope) (hnd : ndefB (defScope s_fairest) scope ["plan", "start"] = true)
    (hdef : defaultsOf params (cxOf CX0 P w K mg base NFa "fairest" (defScope s_fairest) fa (.ref c) A outer s0 H0 E).nox.env = ([], []))
    (hbind : ∀ (q : Str) (cl : List (Str × Addr)) (pm cv ctv u : Value), bindArgs (PySem.W.kla_fn "<lambda>" q params body scope cl pm cv ctv) ⟨[u], []⟩ = pure [(("one" : Str), u)])
    (hbody : ∀ (cl : List (Str × Addr)) (c' f : Addr) (A : Around) (outer : List Env) (s : Shared) (H : Hp) (E : XK), Room 10 (A.deeper (envF ⟨"<lambda>", lamQ, params, [], scope, cl, c'⟩ f s.heap.objs.size)) → PE (ncx CX0 P w K mg base NLm ⟨"<lambda>", lamQ, params, [], scope, cl, c'⟩ f A outer s H E) body tb) :
    PE (cxOf CX0 P w K mg base NFa "fairest" (defScope s_fairest) fa (.ref c) A outer s0 H0 E).nox (.Call (.Name "first_kept" p) [.Name "some" p2, .Lambda params body scope lpos] [] pos) (tLam1 K C Pt tb) := by
  refine ⟨fun pins s σ H Q I h => ?_⟩
  obtain ⟨vsome, vp, vst, ds, dp, dst, pk, h0, h1, h5, hT, a1, ap, as, hl, hk, hQ⟩ := h
  refine wpAny_Call_Name_kw (ld_glob I rfl T.m_first_kept ?_)
  refine PySem.W.callWith_K (h₀ := base) I.ok.mod.kin T.F_first_kept.kp ?_ (by rfl) (by rfl)
  show wpAny _ _ (spliced ((false, eval (.Name "some" p2) _) :: (false, eval (.Lambda params body scope lpos) _) :: backTo pos (starEach [] _))) _ _ s
  refine Calls.spliced_cons (thn ((pv (pos := p2) 1).run pins s σ H (fun v H1 => v = vsome ∧ H1 = H) I ⟨vsome, h1, rfl, rfl⟩) fun u s1 ⟨v, H1, I1, r1, q1⟩ => ?_)
  obtain ⟨e1, e2⟩ := q1
  rw [e1] at r1
  rw [e2] at I1
  have fre := ndef_free hnd
  have hfree : ∀ y ∈ scope.names, y.2 = .free → ∃ c', (cxOf CX0 P w K mg base NFa "fairest" (defScope s_fairest) fa (.ref c) A outer s0 H0 E).nox.env.cells.lookup y.1 = some c' := fun y hy e => by
    rcases fre y hy e with z | z
    · exact I1.ok.has _ (.inl z)
    · exact I1.ok.has _ (.inr z)
  refine Calls.spliced_cons (lam_make2 (T := [(Pt, lamQ)]) I1 TB rfl (List.mem_singleton.mpr rfl) (fun p hp _ => by rw [List.mem_singleton.mp hp] <;> rfl) hT hdef hfree fun f c' pm ctv H2 s2 I2 eN T2 hf hfn hfr hco => ?_)
  refine Calls.spliced_nil ⟨I2.kIn, ?_⟩
  have cp : Caps (cxOf CX0 P w K mg base NFa "fairest" (defScope s_fairest) fa (.ref c) A outer s0 H0 E).nox (cloFrom (cxOf CX0 P w K mg base NFa "fairest" (defScope s_fairest) fa (.ref c) A outer s0 H0 E).nox.env.cells scope.names []) ["plan", "start"] [0, 5] :=
    Caps.made I2.ok fre (ndef_fr hnd) rfl
  have CA := cells_of I2 cp
  have ew : [0, 5].map (slotAt σ) = [some vp, some vst] := by
    rw [List.map_cons, List.map_cons, List.map_nil, slotAt_of h0, slotAt_of h5]
  rw [ew] at CA
  obtain ⟨oc, od, kV, doc, pmg, an, cdv, ct, osl, e1, lk, hcd⟩ := T.F_first_kept.ex
  have hb := T.b_first_kept
  rw [e1] at lk hb
  have a1' : At K C H2 vsome (.list ds) := a1.mono eN
  have ap' : At K C H2 vp dp := ap.mono eN
  have as' : At K C H2 vst dst := as.mono eN
  have hU : ∀ (i : Nat) (d : PyData) (v : V) (H1 : Hp) (Q : VK), ds[i]? = some d → Same H2 H1 → At K C H1 v d → (∀ H2, Same H1 H2 → Q (.bl (pk i)) H2) → H1 c' = some (CodeO c' lamQ) ∧ tb (startF NLm [v] [some vp, some vst]) H1 Q := fun i d v H1 Q hd eS av hQ' => by
    refine ⟨eS _ _ hco, ?_⟩
    have c1 : Conc K C F0 H1 F0 [.v d, .v dp, .v dst] (startF NLm [v] [some vp, some vst]) H1 := Fits.conc0 ⟨⟨_, rfl, av⟩, ⟨_, rfl, ap'.up eS⟩, ⟨_, rfl, as'.up eS⟩, trivial⟩
    refine hk i d hd F0 H1 F0 _ H1 c1 _ fun v H3 e3 a3 => ?_
    cases a3
    exact hQ' H3 e3
  have rc : codeAny (model P w) (cxOf CX0 P w K mg base NFa "fairest" (defScope s_fairest) fa (.ref c) A outer s0 H0 E).nox.A (.call (.ref (He.ga K "first_kept")) ⟨[u, .ref f], []⟩) (CR CX0 (cxOf CX0 P w K mg base NFa "fairest" (defScope s_fairest) fa (.ref c) A outer s0 H0 E).nox.stack P w H2 s2 Q E0) s2 := by
    refine run_ofS (k := 11) (N := NF1) (ps := ["some", "kept"]) (us := [u, .ref f]) (vs := [vsome, .ref f]) lk hcd sc_first_kept hr I2.env0 (hb s2 [u, .ref f] I2.kIn rfl) (.cons r1 (.cons rfl .nil)) rfl fun hr' => ?_
    obtain ⟨t, ht, hq⟩ := first_body T (f := f) (U := fun v H1 Q => H1 c' = some (CodeO c' lamQ) ∧ tb (startF NLm [v] [some vp, some vst]) H1 Q) (pk := pk) (ds := ds) (vs := vsome) (Q := Q) (P := P) (w := w) (base := base) (g := He.ga K "first_kept") (cdg := cdv) (s := s2) (H := H2) (E := E0)
      (A := (cxOf CX0 P w K mg base NFa "fairest" (defScope s_fairest) fa (.ref c) A outer s0 H0 E).nox.A) (outer := (cxOf CX0 P w K mg base NFa "fairest" (defScope s_fairest) fa (.ref c) A outer s0 H0 E).nox.stack)
      (fun p1 p2 e te he hte => pe_act1 (F := ⟨"<lambda>", lamQ, params, [], scope, cloFrom (cxOf CX0 P w K mg base NFa "fairest" (defScope s_fairest) fa (.ref c) A outer s0 H0 E).nox.env.cells scope.names [], c'⟩) (k := 10) S I2 CA hf hfn hfr (fun u => hbind _ _ _ _ _ u) hr' (fun A outer s H E hr2 => hbody _ _ f A outer s H E hr2) rfl (.inl rfl) hte (he := he))
      hU a1' hl (fun r H' r1 r2 r3 eS => hQ r H' (eN.trans (ExtN.of eS)) (T2.ext eS) r1 r2 r3)
    exact ⟨t, ht.nox, hq⟩
  refine wpAny_call (codeAny_mono rc fun r s' hq => ?_)
  cases r with
  | error e => exact (show False from hq).elim
  | ok fl =>
    cases fl with
    | ret u => exact I2.after hq
    | next => exact False.elim hq
    | brk => exact False.elim hq
    | cont => exact False.elim hq
end
end Du

namespace Du
open PySem PySem.Spec PyProof.Rows L2 LamX NdefX
section
variable {P : Program} {w : World} {K : PySem.W.Frag} {mg : Str → Option Value} {base : Heap} {fd : Str → FuncData} {C : Addr}
theorem flat_len {n : Nat} : ∀ {T : List (List Int)}, (∀ r ∈ T, r.length = n) → T.flatten.length = T.length * n
  | [], _ => by simp
  | r :: T, h => by
    rw [List.flatten_cons, List.length_append, flat_len fun r hr => h r (List.mem_cons_of_mem _ hr), h r (List.mem_cons_self ..), List.length_cons, Nat.succ_mul]
    omega
theorem go_rix {H : Hp} {v : V} {ds : List PyData} {d : PyData} {i : Int} {Q : VK} (a : At K C H v (.list ds)) (h : atI ds i = some d) (k : ∀ u H1, Same H H1 → At K C H1 u d → Q u H1) : rIxL K v (.int i) H Q := by
  have key : tOp (rIxL K) (tVar 0) (tVar 1) [some v, some (.int i)] H Q := gd_ixL (K := K) (C := C) (D := [.v (.list ds), .v (.int i)]) (gd_var (k := 0)) (gd_var (k := 1)) h F0 H F0 [some v, some (.int i)] H (Fits.conc0 ⟨⟨_, rfl, a⟩, ⟨_, rfl, .int _⟩, trivial⟩) Q fun u H1 e1 a1 => by
    rw [hid0] at a1
    exact k u H1 e1 a1
  obtain ⟨z1, hz1, z2, hz2, hz⟩ := key
  cases hz1
  cases hz2
  exact hz
theorem go_gs {S : Addr → Prop} {H : Hp} {D : List Sl} {st : L2.St} {t : TS} {E : Ends} {P : Pst} (h : GS K C t D P) (c : Conc K C S H S D st H) (nx : ∀ D', P.nx D' → False) (bk : ∀ D', P.bk D' → False) (ct : ∀ D', P.ct D' → False)
    (rt : ∀ d v H', P.rt d → Same H H' → At K C (hid S H') v d → E.rt v H') : t E st H :=
  h S H S st H E c (fun D' _ _ _ z _ _ => (nx D' z).elim) rt (fun D' _ _ _ z _ _ => (bk D' z).elim) (fun D' _ _ _ z _ _ => (ct D' z).elim)
theorem ok_fairest (T : Tx K mg fd C) {c Pt : Addr} (TB : TabB base mg c Pt) (hc : (fd "fairest").code = .ref c) : FnOk P w K mg base CX0 14 (He.ga K "fairest") (fd "fairest") ["plan"] (spFair K C Pt) := by
  obtain ⟨oc, od, kV, doc, pm, an, cdv, ct, osl, e1, lk, hcd⟩ := T.F_fairest.ex
  have ec : cdv = .ref c := by
    rw [e1] at hc
    exact hc
  subst ec
  rw [e1] at lk ⊢
  refine fn_of lk hcd sc_fairest (fun vs H Q E h => by obtain ⟨v, _, _, _, rfl, _⟩ := h; rfl) fun A outer s H vs Q E hr hsp => ?_
  obtain ⟨v, W, n, sp, rfl, av, hS, hQ, hW2, hT, hq⟩ := hsp
  have G_many := ok_many (P := P) (w := w) (base := base) T
  have G_all_in := ok_all_in (P := P) (w := w) (base := base) T
  have G_parts_of_one := ok_parts (P := P) (w := w) (base := base) T
  have G_ranges_by_turns := ok_ranges (P := P) (w := w) (base := base) T
  have G_dealt := ok_dealt (P := P) (w := w) (base := base) T
  refine ⟨_, PSs.nox (pss_cons (ps_set (i := 5) sc_fairest.nd rfl (.inr rfl) (pe_op op_rep (pe_lst (pa_cons pe_int pa_nil)) (pe_meth0 (pv 0) T.cl.cl T.M_many G_many (hr.mono (by decide)) T.b_many .nil pass0)))
    (pss_cons (ps_set (i := 1) sc_fairest.nd rfl (.inl rfl) (pe_call G_parts_of_one (hr.mono (by decide)) (by rfl) T.m_parts_of_one T.F_parts_of_one.kp T.b_parts_of_one .nil pass0 (pa_cons (pe_call G_all_in (hr.mono (by decide)) (by rfl) T.m_all_in T.F_all_in.kp T.b_all_in .nil pass0 (pa_cons (pe_fld (pv 0) rfl) pa_nil)) pa_nil)))
    (pss_cons (ps_set (i := 2) sc_fairest.nd rfl (.inl rfl) (pe_ix (ix_listK K) (pv 1) (pe_lam1 T TB (hr.mono (by decide)) (nscope_by (by decide +kernel)) (by decide +kernel) rfl (fun _ _ _ _ _ _ => rfl) (fun _ _ _ _ _ _ _ _ hr => pe_cmpR op_eq (pe_ix (ix_tupK K) (pe_call G_dealt (hr.mono (by decide)) (by rfl) T.m_dealt T.F_dealt.kp T.b_dealt .nil pass0 (pa_cons (pe_call G_ranges_by_turns (hr.mono (by decide)) (by rfl) T.m_ranges_by_turns T.F_ranges_by_turns.kp T.b_ranges_by_turns .nil pass0 (pa_cons (pv 1) (pa_cons (pe_tup (pa_cons (pv 0) (pa_cons pe_bl pa_nil))) pa_nil))) (pa_cons pe_int (pa_cons (pv 2) pa_nil)))) pe_int (fun _ _ => rfl)) pe_str (nomark _))) (fun _ _ => rfl)))
    (pss_cons (ps_set (i := 3) sc_fairest.nd rfl (.inl rfl) (pe_ix (ix_tupK K) (pe_call G_dealt (hr.mono (by decide)) (by rfl) T.m_dealt T.F_dealt.kp T.b_dealt .nil pass0 (pa_cons (pe_call G_ranges_by_turns (hr.mono (by decide)) (by rfl) T.m_ranges_by_turns T.F_ranges_by_turns.kp T.b_ranges_by_turns .nil pass0 (pa_cons (pv 0) (pa_cons (pe_tup (pa_cons (pv 2) (pa_cons pe_bl pa_nil))) pa_nil))) (pa_cons pe_int (pa_cons (pv 5) pa_nil)))) pe_int (fun _ _ => rfl)))
    (pss_cons (ps_set (i := 4) sc_fairest.nd rfl (.inl rfl) (pe_ix (ix_tupK K) (pe_call G_dealt (hr.mono (by decide)) (by rfl) T.m_dealt T.F_dealt.kp T.b_dealt .nil pass0 (pa_cons (pe_call G_ranges_by_turns (hr.mono (by decide)) (by rfl) T.m_ranges_by_turns T.F_ranges_by_turns.kp T.b_ranges_by_turns .nil pass0 (pa_cons (pv 0) (pa_cons (pe_tup (pa_cons (pv 2) (pa_cons pe_bl pa_nil))) pa_nil))) (pa_cons pe_int (pa_cons (pv 5) pa_nil)))) pe_int (fun _ _ => rfl)))
    (pss_cons (ps_ret (pe_tup (pa_cons (pv 2) (pa_cons (pv 3) (pa_cons (pv 4) pa_nil)))))
    pss_nil)))))), ?_⟩
  obtain ⟨hD, hDl⟩ := dues_ok hQ
  have hW := hQ.W
  have n3 : n ≤ 3 := by
    obtain ⟨p0, hp0⟩ : ∃ p, sp[0]? = some p := ⟨sp[0]'(by have := hS.l; omega), List.getElem?_eq_getElem _⟩
    have pm := List.mem_of_getElem? hp0
    have := (hS.w p0 pm).l
    rw [hS.n p0 pm] at this
    omega
  have tl : (duesZ W n sp).length ≤ 7 := by
    have a := turns_le (sp := sp) fun q hq => (hS.t q hq).2
    have := hS.l
    omega
  have tb : ∀ r ∈ duesZ W n sp, ∀ X ∈ r, 0 ≤ X ∧ X ≤ 70000000 := fun r hr X hX => by
    have b := hD.bound hW hr hX
    have : ((duesZ W n sp).length : Int) * W ≤ 7 * 10000000 := Int.mul_le_mul (by omega) hW2 (by omega) (by omega)
    omega
  have fl := flat_len hD.row
  have tn : (duesZ W n sp).length * n ≤ 7 * 3 := Nat.mul_le_mul tl n3
  have nz : tabD W (duesZ W n sp) ≠ .none := fun z => nomatch z
  have hmany : R_many [planD W n sp] (.int (n : Nat)) := ⟨n, sp, _, rfl, hS, rfl⟩
  have dl := hD.len
  have drow := hD.row
  unfold planD at av hmany
  generalize duesZ W n sp = Tb at *
  have okT : ∀ M, 0 ≤ M → M ≤ W → OkT W M Tb := fun M h1 h2 => ⟨⟨hW, hW2⟩, ⟨h1, by omega⟩, fun r hr X hX => ⟨(tb r hr X hX).1, by have := (tb r hr X hX).2; omega⟩, by omega, fun r hr => by rw [drow r hr]; omega⟩
  have okR : ∀ M o, OkR (ranges W M o Tb) (List.replicate n (0 : Int)).length := fun M o => ⟨fun r hr => by
    unfold ranges at hr
    obtain ⟨x, hx, rfl⟩ := List.mem_map.mp hr
    rw [List.length_map, drow x hx, List.length_replicate], by unfold ranges; rw [List.length_map]; omega, by rw [List.length_replicate]; omega⟩
  have lR : ∀ M o, 1 ≤ (ranges W M o Tb).length := fun M o => by unfold ranges; rw [List.length_map]; exact dl
  have cm : ∀ M ∈ candF W Tb, 0 ≤ M ∧ M ≤ W := fun M hM => by
    unfold candF at hM
    rw [rise_mem, sort_mem, cand_mem] at hM
    rcases hM with h | h | ⟨X, _, h | h⟩
    · omega
    · omega
    · have := Int.emod_nonneg X (show W ≠ 0 by omega)
      have := Int.emod_lt_of_pos X hW
      omega
    · have := Int.emod_nonneg X (show W ≠ 0 by omega)
      have := Int.emod_lt_of_pos X hW
      omega
  have c1' : 1 ≤ (candF W Tb).length := by
    have : (0 : Int) ∈ candF W Tb := by
      unfold candF
      rw [rise_mem, sort_mem, cand_mem]
      exact .inl rfl
    exact List.length_pos_of_mem this
  have c2' : (candF W Tb).length ≤ 1000 := by
    unfold candF
    refine Nat.le_trans rise_len ?_
    rw [sort_len]
    refine Nat.le_trans cand_len ?_
    rw [fl]
    omega
  have c0 : Conc K C F0 H F0 [.v (.dict [(.list (keptD sp), tabD W Tb)]), .no, .no, .no, .no, .no] (L2.start NFa [v]) H := Fits.conc0 ⟨⟨_, rfl, av⟩, trivial⟩
  refine go_asg (d := intsD (List.replicate n 0)) (Gd.is (gd_new (gl_rep (n := n) (gd_new (gl_lst (ga_cons gd_int ga_nil))) (gd_meth gd_var hmany (by decide +kernel) (by decide +kernel)) (by omega))) (by unfold intsD; rw [List.map_replicate])) c0 fun v1 H1 e1 a1 c1 => ?_
  refine go_asg (gd_call (ga_cons (gd_call (ga_cons (gd_table T.cl gd_var nz) ga_nil) ⟨W, Tb, rfl, by omega, by omega, rfl⟩) ga_nil) ⟨W, Tb.flatten, rfl, hW, hW2, fun X hX => ?_, by omega, rfl⟩) c1 fun v2 H2 e2 a2 c2 => ?_
  · obtain ⟨r, hr, hx⟩ := List.mem_flatten.mp hX
    have := tb r hr X hx
    omega
  rw [hid0] at a1 a2
  have dealG : ∀ (D : List Sl) (i j : Nat) (M : Int) (o : Bool) (tp tq : TE), 0 ≤ M → M ≤ W → Gd K C tp D (.dict [(.list (keptD sp), tabD W Tb)]) → Gd K C tq D (bndD W M o) → ∀ ts, Gd K C ts D (intsD (List.replicate n 0)) →
      Gd K C (tCall (spR K C R_dealt) [] E0 (tCons (tCall (spR K C R_ranges) [] E0 (tCons tp (tCons tq tNil))) (tCons (tC (.int 0)) (tCons ts tNil)))) D (.tuple [fstD (dealF W n Tb M o), secD (dealF W n Tb M o)]) := fun D i j M o tp tq h1 h2 hp hq ts hs => by
    rw [← out_two]
    exact gd_call (ga_cons (gd_call (ga_cons hp (ga_cons hq ga_nil)) ⟨W, M, o, _, Tb, rfl, okT M h1 h2, rfl⟩) (ga_cons gd_int (ga_cons hs ga_nil))) ⟨ranges W M o Tb, 0, List.replicate n 0, rfl, okR M o, lR M o, rfl⟩
  refine ⟨v2, rfl, v2, v, v1, (candF W Tb).map fun X => frD (fr W X), .dict [(.list (keptD sp), tabD W Tb)], intsD (List.replicate n 0), fun i => rowB (dealF W n Tb ((candF W Tb).getD i 0) false), rfl, rfl, rfl, hT.ext (e1.trans e2), a2, av.up (e1.trans e2), a1.up e2, ⟨by rw [List.length_map]; exact c1', by rw [List.length_map]; exact c2'⟩, fun i d hd => ?_, fun r H3 eN T3 h1 h2 h3 => ?_⟩
  · rw [List.getElem?_map] at hd
    obtain ⟨M, hM, rfl⟩ := Option.map_eq_some_iff.mp hd
    have mb := cm M (List.mem_of_getElem? hM)
    have eM : (candF W Tb).getD i 0 = M := by rw [List.getD_eq_getElem?_getD, hM] <;> rfl
    show Gd K C _ _ (.bool (rowB (dealF W n Tb ((candF W Tb).getD i 0) false)))
    rw [eM]
    obtain ⟨x, hx, hb⟩ := fst_row (dealF W n Tb M false)
    rw [← hb]
    exact gd_eqS (gd_ixT (dealG _ 0 0 M false _ _ mb.1 mb.2 gd_var (gd_tup (ga_cons gd_var (ga_cons gd_bl ga_nil))) _ gd_var) gd_int (by rw [hx] <;> rfl)) gd_str
  · rw [List.length_map] at h1 h2
    have hM : (candF W Tb)[r]? = some ((candF W Tb).getD r 0) := by rw [List.getD_eq_getElem?_getD, List.getElem?_eq_getElem h1] <;> rfl
    generalize hMe : (candF W Tb).getD r 0 = M at *
    have mb := cm M (List.mem_of_getElem? hM)
    have a2' : At K C H3 v2 (.list ((candF W Tb).map fun X => frD (fr W X))) := a2.mono eN
    have av' : At K C H3 v (.dict [(.list (keptD sp), tabD W Tb)]) := (av.up (e1.trans e2)).mono eN
    have a1' : At K C H3 v1 (intsD (List.replicate n 0)) := (a1.up e2).mono eN
    refine go_rix a2' (d := frD (fr W M)) (atD rfl (by rw [List.getElem?_map, hM] <;> rfl)) fun v4 H4 e4 a4 => ?_
    have c4 : Conc K C F0 H4 F0 [.v (.dict [(.list (keptD sp), tabD W Tb)]), .no, .v (frD (fr W M)), .no, .no, .v (intsD (List.replicate n 0))] ((((L2.start NFa [v]).set 5 (some v1)).set 1 (some v2)).set 2 (some v4)) H4 := Fits.conc0 ⟨⟨_, rfl, av'.up e4⟩, ⟨_, rfl, a4⟩, ⟨_, rfl, a1'.up e4⟩, trivial⟩
    refine go_gs (P := { nx := fun _ => False, rt := fun d => d = .tuple [frD (fr W M), secD (dealF W n Tb M false), secD (dealF W n Tb M true)] }) (t := tSeq _ _) (gs_asg (gd_ixT (dealG _ 0 0 M false _ _ mb.1 mb.2 gd_var (gd_tup (ga_cons gd_var (ga_cons gd_bl ga_nil))) _ gd_var) gd_int rfl) (gs_asg (gd_ixT (dealG _ 0 0 M true _ _ mb.1 mb.2 gd_var (gd_tup (ga_cons gd_var (ga_cons gd_bl ga_nil))) _ gd_var) gd_int rfl) (gs_ret (gr_of (gd_tup (ga_cons gd_var (ga_cons gd_var (ga_cons gd_var ga_nil))))) rfl))) c4 (fun D' z => z) (fun D' z => z) (fun D' z => z) fun d u H5 hd e5 a5 => ?_
    rw [hid0] at a5
    have hd : d = _ := hd
    refine hq d u H5 ⟨r, M, hM, ?_, fun M' hr0 hM' => ?_, hd⟩ (((ExtN.of (e1.trans e2)).trans eN).trans (ExtN.of (e4.trans e5))) (T3.ext (e4.trans e5)) a5
    · rcases h2 with h2 | h2
      · exact .inl h2
      · have h2 : rowB (dealF W n Tb ((candF W Tb).getD r 0) false) = true := h2
        rw [hMe] at h2
        exact .inr h2
    · rcases h3 with h3 | h3
      · exact absurd h3 hr0
      · have eM' : (candF W Tb).getD (r - 1) 0 = M' := by rw [List.getD_eq_getElem?_getD, hM'] <;> rfl
        have h3 : rowB (dealF W n Tb ((candF W Tb).getD (r - 1) 0) false) = false := h3
        rw [eM'] at h3
        exact h3
end
end Du

namespace Du
open PySem PySem.Spec PyProof.Rows L2 LamX NdefX
mutual
def noPl : PyData → Bool
  | .list ds => noPls ds
  | .tuple ds => noPls ds
  | .dict _ => false
  | _ => true
def noPls : List PyData → Bool
  | [] => true
  | d :: ds => noPl d && noPls ds
end
section
variable {K : PySem.W.Frag} {C : Addr} {S S' : Addr → Prop} {H : Hp}
variable {G G' : Hp}
mutual
theorem At.hide (e : ∀ b o, G b = some o → (∀ D dx fs, o ≠ .ins D dx fs) → G' b = some o) : ∀ {v : V} {d : PyData}, At K C G v d → noPl d = true → At K C G' v d
  | _, _, .non, _ => .non
  | _, _, .bl b, _ => .bl b
  | _, _, .int i, _ => .int i
  | _, _, .str x, _ => .str x
  | _, _, .lst h hs, n => .lst (e _ _ h (fun _ _ _ z => nomatch z)) (AtAll.hide e hs (by simpa only [noPl] using n))
  | _, _, .tup h hs, n => .tup (by
      rcases h with (h | ⟨o, h⟩) | h
      · exact .inl (.inl (e _ _ h (fun _ _ _ z => nomatch z)))
      · exact .inl (.inr ⟨o, e _ _ h (fun _ _ _ z => nomatch z)⟩)
      · exact .inr h) (AtAll.hide e hs (by simpa only [noPl] using n))
  | _, _, .plan _ _ _, n => by
    simp only [noPl] at n
    cases n
  | _, _, .plan0 _ _, n => by
    simp only [noPl] at n
    cases n
theorem AtAll.hide (e : ∀ b o, G b = some o → (∀ D dx fs, o ≠ .ins D dx fs) → G' b = some o) : ∀ {vs : List V} {ds : List PyData}, AtAll K C G vs ds → noPls ds = true → AtAll K C G' vs ds
  | _, _, .nil, _ => .nil
  | _, _, .cons h hs, n => by
    simp only [noPls, Bool.and_eq_true] at n
    exact .cons (At.hide e h n.1) (AtAll.hide e hs n.2)
end
theorem hide_at (hx : ∀ b, S b → S' b ∨ ∃ D dx fs, H b = some (.ins D dx fs)) (a : Addr) (o : HO) (h : hid S' H a = some o) (n : ∀ D dx fs, o ≠ .ins D dx fs) : hid S H a = some o := by
  obtain ⟨h1, h2⟩ := hid_some h
  rw [hid_of]
  · exact h2
  · intro z
    rcases hx a z with z | ⟨D, dx, fs, z⟩
    · exact h1 z
    · rw [h2] at z
      exact n D dx fs (Option.some.inj z)
theorem go_sfld {S0 S : Addr → Prop} {H0 H : Hp} {D : List Sl} {st : L2.St} {d : PyData} {tv : TE} {tz : TS} {E : Ends} {x dx : Addr} {f : Str} {fs : List (Str × V)} (he : Gd K C tv D d) (c : Conc K C S0 H0 S D st H) (hst : st[0]? = some (some (.ref x))) (hx : H x = some (.ins C dx fs)) (hc : Cls K C) (hn : NoAttr K C f) (hl : fs.length < 1000)
    (k : ∀ y H1, Same H H1 → At K C (hid S H1) y d → Conc K C S0 H0 S D st H1 → tz E st (upd H1 x (.ins C dx (putF f y fs)))) : tSeq (sFld K (tVar 0) tv f) tz E st H :=
  he S0 H0 S st H c _ fun y H1 e1 a1 => ⟨.ref x, hst, x, C, dx, fs, rfl, e1 _ _ hx, hc, hn, hl, k y H1 e1 a1 (c.up e1)⟩
theorem go_drop {S0 S : Addr → Prop} {H0 H : Hp} {D : List Sl} {st : L2.St} {d : PyData} {tv : TE} {tz : TS} {E : Ends} (he : Gd K C tv D d) (c : Conc K C S0 H0 S D st H) (k : ∀ H1, Same H H1 → Conc K C S0 H0 S D st H1 → tz E st H1) : tSeq (tDrop tv) tz E st H :=
  he S0 H0 S st H c _ fun y H1 e1 a1 => k H1 e1 (c.up e1)
end
theorem noPls_all : ∀ {ds : List PyData}, (∀ d ∈ ds, noPl d = true) → noPls ds = true
  | [], _ => by unfold noPls; rfl
  | d :: ds, h => by
    unfold noPls
    rw [h d (List.mem_cons_self ..), noPls_all fun e he => h e (List.mem_cons_of_mem _ he)]
    rfl
theorem noPl_frD (p : Int × Int) : noPl (frD p) = true := by
  unfold frD
  simp [noPl, noPls]
theorem noPl_tab (W : Int) (T : List (List Int)) : noPl (tabD W T) = true := by
  unfold tabD noPl
  refine noPls_all fun d hd => ?_
  obtain ⟨r, _, rfl⟩ := List.mem_map.mp hd
  unfold rowD noPl
  refine noPls_all fun d hd => ?_
  obtain ⟨X, _, rfl⟩ := List.mem_map.mp hd
  exact noPl_frD _
def spInit (K : PySem.W.Frag) (C : Addr) : L2.Sp := fun vs H Q _ => ∃ (S : Addr → Prop) (x dx : Addr) (a : V) (sp : List (Nat × List Int)) (n : Nat) (W : Int), vs = [.ref x, a] ∧ (∀ b, S b → H b ≠ none) ∧ S x ∧ H x = some (.ins C dx []) ∧ At K C (hid S H) a (.list (spD sp)) ∧ OkS n sp ∧ Sp W n sp ∧ W ≤ 10000000 ∧
  ∀ (H' : Hp) (vk vt : V), (∀ b o, b ≠ x → H b = some o → H' b = some o) → H' x = some (.ins C dx [("kept", vk), ("table", vt)]) → At K C (hid S H') vk (.list (keptD sp)) → At K C (hid S H') vt (tabD W (duesZ W n sp)) → Q .non H'
section
variable {P : Program} {w : World} {K : PySem.W.Frag} {mg : Str → Option Value} {base : Heap} {fd : Str → FuncData} {C : Addr}
theorem ok_init (T : Tx K mg fd C) : FnOk P w K mg base CX0 5 (He.ma K C "__init__") (fd "Plan.__init__") ["self", "spells"] (spInit K C) := by
  refine T.F___init__.ok sc_Plan___init__ (fun vs H Q E h => by obtain ⟨_, _, _, _, _, _, _, rfl, _⟩ := h; rfl) fun cdv A outer s H vs Q E hr hsp => ?_
  obtain ⟨S, x, dx, a, sp, n, W, rfl, dm, hx, hi, av, hS, hQ, hW2, hq⟩ := hsp
  have G_check_spells := ok_check_spells (P := P) (w := w) (base := base) T
  have G_dues_by_turns := ok_dues (P := P) (w := w) (base := base) T
  refine ⟨_, (pss_cons (ps_expr (pe_call G_check_spells (hr.mono (by decide)) (by rfl) T.m_check_spells T.F_check_spells.kp T.b_check_spells .nil pass0 (pa_cons (pv 1) pa_nil)))
    (pss_cons (ps_fld (pv 0) (pe_lc (own := [("turns", 2), ("weights", 3)]) rfl sc_Plan___init__.nd (pi_listK K (pv 1)) (blkOk_by (by kernel_rfl)) (fun _ _ _ _ _ => (pg_tupK K (n := 2) rfl (pgs_cons (pg_name (i := 2) sc_Plan___init__.nd rfl (.inl rfl)) (pgs_cons (pg_name (i := 3) sc_Plan___init__.nd rfl (.inl rfl)) pgs_nil)))) (fun _ _ _ _ _ => pts_nil) (fun _ _ _ _ _ => (pe_tup (pa_cons (pv 2) (pa_cons (pe_callTy (call_tupK K) (by rfl) T.n_tuple (by decide +kernel) (pa_cons (pv 3) pa_nil)) pa_nil))))) rfl)
    (pss_cons (ps_fld (pv 0) (pe_meth0 (pv 0) T.cl.cl T.M_dues_by_turns G_dues_by_turns (hr.mono (by decide)) T.b_dues_by_turns .nil pass0) rfl)
    pss_nil))), ?_⟩
  have c0 : Conc K C S H S [.no, .v (.list (spD sp)), .no, .no] (L2.start ["self", "spells", "turns", "weights"] [.ref x, a]) H := Fits.conc dm ⟨⟨_, rfl, av⟩, trivial⟩
  refine go_drop (gd_call (R := R_check) (d := .none) (ga_cons (gd_var (d := .list (spD sp))) ga_nil) ⟨n, sp, rfl, hS, rfl⟩) c0 fun H1 e1 c1 => ?_
  refine go_sfld (x := x) (dx := dx) (fs := []) (d := .list (keptD sp)) (gd_new (gl_lc (is := [2, 3]) (xs := spD sp) (rs := keptD sp) (gj_of (gi_list gd_var)) (by unfold spD keptD; rw [List.length_map, List.length_map]) (by unfold spD; rw [List.length_map]; have := hS.l; omega) (by simp) fun i d hd => ?_)) c1 rfl (e1 _ _ hi) T.cl.cl T.cl.nK (by decide) fun y H2 e2 a2 c2 => ?_
  · unfold spD at hd
    rw [List.getElem?_map] at hd
    obtain ⟨p, hp, rfl⟩ := Option.map_eq_some_iff.mp hd
    exact ⟨_, _, gg_two, gd_tup (ga_cons gd_var (ga_cons (gd_tupof gd_var) ga_nil)), kept_at hp⟩
  have eP1 : putF "kept" y [] = [(("kept" : Str), y)] := rfl
  rw [eP1]
  have hx3 : upd H2 x (.ins C dx [("kept", y)]) x = some (.ins C dx [("kept", y)]) := upd_same
  have S3 : hid S (upd H2 x (.ins C dx [("kept", y)])) = hid S H2 := hid_upd hx
  have a3 : At K C (hid S (upd H2 x (.ins C dx [("kept", y)]))) y (.list (keptD sp)) := by rw [S3]; exact a2
  have n3 : ∀ b o, b ≠ x → H b = some o → upd H2 x (.ins C dx [("kept", y)]) b = some o := fun b o n h => by
    rw [upd_ne n]
    exact e2 _ _ (e1 _ _ h)
  generalize upd H2 x (.ins C dx [("kept", y)]) = H3 at hx3 S3 a3 n3 ⊢
  have dm3 : ∀ b, S b ∧ b ≠ x → H3 b ≠ none := fun b z => by
    cases hb : H b with
    | none => exact absurd hb (dm b z.1)
    | some o =>
      rw [n3 b o z.2 hb]
      exact fun q => nomatch q
  have c3 : Conc K C (fun b => S b ∧ b ≠ x) H3 (fun b => S b ∧ b ≠ x) [.v (.dict [(.list (keptD sp), .none)]), .no, .no, .no] (L2.start ["self", "spells", "turns", "weights"] [.ref x, a]) H3 :=
    Fits.conc dm3 ⟨⟨_, rfl, .plan0 (by rw [hid_of (fun z => z.2 rfl)]; exact hx3) (a3.up (hid_sub fun b z => z.1))⟩, trivial⟩
  refine go_sfld (x := x) (dx := dx) (fs := [("kept", y)]) (d := tabD W (duesZ W n sp)) (gd_meth gd_var ⟨W, n, sp, rfl, hS, hQ, hW2, rfl⟩ (by decide +kernel) (by decide +kernel)) c3 rfl hx3 T.cl.cl T.cl.nT (show 1 < 1000 by decide) fun z H4 e4 a4 c4 => ?_
  have eP2 : putF "table" z [(("kept" : Str), y)] = [(("kept" : Str), y), (("table" : Str), z)] := by
    unfold putF
    rw [if_neg (by decide)]
    rfl
  rw [eP2]
  have hx4 : H4 x = some (.ins C dx [("kept", y)]) := e4 _ _ hx3
  have S5 : hid S (upd H4 x (.ins C dx [("kept", y), ("table", z)])) = hid S H4 := hid_upd hx
  refine hq _ y z (fun b o n h => ?_) upd_same ?_ ?_
  · rw [upd_ne n]
    exact e4 _ _ (n3 b o n h)
  · rw [S5]
    exact a3.up (hid_mono e4)
  · rw [S5]
    refine At.hide (hide_at fun b hb => ?_) a4 (noPl_tab _ _)
    by_cases e : b = x
    · exact .inr ⟨C, dx, _, by rw [e]; exact hx4⟩
    · exact .inl ⟨hb, e⟩
/-- Plan(spells) -/
theorem gd_plan {D : List Sl} {ta : TE} {E : XK} {W : Int} {n : Nat} {sp : List (Nat × List Int)} (ha : Gd K C ta D (.list (spD sp))) (hS : OkS n sp) (hQ : Sp W n sp) (hW : W ≤ 10000000) : Gd K C (tMake C (spInit K C) [] E (tCons ta tNil)) D (planD W n sp) := fun S0 H0 S st H c Q q =>
  ha S0 H0 S st H c _ fun v H1 e1 a1 => fun x dx hx hdx hne => by
    have nS : ¬ S x := fun z => (c.up e1).dom x z hx
    have old : ∀ b o, H1 b = some o → upd (upd H1 dx (.own x)) x (.ins C dx []) b = some o := fun b o h => by
      rw [upd_ne (ne_of_none h hx), upd_ne (ne_of_none h hdx)]
      exact h
    refine ⟨more S x, x, dx, v, sp, n, W, rfl, fun b z => ?_, .inr rfl, upd_same, a1.up fun b o h => ?_, hS, hQ, hW, fun H' vk vt hs hx' ak at_ => ⟨rfl, q (.ref x) H' (fun b o h => ?_) ?_⟩⟩
    · rcases z with z | z
      · cases hb : H1 b with
        | none => exact absurd hb ((c.up e1).dom b z)
        | some o =>
          rw [old b o hb]
          exact fun q => nomatch q
      · rw [z, upd_same]
        exact fun q => nomatch q
    · obtain ⟨h1, h2⟩ := hid_some h
      rw [hid_of]
      · exact old b o h2
      · rintro (z | z)
        · exact h1 z
        · rw [z, hx] at h2
          cases h2
    · exact hs b o (ne_of_none (e1 _ _ h) hx) (old b o (e1 _ _ h))
    · exact .plan (by rw [hid_of nS]; exact hx') (ak.up (hid_sub fun b z => .inl z)) (at_.up (hid_sub fun b z => .inl z))
end
end Du

namespace Du
open PySem PySem.Spec PyProof.Rows L2
def leftN (b c : Int) : Nat → Int
  | 0 => c
  | k + 1 => leftN b c k / b
def stirA (c k : Int) : Int := ((c.fmod 1000000007 + 1009 * k + 17) * 69621).fmod 2147483647
def stirB (c k : Int) : Int := (stirA c k * stirA c k + 40503 * k + 5).fmod 2147483629
def drawZ (c k b : Int) : Int := if 10 ^ 18 ≤ c then (leftN b c k.toNat).fmod b else ((stirB c k * 48271).fmod 2147483647 / 32).fmod b
theorem draw_in {c k b : Int} (h : 0 < b) : 0 ≤ drawZ c k b ∧ drawZ c k b < b := by
  unfold drawZ
  split
  · exact ⟨Int.fmod_nonneg_of_pos _ h, Int.fmod_lt_of_pos _ h⟩
  · exact ⟨Int.fmod_nonneg_of_pos _ h, Int.fmod_lt_of_pos _ h⟩
def weightL (o k : Int) : List Int := [0, 1, 1, 2, 3, 5, 7, 1 + drawZ o (k + 40) 30, drawZ o (k + 41) 1001]
def weightZ (o k : Int) : Int := (weightL o k).getD (drawZ o k 9).toNat 0
theorem weight_in (o k : Int) : 0 ≤ weightZ o k ∧ weightZ o k ≤ 1000 := by
  have h := draw_in (c := o) (k := k) (b := 9) (by decide)
  have h1 := draw_in (c := o) (k := k + 40) (b := 30) (by decide)
  have h2 := draw_in (c := o) (k := k + 41) (b := 1001) (by decide)
  unfold weightZ
  generalize drawZ o k 9 = x at *
  obtain ⟨y, rfl⟩ : ∃ y : Nat, x = y := ⟨x.toNat, by omega⟩
  have hy : y < 9 := by omega
  have hall : ∀ z ∈ weightL o k, 0 ≤ z ∧ z ≤ 1000 := fun z hz => by
    unfold weightL at hz
    simp only [List.mem_cons, List.not_mem_nil, or_false] at hz
    omega
  exact hall _ (by rw [Int.toNat_natCast]; exact getD_mem (by unfold weightL; simpa using hy))
def R_draw (ds : List PyData) (d : PyData) : Prop := ∃ c k b : Int, ds = [.int c, .int k, .int b] ∧ 0 ≤ k ∧ k ≤ 900 ∧ 0 < b ∧ b ≤ 100000 ∧ d = .int (drawZ c k b)
def R_weight (ds : List PyData) (d : PyData) : Prop := ∃ c k : Int, ds = [.int c, .int k] ∧ 0 ≤ k ∧ k ≤ 800 ∧ d = .int (weightZ c k)
def spCell (K : PySem.W.Frag) : L2.Sp := fun vs H Q _ => ∃ (a : Addr) (ns : List Int) (k : Nat), vs = [.ref a, .int k] ∧ SqL K H a (ns.map V.int) ∧ ∀ H', Same H H' → Q (.int (ns.getD k 0)) H'
section
variable {P : Program} {w : World} {K : PySem.W.Frag} {mg : Str → Option Value} {base : Heap} {fd : Str → FuncData} {C : Addr}
theorem ok_cell (T : Tx K mg fd C) : FnOk P w K mg base CX0 1 (He.ga K "_law_cell_at") (fd "_law_cell_at") ["_law_script", "_law_k"] (spCell K) := by
  refine T.F__law_cell_at.ok sc__law_cell_at (fun vs H Q E h => by obtain ⟨_, _, _, rfl, _⟩ := h; rfl) fun cdv A outer s H vs Q E hr hsp => ?_
  obtain ⟨a, ns, k, rfl, hs, hq⟩ := hsp
  refine ⟨_, (pss_cons (ps_if (pt_cmpR op_lt (pv 1) (pe_callB (call_lenK K) (by rfl) T.n_len (by decide +kernel) (pa_cons (pv 0) pa_nil)) (nomark _))
    (pss_cons (ps_ret (pe_ix (ix_listK K) (pv 0) (pv 1) (fun _ _ => rfl)))
    pss_nil)
    pss_nil)
    (pss_cons (ps_ret pe_int)
    pss_nil)), ?_⟩
  refine ⟨.int k, rfl, .ref a, rfl, _, _, rfl, .inl hs, ?_⟩
  refine ⟨k, _, rfl, rfl, _, rfl, ?_⟩
  rw [List.length_map]
  by_cases h : (k : Int) < (ns.length : Int)
  · rw [decide_eq_true h]
    refine iteT ?_
    refine ⟨.ref a, rfl, .int k, rfl, a, _, k, .int (ns.getD k 0), rfl, rfl, hs, atI_nat ?_, hq H (Same.refl H)⟩
    rw [List.getElem?_map, List.getElem?_eq_getElem (show k < ns.length by omega), getD_lt (show k < ns.length by omega)] <;> rfl
  · rw [decide_eq_false h]
    refine iteF ?_
    have e : ns.getD k 0 = 0 := by
      rw [List.getD_eq_getElem?_getD, List.getElem?_eq_none (by omega)] <;> rfl
    have q := hq H (Same.refl H)
    rw [e] at q
    exact q
theorem ok_draw (T : Tx K mg fd C) : FnOk P w K mg base CX0 1 (He.ga K "_law_draw") (fd "_law_draw") ["_law_cell", "_law_k", "_law_bound"] (spR K C R_draw) := by
  refine ok_of T.F__law_draw sc__law_draw (fun ds d h => by obtain ⟨c, k, b, rfl, _⟩ := h; rfl) fun cdv A outer s H E hr ds d h => ?_
  obtain ⟨c, k, b, rfl, hk, hk2, hb, hb2, rfl⟩ := h
  refine ⟨_, (pss_cons (ps_if (pt_cmpR op_ge (pv 0) (pe_op op_pow pe_int pe_int) (nomark _))
    (pss_cons (ps_set (i := 3) sc__law_draw.nd rfl (.inl rfl) (pv 0))
    (pss_cons (ps_for PassesOwn.never rfl (pi_range1 (by rfl) T.n_range (pa_cons (pv 1) pa_nil)) (pg_name (i := 4) sc__law_draw.nd rfl (.inl rfl))
    (pss_cons (ps_set (i := 3) sc__law_draw.nd rfl (.inl rfl) (pe_op op_fdivW (pv 3) (pv 2)))
    pss_nil))
    (pss_cons (ps_ret (pe_op op_modN (pv 3) (pv 2)))
    pss_nil)))
    pss_nil)
    (pss_cons (ps_set (i := 5) sc__law_draw.nd rfl (.inl rfl) (pe_op op_modN (pe_op op_mulW (pe_op op_add (pe_op op_add (pe_op op_modN (pv 0) pe_int) (pe_op op_mulW pe_int (pv 1))) pe_int) pe_int) pe_int))
    (pss_cons (ps_set (i := 5) sc__law_draw.nd rfl (.inl rfl) (pe_op op_modN (pe_op op_add (pe_op op_add (pe_op op_mulW (pv 5) (pv 5)) (pe_op op_mulW pe_int (pv 1))) pe_int) pe_int))
    (pss_cons (ps_ret (pe_op op_modN (pe_op op_fdivW (pe_op op_modN (pe_op op_mulW (pv 5) pe_int) pe_int) pe_int) (pv 2)))
    pss_nil)))), ?_⟩
  refine gs_if (gb_test (gd_b0 gd_var (gd_i gd_int gd_int ⟨by decide, by decide, by decide⟩))) (fun h => ?_) (fun h => gs_nx ?_)
  · refine gs_asg gd_var ?_
    refine gs_for (is := [4]) (gi_range1 (hi := k) (ga_cons gd_var ga_nil) (by omega)) (fun i D => D = [.v (.int c), .v (.int k), .v (.int b), .v (.int (leftN b c i)), .no, .no]) rfl (fun i D1 d hd hI => ?_) (fun D1 hI => ?_)
    · subst hI
      refine ⟨_, gg_name, gs_asg (gd_i gd_var gd_var (cdiv hb (by omega))) (gs_next (D' := [.v (.int c), .v (.int k), .v (.int b), .v (.int (leftN b c (i + 1))), .no, .no]) rfl ⟨.inr rfl, .inr rfl, .inr rfl, .inr rfl, .inl rfl, .inr rfl, trivial⟩)⟩
    · subst hI
      rw [List.length_map, List.length_range]
      refine gs_ret (gr_of (gd_i gd_var gd_var (by omega))) ?_
      show PyData.int _ = PyData.int _
      unfold drawZ
      have h : decide ((10 : Int) ^ 18 ≤ c) = true := h
      rw [if_pos (of_decide_eq_true h)]
  · have m1 := Int.fmod_nonneg_of_pos c (b := 1000000007) (by decide)
    have m2 := Int.fmod_lt_of_pos c (b := 1000000007) (by decide)
    have a1 : 0 ≤ stirA c k := Int.fmod_nonneg_of_pos _ (by decide)
    have a2 : stirA c k < 2147483647 := Int.fmod_lt_of_pos _ (by decide)
    have b1 : 0 ≤ stirB c k := Int.fmod_nonneg_of_pos _ (by decide)
    have b2 : stirB c k < 2147483629 := Int.fmod_lt_of_pos _ (by decide)
    refine gs_asg (Gd.is (d := .int (stirA c k)) (gd_i (gd_i (gd_i0 (gd_i0 (gd_i gd_var gd_int (by decide)) (gd_i gd_int gd_var (cmul (by decide) (by omega)))) gd_int) gd_int (cmul (by omega) (by decide))) gd_int (by decide)) rfl) ?_
    refine gs_asg (Gd.is (d := .int (stirB c k)) (gd_i (gd_i0 (gd_i0 (gd_i gd_var gd_var (cmul (by omega) (by omega))) (gd_i gd_int gd_var (cmul (by decide) (by omega)))) gd_int) gd_int (by decide)) rfl) ?_
    refine gs_ret (gr_of (gd_i (gd_i (gd_i (gd_i gd_var gd_int (cmul (by omega) (by decide))) gd_int (by decide)) gd_int (cdiv (by decide) (by decide))) gd_var (by omega))) ?_
    show PyData.int _ = PyData.int _
    unfold drawZ
    have h : decide ((10 : Int) ^ 18 ≤ c) = false := h
    rw [if_neg (of_decide_eq_false h)]
theorem ok_lcommon (T : Tx K mg fd C) : FnOk P w K mg base CX0 1 (He.ga K "_law_common") (fd "_law_common") ["_law_one", "_law_other"] (spR K C R_common) := by
  refine ok_of T.F__law_common sc__law_common (fun ds d h => by obtain ⟨a, b, rfl, _⟩ := h; rfl) fun cdv A outer s H E hr ds d h => ?_
  obtain ⟨a, b, rfl, rfl⟩ := h
  refine ⟨_, (pss_cons (ps_set (i := 0) sc__law_common.nd rfl (.inl rfl) (pe_callB call_abs1 (by rfl) T.n_abs (by decide +kernel) (pa_cons (pv 0) pa_nil)))
    (pss_cons (ps_set (i := 1) sc__law_common.nd rfl (.inl rfl) (pe_callB call_abs1 (by rfl) T.n_abs (by decide +kernel) (pa_cons (pv 1) pa_nil)))
    (pss_cons (ps_while PassesOwn.never (pt_cmpR op_gt (pv 1) pe_int (nomark _))
    (pss_cons (ps_par (by rfl) sc__law_common.nd (i := 0) (j := 1) rfl rfl (by decide) rfl rfl (pa_cons (pv 1) (pa_cons (pe_op op_modN (pv 0) (pv 1)) pa_nil)) (by rfl))
    pss_nil))
    (pss_cons (ps_ret (pv 0))
    pss_nil)))), ?_⟩
  refine gs_asg (gd_abs (gd_var)) (gs_asg (gd_abs gd_var) ?_)
  rw [abs_is, abs_is]
  refine gs_while (fun m D => ∃ x y : Nat, D = [.v (.int x), .v (.int y)] ∧ m = y ∧ Int.gcd x y = Int.gcd a b) b.natAbs ⟨a.natAbs, b.natAbs, rfl, rfl, rfl⟩ fun y D1 hI => ?_
  obtain ⟨x, y', rfl, em, e⟩ := hI
  subst em
  refine ⟨_, gb_test (gd_b0 gd_var gd_int), fun hb => ?_, fun hb => ?_⟩
  · have hy : (0 : Int) < y := of_decide_eq_true hb
    refine gs_par (ga_cons gd_var (ga_cons (gd_i gd_var gd_var (by omega)) ga_nil)) (gs_nx ?_)
    have f1 : (0 : Int) ≤ (x : Int).fmod y := Int.fmod_nonneg_of_pos _ hy
    have f2 : (x : Int).fmod y < y := Int.fmod_lt_of_pos _ hy
    refine ⟨((x : Int).fmod y).toNat, by omega, y, ((x : Int).fmod y).toNat, ?_, rfl, ?_⟩
    · rw [Int.toNat_of_nonneg f1] <;> rfl
    · rw [Int.toNat_of_nonneg f1, gcd_step, e]
  · have hy : ¬ (0 : Int) < y := of_decide_eq_false hb
    have y0 : y = 0 := by omega
    subst y0
    refine gs_ret (gr_of gd_var) ?_
    show PyData.int _ = PyData.int _
    rw [← e]
    simp
theorem ok_lowest (T : Tx K mg fd C) : FnOk P w K mg base CX0 2 (He.ga K "_law_lowest") (fd "_law_lowest") ["_law_top", "_law_bottom"] (spR K C R_made) := by
  refine ok_of T.F__law_lowest sc__law_lowest (fun ds d h => by obtain ⟨a, b, rfl, _⟩ := h; rfl) fun cdv A outer s H E hr ds d h => ?_
  obtain ⟨t, b, rfl, hb, hb2, rfl⟩ := h
  have G__law_common := ok_lcommon (P := P) (w := w) (base := base) T
  refine ⟨_, (pss_cons (ps_set (i := 2) sc__law_lowest.nd rfl (.inl rfl) (pe_call G__law_common (hr.mono (by decide)) (by rfl) T.m__law_common T.F__law_common.kp T.b__law_common .nil pass0 (pa_cons (pv 0) (pa_cons (pv 1) pa_nil))))
    (pss_cons (ps_ret (pe_tup (pa_cons (pe_op op_fdivW (pv 0) (pv 2)) (pa_cons (pe_op op_fdivW (pv 1) (pv 2)) pa_nil))))
    pss_nil)), ?_⟩
  have g := gcd_pos (t := t) hb
  have g2 : (Int.gcd t b : Int) ≤ b := Int.le_of_dvd hb (Int.gcd_dvd_right ..)
  refine gs_asg (gd_call (ga_cons gd_var (ga_cons gd_var ga_nil)) ⟨t, b, rfl, rfl⟩) ?_
  exact gs_ret (gr_of (gd_tup (ga_cons (gd_i gd_var gd_var (cdiv g (by omega))) (ga_cons (gd_i gd_var gd_var (cdiv g (by omega))) ga_nil)))) rfl
theorem ok_weight (T : Tx K mg fd C) : FnOk P w K mg base CX0 2 (He.ga K "_law_weight") (fd "_law_weight") ["_law_cell", "_law_k"] (spR K C R_weight) := by
  refine ok_of T.F__law_weight sc__law_weight (fun ds d h => by obtain ⟨a, b, rfl, _⟩ := h; rfl) fun cdv A outer s H E hr ds d h => ?_
  obtain ⟨o, k, rfl, hk, hk2, rfl⟩ := h
  have G__law_draw := ok_draw (P := P) (w := w) (base := base) T
  refine ⟨_, (pss_cons (ps_set (i := 2) sc__law_weight.nd rfl (.inl rfl) (pe_call G__law_draw (hr.mono (by decide)) (by rfl) T.m__law_draw T.F__law_draw.kp T.b__law_draw .nil pass0 (pa_cons (pv 0) (pa_cons (pv 1) (pa_cons pe_int pa_nil)))))
    (pss_cons (ps_ret (pe_ix (ix_listK K) (pe_lst (pa_cons pe_int (pa_cons pe_int (pa_cons pe_int (pa_cons pe_int (pa_cons pe_int (pa_cons pe_int (pa_cons pe_int (pa_cons (pe_op op_add pe_int (pe_call G__law_draw (hr.mono (by decide)) (by rfl) T.m__law_draw T.F__law_draw.kp T.b__law_draw .nil pass0 (pa_cons (pv 0) (pa_cons (pe_op op_add (pv 1) pe_int) (pa_cons pe_int pa_nil))))) (pa_cons (pe_call G__law_draw (hr.mono (by decide)) (by rfl) T.m__law_draw T.F__law_draw.kp T.b__law_draw .nil pass0 (pa_cons (pv 0) (pa_cons (pe_op op_add (pv 1) pe_int) (pa_cons pe_int pa_nil)))) pa_nil)))))))))) (pv 2) (fun _ _ => rfl)))
    pss_nil)), ?_⟩
  refine gs_asg (gd_call (ga_cons gd_var (ga_cons gd_var (ga_cons gd_int ga_nil))) ⟨o, k, 9, rfl, hk, by omega, by decide, by decide, rfl⟩) ?_
  refine gs_ret (gr_of (gd_ixL (ds := (weightL o k).map PyData.int) (gd_new (gl_lst (ga_cons gd_int (ga_cons gd_int (ga_cons gd_int (ga_cons gd_int (ga_cons gd_int (ga_cons gd_int (ga_cons gd_int (ga_cons (gd_i0 gd_int (gd_call (ga_cons gd_var (ga_cons (gd_i0 gd_var gd_int) (ga_cons gd_int ga_nil))) ⟨o, k + 40, 30, rfl, by omega, by omega, by decide, by decide, rfl⟩)) (ga_cons (gd_call (ga_cons gd_var (ga_cons (gd_i0 gd_var gd_int) (ga_cons gd_int ga_nil))) ⟨o, k + 41, 1001, rfl, by omega, by omega, by decide, by decide, rfl⟩) ga_nil))))))))) (hl := by simp [weightL]))) gd_var (d := .int (weightZ o k)) ?_)) rfl
  have h := draw_in (c := o) (k := k) (b := 9) (by decide)
  unfold weightZ
  generalize drawZ o k 9 = x at *
  obtain ⟨y, rfl⟩ : ∃ y : Nat, x = y := ⟨x.toNat, by omega⟩
  exact atD rfl (ints_at (show y < 9 by omega))
end
end Du

namespace Du
open PySem PySem.Spec PyProof.Rows L2
def R_ldues (ds : List PyData) (d : PyData) : Prop := ∃ (W : Int) (n : Nat) (sp : List (Nat × List Int)), ds = [.list (spD sp)] ∧ OkS n sp ∧ Sp W n sp ∧ W ≤ 10000000 ∧ d = tabD W (duesZ W n sp)
section
variable {P : Program} {w : World} {K : PySem.W.Frag} {mg : Str → Option Value} {base : Heap} {fd : Str → FuncData} {C : Addr}
theorem ok_ldues (T : Tx K mg fd C) : FnOk P w K mg base CX0 3 (He.ga K "_law_dues") (fd "_law_dues") ["_law_spells"] (spR K C R_ldues) := by
  refine ok_of T.F__law_dues sc__law_dues (fun ds d h => by obtain ⟨W, n, sp, rfl, _⟩ := h; rfl) fun cdv A outer s H E hr ds d h => ?_
  obtain ⟨W, n, sp, rfl, hS, hQ, hW2, rfl⟩ := h
  have G__law_lowest := ok_lowest (P := P) (w := w) (base := base) T
  have hW := hQ.W
  refine ⟨_, (pss_cons (ps_set (i := 1) sc__law_dues.nd rfl (.inl rfl) (pe_lst (pa_cons (pe_op op_rep (pe_lst (pa_cons (pe_tup (pa_cons pe_int (pa_cons pe_int pa_nil))) pa_nil)) (pe_callB (call_lenK K) (by rfl) T.n_len (by decide +kernel) (pa_cons (pe_ix (ix_tupK K) (pe_ix (ix_listK K) (pv 0) pe_int (fun _ _ => rfl)) pe_int (fun _ _ => rfl)) pa_nil))) pa_nil)))
    (pss_cons (ps_for PassesOwn.never rfl (pi_listK K (pv 0)) (pg_tupK K (n := 2) rfl (pgs_cons (pg_name (i := 2) sc__law_dues.nd rfl (.inl rfl)) (pgs_cons (pg_name (i := 3) sc__law_dues.nd rfl (.inl rfl)) pgs_nil)))
    (pss_cons (ps_set (i := 4) sc__law_dues.nd rfl (.inl rfl) (pe_ix (ix_listK K) (pv 1) (pe_un un_neg pe_int) (fun _ _ => rfl)))
    (pss_cons (ps_for PassesOwn.never rfl (pi_range2 (by rfl) T.n_range (pa_cons pe_int (pa_cons (pe_op op_add (pv 2) pe_int) pa_nil))) (pg_name (i := 5) sc__law_dues.nd rfl (.inl rfl))
    (pss_cons (ps_set (i := 6) sc__law_dues.nd rfl (.inl rfl) (pe_lst pa_nil))
    (pss_cons (ps_for PassesOwn.never rfl (pi_range1 (by rfl) T.n_range (pa_cons (pe_callB (call_lenK K) (by rfl) T.n_len (by decide +kernel) (pa_cons (pv 3) pa_nil)) pa_nil)) (pg_name (i := 7) sc__law_dues.nd rfl (.inl rfl))
    (pss_cons (ps_asg (pe_ix (ix_listK K) (pv 4) (pv 7) (fun _ _ => rfl)) (pg_tupK K (n := 2) rfl (pgs_cons (pg_name (i := 8) sc__law_dues.nd rfl (.inl rfl)) (pgs_cons (pg_name (i := 9) sc__law_dues.nd rfl (.inl rfl)) pgs_nil))))
    (pss_cons (ps_set (i := 8) sc__law_dues.nd rfl (.inl rfl) (pe_op op_add (pe_op op_mulW (pv 8) (pe_callB (cr_sumK K rfl) (by rfl) T.n_sum (by decide +kernel) (pa_cons (pv 3) pa_nil))) (pe_op op_mulW (pe_op op_mulW (pv 5) (pe_ix (ix_listK K) (pv 3) (pv 7) (fun _ _ => rfl))) (pv 9))))
    (pss_cons (ps_expr (pe_bm PySem.F.plainAttrs_list PySem.F.slot_list_append PySem.F.type_list_append mt_append (pv 6) (pa_cons (pe_call G__law_lowest (hr.mono (by decide)) (by rfl) T.m__law_lowest T.F__law_lowest.kp T.b__law_lowest .nil pass0 (pa_cons (pv 8) (pa_cons (pe_op op_mulW (pv 9) (pe_callB (cr_sumK K rfl) (by rfl) T.n_sum (by decide +kernel) (pa_cons (pv 3) pa_nil))) pa_nil))) pa_nil)))
    pss_nil))))
    (pss_cons (ps_expr (pe_bm PySem.F.plainAttrs_list PySem.F.slot_list_append PySem.F.type_list_append mt_append (pv 1) (pa_cons (pv 6) pa_nil)))
    pss_nil))))
    pss_nil)))
    (pss_cons (ps_ret (pv 1))
    pss_nil))), ?_⟩
  have z0 : frD (fr W 0) = .tuple [.int 0, .int 1] := by rw [fr_zero hW] <;> rfl
  obtain ⟨p0, hp0⟩ : ∃ p, sp[0]? = some p := ⟨sp[0]'(by have := hS.l; omega), List.getElem?_eq_getElem _⟩
  have pm0 := List.mem_of_getElem? hp0
  have n3 : n ≤ 3 := by
    have := (hS.w p0 pm0).l
    rw [hS.n p0 pm0] at this
    omega
  have l0 : (wD p0.2).length = n := by unfold wD; rw [List.length_map]; exact hS.n p0 pm0
  refine gs_asgL (ds := [rowD W (List.replicate n 0)]) (gl_lst (ga_cons (Gd.is (gd_new (gl_rep (n := n) (gd_new (gl_lst (ga_cons (gd_tup (ga_cons gd_int (ga_cons gd_int ga_nil))) ga_nil))) (Gd.is (gd_len (ds := wD p0.2) (gd_ixT (gd_ixL (ds := spD sp) gd_var gd_int (atD (j := 0) rfl (sp_at hp0))) gd_int (j1 _ _))) (by rw [l0])) (by omega))) ?_) ga_nil)) ?_
  · unfold rowD
    rw [List.map_replicate, z0]
  refine gs_for (is := [2, 3]) (gi_list (ds := spD sp) gd_var) (fun i D => D = [.v (.list (spD sp)), .own (((sp.take i).foldl (duesUp W) [List.replicate n 0]).map (rowD W)), .no, .no, .no, .no, .no, .no, .no, .no]) rfl (fun i D1 d hd hI => ?_) (fun D1 hI => ?_)
  · subst hI
    unfold spD at hd
    rw [List.getElem?_map] at hd
    obtain ⟨p, hp, rfl⟩ := Option.map_eq_some_iff.mp hd
    have pm := List.mem_of_getElem? hp
    obtain ⟨hD, hDl⟩ := dues_fold (hQ.take i) (due0 W n)
    have e1 : (sp.take (i + 1)).foldl (duesUp W) [List.replicate n 0] = duesUp W ((sp.take i).foldl (duesUp W) [List.replicate n 0]) p := by
      rw [List.take_add_one, hp, List.foldl_append]
      rfl
    rw [e1]
    have tl : ((sp.take i).map (·.1)).sum ≤ 6 := by
      have a := turns_le (sp := sp.take i) fun q hq => (hS.t q (List.mem_of_mem_take hq)).2
      have : (sp.take i).length ≤ 2 := by
        rw [List.length_take]
        have := hS.l
        omega
      omega
    generalize (sp.take i).foldl (duesUp W) [List.replicate n 0] = Tb at *
    have tl2 : Tb.length ≤ 7 := by
      rw [hDl, List.length_singleton]
      omega
    have ht := hS.t p pm
    have hw := hS.w p pm
    have hn := hS.n p pm
    have hl := last_is hD.len
    have lf : (Tb.getLastD []).length = n := by
      rw [hl, getD_lt (show Tb.length - 1 < Tb.length by have := hD.len; omega)]
      exact hD.row _ (List.getElem_mem _)
    have fb : ∀ X ∈ Tb.getLastD [], 0 ≤ X ∧ X ≤ 70000000 := fun X hX => by
      have hm : Tb.getLastD [] ∈ Tb := by
        rw [hl, getD_lt (show Tb.length - 1 < Tb.length by have := hD.len; omega)]
        exact List.getElem_mem _
      have b := hD.bound hW hm hX
      have : (Tb.length : Int) * W ≤ 7 * 10000000 := Int.mul_le_mul (by omega) hW2 (by omega) (by omega)
      omega
    generalize hf : Tb.getLastD [] = f at *
    have hdiv := hQ.d p pm
    have hu : W / p.2.sum * p.2.sum = W := Int.ediv_mul_cancel hdiv
    have hs := hw.s
    have hsm : p.2.sum ≤ 3000 := by
      have : ∀ l : List Int, (∀ x ∈ l, 0 ≤ x ∧ x ≤ 1000) → l.sum ≤ 1000 * l.length := fun l => by
        induction l with
        | nil => simp
        | cons a l ih =>
          intro h
          have := ih fun x hx => h x (List.mem_cons_of_mem _ hx)
          have := h a (List.mem_cons_self ..)
          rw [List.sum_cons, List.length_cons]
          omega
      have := this _ hw.w
      rw [hn] at this
      omega
    refine ⟨_, gg_two, ?_⟩
    refine gs_asg (gd_ixO (k := 1) (ds := Tb.map (rowD W)) (d := rowD W f) rfl (gd_un gd_int) (by rw [← hf]; exact tab_last hD.len)) ?_
    have lr : ((p.1 : Int) + 1 - 1).toNat = p.1 := by omega
    have lw : (wD p.2).length = n := by unfold wD; rw [List.length_map]; exact hn
    refine gs_for (is := [5]) (gi_range2 (lo := 1) (hi := (p.1 : Int) + 1) (ga_cons gd_int (ga_cons (gd_i0 gd_var gd_int) ga_nil)) (by omega)) (fun k D => D = [.v (.list (spD sp)), .own ((Tb ++ (List.range k).map fun k => addRow (W / p.2.sum) (k + 1) f p.2).map (rowD W)), .v (.int (p.1 : Nat)), .v (.list (wD p.2)), .v (rowD W f), .no, .no, .no, .no, .no]) (by simp) (fun k D1 d hd hI => ?_) (fun D1 hI => ?_)
    · subst hI
      obtain ⟨hk, rfl⟩ := get_rng hd
      rw [lr] at hk
      refine ⟨_, gg_name, ?_⟩
      refine gs_asgL (ds := []) (gl_lst ga_nil) ?_
      refine gs_for (is := [7]) (gi_range1 (hi := (wD p.2).length) (ga_cons (gd_len (ds := wD p.2) gd_var) ga_nil) (by rw [lw]; omega)) (fun j D => D = [.v (.list (spD sp)), .own ((Tb ++ (List.range k).map fun k => addRow (W / p.2.sum) (k + 1) f p.2).map (rowD W)), .v (.int (p.1 : Nat)), .v (.list (wD p.2)), .v (rowD W f), .v (.int (1 + (k : Nat))), .own (((addRow (W / p.2.sum) (k + 1) f p.2).take j).map fun X => frD (fr W X)), .no, .no, .no]) (by simp) (fun j D1 e he hI => ?_) (fun D1 hI => ?_)
      · subst hI
        obtain ⟨hj, rfl⟩ := get_rng he
        rw [lw, Int.toNat_natCast] at hj
        have f0 := fb _ (getD_mem (show j < f.length by omega))
        have w0 := hw.w _ (getD_mem (show j < p.2.length by omega))
        have ok : Ok W (f.getD j 0) := ⟨hW, hW2, by omega, by omega⟩
        have q1 := fr_le (X := f.getD j 0) hW
        have q2 := ok.p2
        have x0 : (fr W (f.getD j 0)).1 * W = f.getD j 0 * (fr W (f.getD j 0)).2 := fr_mul hW
        have em : mkF ((fr W (f.getD j 0)).1 * p.2.sum + (1 + (k : Nat) : Int) * p.2.getD j 0 * (fr W (f.getD j 0)).2) ((fr W (f.getD j 0)).2 * p.2.sum) = fr W (f.getD j 0 + (1 + (k : Nat) : Int) * p.2.getD j 0 * (W / p.2.sum)) := by
          refine fr_eq (Int.mul_pos q2.1 hs) hW ?_
          generalize (fr W (f.getD j 0)).1 = x at *
          generalize (fr W (f.getD j 0)).2 = y at *
          generalize W / p.2.sum = u at *
          generalize p.2.sum = s at *
          generalize f.getD j 0 = X at *
          generalize (1 + (k : Nat) : Int) * p.2.getD j 0 = m at *
          rw [Int.add_mul, Int.add_mul]
          have a1 : x * s * W = X * (y * s) := by
            rw [Int.mul_right_comm, x0, Int.mul_assoc]
          have a2 : m * y * W = m * u * (y * s) := by
            rw [← hu]
            simp only [Int.mul_assoc, Int.mul_comm, Int.mul_left_comm]
          rw [a1, a2]
        refine ⟨_, gg_name, ?_⟩
        refine gs_asgT (gd_ixL (ds := f.map fun X => frD (fr W X)) gd_var gd_var (atD rfl (frow_at (by omega)))) gg_two ?_
        have bs : (fr W (f.getD j 0)).2 * p.2.sum ≤ 10000000 * 3000 := Int.mul_le_mul q2.2 hsm (by omega) (by omega)
        have bs0 := Int.mul_pos q2.1 hs
        have kw : 0 ≤ (1 + (k : Nat) : Int) * p.2.getD j 0 := Int.mul_nonneg (by omega) w0.1
        have kw2 : (1 + (k : Nat) : Int) * p.2.getD j 0 ≤ 3 * 1000 := Int.mul_le_mul (by omega) w0.2 w0.1 (by omega)
        refine gs_asg (gd_i0 (gd_i gd_var (gd_sum (ns := p.2) gd_var) (cmul (by omega) (by omega))) (gd_i (gd_i gd_var (gd_ixL (ds := wD p.2) gd_var gd_var (atD rfl (w_at (by omega)))) (cmul (by omega) (by omega))) gd_var (cmul (by omega) (by omega)))) ?_
        refine gs_app (k := 6) rfl (ga_cons (gd_call (ga_cons gd_var (ga_cons (gd_i gd_var (gd_sum (ns := p.2) gd_var) (cmul (by omega) (by omega))) ga_nil)) ⟨_, _, rfl, bs0, by omega, rfl⟩) ga_nil) ?_ (gs_next (D' := [.v (.list (spD sp)), .own ((Tb ++ (List.range k).map fun k => addRow (W / p.2.sum) (k + 1) f p.2).map (rowD W)), .v (.int (p.1 : Nat)), .v (.list (wD p.2)), .v (rowD W f), .v (.int (1 + (k : Nat))), .own (((addRow (W / p.2.sum) (k + 1) f p.2).take (j + 1)).map fun X => frD (fr W X)), .no, .no, .no]) rfl ⟨.inr rfl, .inr rfl, .inr rfl, .inr rfl, .inr rfl, .inr rfl, .inr ?_, .inl rfl, .inl rfl, .inl rfl, trivial⟩)
        · rw [List.length_map, List.length_take]
          omega
        · rw [em]
          have lA : j < (addRow (W / p.2.sum) (k + 1) f p.2).length := by rw [addRow_len (by omega)]; omega
          have eA : (addRow (W / p.2.sum) (k + 1) f p.2)[j]? = some (f.getD j 0 + (1 + (k : Nat) : Int) * p.2.getD j 0 * (W / p.2.sum)) := by
            rw [List.getElem?_eq_getElem lA, ← getD_lt lA 0, addRow_get (by omega) (by omega), show (1 + (k : Nat) : Int) = ((k + 1 : Nat) : Int) by omega]
          rw [List.take_add_one, eA, List.map_append]
          rfl
      · subst hI
        rw [List.length_map, List.length_range, lw, Int.toNat_natCast]
        have lA : (addRow (W / p.2.sum) (k + 1) f p.2).length = n := by rw [addRow_len (by omega)]; exact hn
        refine gs_give 6 rfl (gs_app (k := 1) rfl (ga_cons gd_var ga_nil) ?_ (gs_next (D' := [.v (.list (spD sp)), .own ((Tb ++ (List.range (k + 1)).map fun k => addRow (W / p.2.sum) (k + 1) f p.2).map (rowD W)), .v (.int (p.1 : Nat)), .v (.list (wD p.2)), .v (rowD W f), .no, .no, .no, .no, .no]) rfl ⟨.inr rfl, .inr ?_, .inr rfl, .inr rfl, .inr rfl, .inl rfl, .inl rfl, .inr rfl, .inr rfl, .inr rfl, trivial⟩))
        · rw [List.length_map, List.length_append, List.length_map, List.length_range]
          omega
        · rw [List.take_of_length_le (by omega), List.range_succ, List.map_append, List.map_append, List.map_append, List.map_append]
          simp [rowD]
    · subst hI
      rw [List.length_map, List.length_range, lr]
      refine gs_next (D' := [.v (.list (spD sp)), .own ((duesUp W Tb p).map (rowD W)), .no, .no, .no, .no, .no, .no, .no, .no]) rfl ⟨.inr rfl, .inr ?_, .inl rfl, .inl rfl, .inl rfl, .inr rfl, .inr rfl, .inr rfl, .inr rfl, .inr rfl, trivial⟩
      unfold duesUp spellRows
      rw [hf]
  · subst hI
    unfold spD
    rw [List.length_map, List.take_length]
    exact gs_ret gr_own rfl
end
end Du

/-! The law's own functions, plain. -/
namespace Du
def bump (cs : List Int) (i : Nat) : List Int := cs.set i (cs.getD i 0 + 1)
def tallyZ (n : Nat) (row : List Nat) : List Int := row.foldl bump (List.replicate n 0)
def lagRow (W : Int) (r cs : List Int) : List Int := List.zipWith (fun X c => X - c * W) r cs
def lagsZ (W : Int) (n : Nat) (T : List (List Int)) (row : List Nat) : List (List Int) := T.getD 0 [] :: (List.range row.length).map fun k => lagRow W (T.getD (k + 1) []) (tallyZ n (row.take (k + 1)))
def absZ (X : Int) : Int := if X < 0 then -X else X
def worstUp (m X : Int) : Int := if m < absZ X then absZ X else m
def worstZ (rows : List (List Int)) : Int := rows.foldl (fun m r => r.foldl worstUp m) 0
def longerZ (rows : List (List Nat)) (n : Nat) : List (List Nat) := rows.flatMap fun r => (List.range n).map fun w => r ++ [w]
def rowsN (n : Nat) : Nat → List (List Nat)
  | 0 => [[]]
  | N + 1 => longerZ (rowsN n N) n
def leastUp (W : Int) (n : Nat) (T : List (List Int)) (f : Option Int) (row : List Nat) : Option Int := match f with
  | none => some (worstZ (lagsZ W n T row))
  | some m => if worstZ (lagsZ W n T row) < m then some (worstZ (lagsZ W n T row)) else some m
def leastZ (W : Int) (n : Nat) (T : List (List Int)) : Option Int := (rowsN n (T.length - 1)).foldl (leastUp W n T) none
theorem tally_len (n : Nat) (row : List Nat) : (tallyZ n row).length = n := by
  unfold tallyZ
  have : ∀ (row : List Nat) (cs : List Int), (row.foldl bump cs).length = cs.length := fun row => by
    induction row with
    | nil => exact fun cs => rfl
    | cons r row ih =>
      intro cs
      rw [List.foldl_cons, ih]
      exact List.length_set
  rw [this, List.length_replicate]
theorem tally_snoc (n : Nat) (row : List Nat) (i : Nat) : tallyZ n (row ++ [i]) = bump (tallyZ n row) i := by
  unfold tallyZ
  rw [List.foldl_append]
  rfl
theorem tally_mem {n : Nat} {row : List Nat} : ∀ c ∈ tallyZ n row, 0 ≤ c ∧ c ≤ row.length := by
  have : ∀ (row : List Nat) (cs : List Int) (k : Nat), (∀ c ∈ cs, 0 ≤ c ∧ c ≤ k) → ∀ c ∈ row.foldl bump cs, 0 ≤ c ∧ c ≤ (k + row.length : Nat) := fun row => by
    induction row with
    | nil => exact fun cs k h => h
    | cons r row ih =>
      intro cs k h c hc
      rw [List.foldl_cons] at hc
      have q := ih (bump cs r) (k + 1) (fun x hx => by
        unfold bump at hx
        rcases List.mem_or_eq_of_mem_set hx with z | z
        · have := h x z
          omega
        · have : cs.getD r 0 = 0 ∨ cs.getD r 0 ∈ cs := by
            rw [List.getD_eq_getElem?_getD]
            cases e : cs[r]? with
            | none => exact .inl rfl
            | some y => exact .inr (List.mem_of_getElem? e)
          rcases this with t | t
          · omega
          · have := h _ t
            omega) c hc
      rw [List.length_cons]
      omega
  intro c hc
  have q := this row (List.replicate n 0) 0 (fun x hx => by rw [(List.mem_replicate.mp hx).2]; exact ⟨Int.le_refl 0, Int.le_refl 0⟩) c hc
  omega
theorem longer_len (rows : List (List Nat)) (n : Nat) : (longerZ rows n).length = rows.length * n := by
  unfold longerZ
  induction rows with
  | nil => simp
  | cons r rows ih => rw [List.flatMap_cons, List.length_append, ih, List.length_map, List.length_range, List.length_cons, Nat.succ_mul]; omega
theorem rows_len (n : Nat) : ∀ N, (rowsN n N).length = n ^ N
  | 0 => rfl
  | N + 1 => by
    show (longerZ (rowsN n N) n).length = _
    rw [longer_len, rows_len n N, Nat.pow_succ]
theorem rows_mem (n : Nat) : ∀ (N : Nat) (row : List Nat), row ∈ rowsN n N ↔ row.length = N ∧ ∀ i ∈ row, i < n
  | 0, row => by
    show row ∈ [[]] ↔ _
    rw [List.mem_singleton]
    refine ⟨fun h => by rw [h]; simp, fun h => List.eq_nil_of_length_eq_zero h.1⟩
  | N + 1, row => by
    show row ∈ longerZ (rowsN n N) n ↔ _
    unfold longerZ
    rw [List.mem_flatMap]
    refine ⟨fun ⟨r, hr, hw⟩ => ?_, fun ⟨h1, h2⟩ => ?_⟩
    · obtain ⟨w, hw2, rfl⟩ := List.mem_map.mp hw
      obtain ⟨a, b⟩ := (rows_mem n N r).mp hr
      refine ⟨by rw [List.length_append, a]; rfl, fun i hi => ?_⟩
      rcases List.mem_append.mp hi with z | z
      · exact b i z
      · rw [List.mem_singleton.mp z]
        exact List.mem_range.mp hw2
    · have hn : row ≠ [] := fun z => by rw [z] at h1; cases h1
      obtain ⟨g, b, rfl⟩ : ∃ g b, row = g ++ [b] := ⟨row.dropLast, row.getLast hn, (List.dropLast_concat_getLast hn).symm⟩
      rw [List.length_append] at h1
      exact ⟨g, (rows_mem n N g).mpr ⟨by simpa using h1, fun i hi => h2 i (List.mem_append_left _ hi)⟩, List.mem_map.mpr ⟨b, List.mem_range.mpr (h2 b (by simp)), rfl⟩⟩
end Du

namespace Du
open PySem PySem.Spec PyProof.Rows L2
def rowI (r : List Nat) : PyData := .list (r.map fun i => .int (i : Nat))
def rowsI (rows : List (List Nat)) : PyData := .list (rows.map rowI)
/-- a table that the law's functions look at -/
structure OkLw (W : Int) (n : Nat) (T : List (List Int)) : Prop where
  hW : 0 < W ∧ W ≤ 10000000
  hT : ∀ r ∈ T, ∀ X ∈ r, 0 ≤ X ∧ X ≤ 70000000
  l : 1 ≤ T.length ∧ T.length ≤ 7
  n1 : 1 ≤ n ∧ n ≤ 3
  r : ∀ r ∈ T, r.length = n
  few : n ^ (T.length - 1) ≤ 900
structure OkRow (n : Nat) (T : List (List Int)) (row : List Nat) : Prop where
  l : row.length + 1 = T.length
  m : ∀ i ∈ row, i < n
def R_lags (ds : List PyData) (d : PyData) : Prop := ∃ W n T row, ds = [tabD W T, rowI row] ∧ OkLw W n T ∧ OkRow n T row ∧ d = tabD W (lagsZ W n T row)
def R_worst (ds : List PyData) (d : PyData) : Prop := ∃ W n T row, ds = [tabD W T, rowI row] ∧ OkLw W n T ∧ OkRow n T row ∧ d = frD (fr W (worstZ (lagsZ W n T row)))
def R_longer (ds : List PyData) (d : PyData) : Prop := ∃ (rows : List (List Nat)) (n : Nat), ds = [rowsI rows, .int (n : Nat)] ∧ rows.length * n ≤ 900 ∧ rows.length ≤ 900 ∧ n ≤ 3 ∧ (∀ r ∈ rows, r.length ≤ 100) ∧ d = rowsI (longerZ rows n)
def optF (W : Int) : Option Int → PyData
  | none => .none
  | some m => frD (fr W m)
def R_least (ds : List PyData) (d : PyData) : Prop := ∃ W n T, ds = [tabD W T] ∧ OkLw W n T ∧ d = optF W (leastZ W n T)
theorem irow_at {r : List Nat} {i j : Nat} (h : r[i]? = some j) : (r.map fun i => PyData.int (i : Nat))[i]? = some (.int (j : Nat)) := by
  rw [List.getElem?_map, h] <;> rfl
theorem tab_at {W : Int} {T : List (List Int)} {i : Nat} (h : i < T.length) : (T.map (rowD W))[i]? = some (rowD W (T.getD i [])) := by
  rw [List.getElem?_map, List.getElem?_eq_getElem h, getD_lt h] <;> rfl
theorem OkLw.row {W : Int} {n : Nat} {T : List (List Int)} (h : OkLw W n T) {i : Nat} (hi : i < T.length) : (T.getD i []).length = n ∧ ∀ X ∈ T.getD i [], 0 ≤ X ∧ X ≤ 70000000 := by
  rw [getD_lt hi]
  exact ⟨h.r _ (List.getElem_mem _), h.hT _ (List.getElem_mem _)⟩
theorem lag_mem {W : Int} {n : Nat} {T : List (List Int)} {row : List Nat} (h : OkLw W n T) (hr : OkRow n T row) : ∀ r ∈ lagsZ W n T row, ∀ X ∈ r, -1000000000 ≤ X ∧ X ≤ 1000000000 := by
  intro r hm X hX
  have hl := h.l
  have hW := h.hW
  unfold lagsZ at hm
  rcases List.mem_cons.mp hm with z | z
  · rw [z] at hX
    have := (h.row (i := 0) (by omega)).2 X hX
    omega
  · obtain ⟨k, hk, rfl⟩ := List.mem_map.mp z
    have hk := List.mem_range.mp hk
    have hrl := hr.l
    unfold lagRow at hX
    obtain ⟨a, b, ha, hb, rfl⟩ : ∃ a b, a ∈ T.getD (k + 1) [] ∧ b ∈ tallyZ n (row.take (k + 1)) ∧ X = a - b * W := by
      obtain ⟨i, hi, e⟩ := List.getElem_of_mem hX
      rw [List.getElem_zipWith] at e
      exact ⟨_, _, List.getElem_mem _, List.getElem_mem _, e.symm⟩
    have q1 := (h.row (i := k + 1) (by omega)).2 a ha
    have q2 := tally_mem b hb
    rw [List.length_take] at q2
    have q3 : b * W ≤ 7 * 10000000 := Int.mul_le_mul (by omega) hW.2 (by omega) (by omega)
    have q4 : 0 ≤ b * W := Int.mul_nonneg q2.1 (by omega)
    omega
theorem abs_nn (X : Int) : 0 ≤ absZ X := by
  unfold absZ
  split <;> omega
theorem abs_le {X : Int} {b : Int} (h : -b ≤ X ∧ X ≤ b) : absZ X ≤ b := by
  unfold absZ
  split <;> omega
theorem GS.imp {K : PySem.W.Frag} {C : Addr} {t : TS} {D : List Sl} {P P' : Pst} (h : GS K C t D P) (nx : ∀ D', P.nx D' → P'.nx D') (rt : ∀ d, P.rt d → P'.rt d) (bk : ∀ D', P.bk D' → P'.bk D') (ct : ∀ D', P.ct D' → P'.ct D') : GS K C t D P' :=
  fun S0 H0 S st H E c n r b c' => h S0 H0 S st H E c (fun D' S' st' H' m => n D' S' st' H' (nx D' m)) (fun d v H' m => r d v H' (rt d m)) (fun D' S' st' H' m => b D' S' st' H' (bk D' m)) (fun D' S' st' H' m => c' D' S' st' H' (ct D' m))
/-- if, both ways to one state -/
theorem gs_ifj {K : PySem.W.Frag} {C : Addr} {t u tz : TS} {tc : TT} {D : List Sl} {P : Pst} {b : Bool} (M : List Sl → Prop) (hc : Gb K C tc D b) (h1 : b = true → GS K C t D { P with nx := M }) (h2 : b = false → GS K C u D { P with nx := M }) (k : ∀ D', M D' → GS K C tz D' P) : GS K C (tSeq (tIfS tc t u) tz) D P :=
  gs_if hc (fun h => (h1 h).imp k (fun _ z => z) (fun _ z => z) (fun _ z => z)) (fun h => (h2 h).imp k (fun _ z => z) (fun _ z => z) (fun _ z => z))
section
variable {P : Program} {w : World} {K : PySem.W.Frag} {mg : Str → Option Value} {base : Heap} {fd : Str → FuncData} {C : Addr}
theorem ok_lags (T : Tx K mg fd C) : FnOk P w K mg base CX0 1 (He.ga K "_law_lags") (fd "_law_lags") ["_law_dues_here", "_law_row"] (spR K C R_lags) := by
  refine ok_of T.F__law_lags sc__law_lags (fun ds d h => by obtain ⟨W, n, T, row, rfl, _⟩ := h; rfl) fun cdv A outer s H E hr ds d h => ?_
  obtain ⟨W, n, Tb, row, rfl, hL, hR, rfl⟩ := h
  refine ⟨_, (pss_cons (ps_set (i := 2) sc__law_lags.nd rfl (.inl rfl) (pe_op op_rep (pe_lst (pa_cons pe_int pa_nil)) (pe_callB (call_lenK K) (by rfl) T.n_len (by decide +kernel) (pa_cons (pe_ix (ix_listK K) (pv 0) pe_int (fun _ _ => rfl)) pa_nil))))
    (pss_cons (ps_set (i := 3) sc__law_lags.nd rfl (.inl rfl) (pe_lst (pa_cons (pe_callTy (call_listK K) (by rfl) T.n_list (by decide +kernel) (pa_cons (pe_ix (ix_listK K) (pv 0) pe_int (fun _ _ => rfl)) pa_nil)) pa_nil)))
    (pss_cons (ps_for PassesOwn.never rfl (pi_range1 (by rfl) T.n_range (pa_cons (pe_callB (call_lenK K) (by rfl) T.n_len (by decide +kernel) (pa_cons (pv 1) pa_nil)) pa_nil)) (pg_name (i := 4) sc__law_lags.nd rfl (.inl rfl))
    (pss_cons (ps_asg (pe_op op_add (pe_ix (ix_listK K) (pv 2) (pe_ix (ix_listK K) (pv 1) (pv 4) (fun _ _ => rfl)) (fun _ _ => rfl)) pe_int) (pg_sub (pv 2) (pe_ix (ix_listK K) (pv 1) (pv 4) (fun _ _ => rfl)) set_list))
    (pss_cons (ps_expr (pe_bm PySem.F.plainAttrs_list PySem.F.slot_list_append PySem.F.type_list_append mt_append (pv 3) (pa_cons (pe_lc (own := [("_law_due", 5), ("_law_count", 6)]) rfl sc__law_lags.nd (pi_zipK K (by rfl) T.n_zip (pa_cons (pe_ix (ix_listK K) (pv 0) (pe_op op_add (pv 4) pe_int) (fun _ _ => rfl)) (pa_cons (pv 2) pa_nil))) (blkOk_by (by kernel_rfl)) (fun _ _ _ _ _ => (pg_tupK K (n := 2) rfl (pgs_cons (pg_name (i := 5) sc__law_lags.nd rfl (.inl rfl)) (pgs_cons (pg_name (i := 6) sc__law_lags.nd rfl (.inl rfl)) pgs_nil)))) (fun _ _ _ _ _ => pts_nil) (fun _ _ _ _ _ => (pe_tup (pa_cons (pe_op op_sub (pe_ix (ix_tupK K) (pv 5) pe_int (fun _ _ => rfl)) (pe_op op_mulW (pv 6) (pe_ix (ix_tupK K) (pv 5) pe_int (fun _ _ => rfl)))) (pa_cons (pe_ix (ix_tupK K) (pv 5) pe_int (fun _ _ => rfl)) pa_nil))))) pa_nil)))
    pss_nil)))
    (pss_cons (ps_ret (pv 3))
    pss_nil)))), ?_⟩
  have hW := hL.hW
  have hl := hL.l
  have hn := hL.n1
  have hrl := hR.l
  have d0 := hL.row (i := 0) (by omega)
  refine gs_asgL (ds := (tallyZ n []).map PyData.int) (by
    have e : (tallyZ n []).map PyData.int = List.replicate n (.int 0) := by unfold tallyZ; rw [List.foldl_nil, List.map_replicate]
    rw [e]
    exact gl_rep (n := n) (gd_new (gl_lst (ga_cons gd_int ga_nil))) (Gd.is (gd_len (ds := (Tb.getD 0 []).map fun X => frD (fr W X)) (gd_ixL (ds := Tb.map (rowD W)) gd_var gd_int (atD (j := 0) rfl (tab_at (by omega))))) (by rw [List.length_map, d0.1])) (by omega)) ?_
  refine gs_asgL (ds := [rowD W (Tb.getD 0 [])]) (gl_lst (ga_cons (gd_new (gl_listof (ds := (Tb.getD 0 []).map fun X => frD (fr W X)) (gd_ixL (ds := Tb.map (rowD W)) gd_var gd_int (atD (j := 0) rfl (tab_at (by omega)))))) ga_nil)) ?_
  have lrow : (row.map fun i => PyData.int (i : Nat)).length = row.length := List.length_map _
  refine gs_for (is := [4]) (gi_range1 (hi := (row.map fun i => PyData.int (i : Nat)).length) (ga_cons (gd_len (ds := row.map fun i => PyData.int (i : Nat)) gd_var) ga_nil) (by rw [lrow]; omega)) (fun k D => D = [.v (tabD W Tb), .v (rowI row), .own ((tallyZ n (row.take k)).map PyData.int), .own ((Tb.getD 0 [] :: (List.range k).map fun k => lagRow W (Tb.getD (k + 1) []) (tallyZ n (row.take (k + 1)))).map (rowD W)), .no, .no, .no]) rfl (fun k D1 d hd hI => ?_) (fun D1 hI => ?_)
  · subst hI
    obtain ⟨hk, rfl⟩ := get_rng hd
    rw [lrow, Int.toNat_natCast] at hk
    obtain ⟨i, hi⟩ : ∃ i, row[k]? = some i := ⟨row[k], List.getElem?_eq_getElem hk⟩
    have im := hR.m i (List.mem_of_getElem? hi)
    have tl := tally_len n (row.take k)
    have et : tallyZ n (row.take (k + 1)) = bump (tallyZ n (row.take k)) i := by
      rw [List.take_add_one, hi, ← tally_snoc] <;> rfl
    have dk := hL.row (i := k + 1) (by omega)
    have hix : atI ((tallyZ n (row.take k)).map PyData.int) (i : Int) = some (.int ((tallyZ n (row.take k)).getD i 0)) := atD rfl (ints_at (by omega))
    have gi : ∀ D, D[1]? = some (.v (rowI row)) → D[4]? = some (.v (.int (k : Nat))) → Gd K C (tOp (rIxL K) (tVar 1) (tVar 4)) D (.int (i : Nat)) := fun D h1 h2 => gd_ixL (gd_var h1) (gd_var h2) (atD rfl (irow_at hi))
    refine ⟨_, gg_name, gs_setI (k := 2) (m := i) rfl (gd_i0 (gd_ixO (k := 2) rfl (gi _ rfl rfl) hix) gd_int) (gi _ rfl rfl) rfl (by rw [List.length_map]; omega) ?_⟩
    have e2 : ((tallyZ n (row.take k)).map PyData.int).set i (.int ((tallyZ n (row.take k)).getD i 0 + 1)) = (tallyZ n (row.take (k + 1))).map PyData.int := by
      rw [et, bump, List.map_set]
    have tl2 := tally_len n (row.take (k + 1))
    refine gs_app (k := 3) rfl (ga_cons (gd_new (gl_lc (is := [5, 6]) (rs := (lagRow W (Tb.getD (k + 1) []) (tallyZ n (row.take (k + 1)))).map fun X => frD (fr W X)) (gj_zipO (k := 2) (ds := (Tb.getD (k + 1) []).map fun X => frD (fr W X)) (es := (tallyZ n (row.take (k + 1))).map PyData.int) (gd_ixL (ds := Tb.map (rowD W)) gd_var (gd_i0 gd_var gd_int) (atD (j := k + 1) (by omega) (tab_at (by omega)))) (by rw [← e2]; rfl) (by rw [List.length_map, List.length_map]; omega)) ?_ ?_ (by simp) fun j e he => ?_)) ga_nil) ?_ (gs_next (D' := [.v (tabD W Tb), .v (rowI row), .own ((tallyZ n (row.take (k + 1))).map PyData.int), .own ((Tb.getD 0 [] :: (List.range (k + 1)).map fun k => lagRow W (Tb.getD (k + 1) []) (tallyZ n (row.take (k + 1)))).map (rowD W)), .no, .no, .no]) rfl ⟨.inr rfl, .inr rfl, .inr (congrArg Sl.own e2.symm), .inr ?_, .inl rfl, .inr rfl, .inr rfl, trivial⟩)
    · rw [List.length_map, List.length_zipWith, List.length_map, List.length_map, lagRow, List.length_zipWith]
    · rw [List.length_zipWith, List.length_map, List.length_map]
      omega
    · rw [List.getElem?_zipWith, List.getElem?_map, List.getElem?_map] at he
      cases h1 : (Tb.getD (k + 1) [])[j]? with
      | none => rw [h1] at he; cases he
      | some X =>
        cases h2 : (tallyZ n (row.take (k + 1)))[j]? with
        | none => rw [h1, h2] at he; cases he
        | some cz =>
          rw [h1, h2] at he
          cases he
          have xb := dk.2 X (List.mem_of_getElem? h1)
          have cb := tally_mem cz (List.mem_of_getElem? h2)
          rw [List.length_take] at cb
          have ok : Ok W X := ⟨hW.1, hW.2, by omega, by omega⟩
          have p2 := ok.p2
          refine ⟨_, frD (fr W (X - cz * W)), gg_two, Gd.is (gd_tup (ga_cons (gd_i0 (gd_ixT gd_var gd_int (i0 _)) (gd_i gd_var (gd_ixT gd_var gd_int (i1 _)) (cmul (by omega) (by omega)))) (ga_cons (gd_ixT gd_var gd_int (i1 _)) ga_nil))) ?_, ?_⟩
          · rw [← fr_lag hW.1 cz] <;> rfl
          · rw [List.getElem?_map]
            unfold lagRow
            rw [List.getElem?_zipWith, h1, h2] <;> rfl
    · rw [List.length_map, List.length_cons, List.length_map, List.length_range]
      omega
    · rw [List.range_succ, List.map_append, List.map_cons, List.map_append]
      rfl
  · subst hI
    rw [List.length_map, List.length_range, lrow, Int.toNat_natCast]
    exact gs_ret gr_own rfl
theorem ok_worst (T : Tx K mg fd C) : FnOk P w K mg base CX0 2 (He.ga K "_law_worst") (fd "_law_worst") ["_law_dues_here", "_law_row"] (spR K C R_worst) := by
  refine ok_of T.F__law_worst sc__law_worst (fun ds d h => by obtain ⟨W, n, T, row, rfl, _⟩ := h; rfl) fun cdv A outer s H E hr ds d h => ?_
  obtain ⟨W, n, Tb, row, rfl, hL, hR, rfl⟩ := h
  have G__law_lags := ok_lags (P := P) (w := w) (base := base) T
  refine ⟨_, (pss_cons (ps_set (i := 2) sc__law_worst.nd rfl (.inl rfl) (pe_tup (pa_cons pe_int (pa_cons pe_int pa_nil))))
    (pss_cons (ps_for PassesOwn.never rfl (pi_listK K (pe_call G__law_lags (hr.mono (by decide)) (by rfl) T.m__law_lags T.F__law_lags.kp T.b__law_lags .nil pass0 (pa_cons (pv 0) (pa_cons (pv 1) pa_nil)))) (pg_name (i := 3) sc__law_worst.nd rfl (.inl rfl))
    (pss_cons (ps_for PassesOwn.never rfl (pi_listK K (pv 3)) (pg_tupK K (n := 2) rfl (pgs_cons (pg_name (i := 4) sc__law_worst.nd rfl (.inl rfl)) (pgs_cons (pg_name (i := 5) sc__law_worst.nd rfl (.inl rfl)) pgs_nil)))
    (pss_cons (ps_if (pt_cmpR op_lt (pe_op op_mulW (pe_ix (ix_tupK K) (pv 2) pe_int (fun _ _ => rfl)) (pv 5)) (pe_op op_mulW (pe_callB call_abs1 (by rfl) T.n_abs (by decide +kernel) (pa_cons (pv 4) pa_nil)) (pe_ix (ix_tupK K) (pv 2) pe_int (fun _ _ => rfl))) (nomark _))
    (pss_cons (ps_set (i := 2) sc__law_worst.nd rfl (.inl rfl) (pe_tup (pa_cons (pe_callB call_abs1 (by rfl) T.n_abs (by decide +kernel) (pa_cons (pv 4) pa_nil)) (pa_cons (pv 5) pa_nil))))
    pss_nil)
    pss_nil)
    pss_nil))
    pss_nil))
    (pss_cons (ps_ret (pv 2))
    pss_nil))), ?_⟩
  have hW := hL.hW
  have hm := lag_mem hL hR
  refine gs_asg (d := frD (fr W 0)) (Gd.is (gd_tup (ga_cons gd_int (ga_cons gd_int ga_nil))) (by rw [fr_zero hW.1] <;> rfl)) ?_
  refine gs_for (is := [3]) (gi_list (ds := (lagsZ W n Tb row).map (rowD W)) (gd_call (ga_cons gd_var (ga_cons gd_var ga_nil)) ⟨W, n, Tb, row, rfl, hL, hR, rfl⟩)) (fun k D => ∃ m, m = ((lagsZ W n Tb row).take k).foldl (fun m r => r.foldl worstUp m) 0 ∧ (0 ≤ m ∧ m ≤ 1000000000) ∧ D = [.v (tabD W Tb), .v (rowI row), .v (frD (fr W m)), .no, .no, .no]) ⟨0, rfl, ⟨by omega, by omega⟩, rfl⟩ (fun k D1 d hd hI => ?_) (fun D1 hI => ?_)
  · obtain ⟨m, em, mb, rfl⟩ := hI
    rw [List.getElem?_map] at hd
    obtain ⟨r, hr1, rfl⟩ := Option.map_eq_some_iff.mp hd
    have hr2 := hm r (List.mem_of_getElem? hr1)
    have e1 : ((lagsZ W n Tb row).take (k + 1)).foldl (fun m r => r.foldl worstUp m) 0 = r.foldl worstUp m := by
      rw [List.take_add_one, hr1, List.foldl_append, ← em]
      rfl
    refine ⟨_, gg_name, ?_⟩
    refine gs_for (is := [4, 5]) (gi_list (ds := r.map fun X => frD (fr W X)) gd_var) (fun j D => ∃ m', m' = (r.take j).foldl worstUp m ∧ (0 ≤ m' ∧ m' ≤ 1000000000) ∧ D = [.v (tabD W Tb), .v (rowI row), .v (frD (fr W m')), .v (rowD W r), .no, .no]) ⟨m, rfl, mb, rfl⟩ (fun j D1 d hd hI => ?_) (fun D1 hI => ?_)
    · obtain ⟨m', em', mb', rfl⟩ := hI
      rw [List.getElem?_map] at hd
      obtain ⟨X, hX, rfl⟩ := Option.map_eq_some_iff.mp hd
      have xb := hr2 X (List.mem_of_getElem? hX)
      have e2 : (r.take (j + 1)).foldl worstUp m = worstUp m' X := by
        rw [List.take_add_one, hX, List.foldl_append, ← em']
        rfl
      have ab := abs_le xb
      have a0 := abs_nn X
      have okX : Ok W X := ⟨hW.1, hW.2, xb.1, xb.2⟩
      have okA : Ok W (absZ X) := ⟨hW.1, hW.2, by omega, by omega⟩
      have okM : Ok W m' := ⟨hW.1, hW.2, by omega, by omega⟩
      have ea : ((if (fr W X).1 < 0 then -(fr W X).1 else (fr W X).1), (fr W X).2) = fr W (absZ X) := fr_abs hW.1
      have ea1 : (if (fr W X).1 < 0 then -(fr W X).1 else (fr W X).1) = (fr W (absZ X)).1 := by
        have q := congrArg Prod.fst ea
        exact q
      have ea2 : (fr W X).2 = (fr W (absZ X)).2 := by
        have q := congrArg Prod.snd ea
        exact q
      have p1 := okA.p1
      have p2 := okA.p2
      have q1 := okM.p1
      have q2 := okM.p2
      refine ⟨_, gg_two, ?_⟩
      have gab : ∀ D, D[4]? = some (.v (.int (fr W X).1)) → Gd K C (tCB rAbs1 (tCons (tVar 4) tNil)) D (.int (fr W (absZ X)).1) := fun D h => Gd.is (gd_abs (gd_var h)) (by rw [ea1])
      refine gs_ifj (b := decide (m' < absZ X)) (fun D' => D' = [.v (tabD W Tb), .v (rowI row), .v (frD (fr W (worstUp m' X))), .v (rowD W r), .no, .no]) (Gb.is (gb_test (gd_b0 (gd_i (gd_ixT gd_var gd_int (i0 (fr W m'))) (gd_var (d := .int (fr W X).2)) (cmul (by omega) (by omega))) (gd_i (gab _ rfl) (gd_ixT gd_var gd_int (i1 (fr W m'))) (cmul (by omega) (by omega))))) ?_) (fun h => ?_) (fun h => ?_) (fun D' hD => ?_)
      · rw [ea2]
        exact decide_eq_decide.mpr (fr_lt hW.1)
      · refine gs_asg (d := frD (fr W (absZ X))) (Gd.is (gd_tup (ga_cons (gab _ rfl) (ga_cons (gd_var (d := .int (fr W X).2)) ga_nil))) (by rw [ea2] <;> rfl)) (gs_next (D' := [.v (tabD W Tb), .v (rowI row), .v (frD (fr W (worstUp m' X))), .v (rowD W r), .no, .no]) rfl ⟨.inr rfl, .inr rfl, .inr ?_, .inr rfl, .inl rfl, .inl rfl, trivial⟩)
        unfold worstUp
        rw [if_pos (of_decide_eq_true h)]
      · refine gs_next (D' := [.v (tabD W Tb), .v (rowI row), .v (frD (fr W (worstUp m' X))), .v (rowD W r), .no, .no]) rfl ⟨.inr rfl, .inr rfl, .inr ?_, .inr rfl, .inl rfl, .inl rfl, trivial⟩
        unfold worstUp
        rw [if_neg (of_decide_eq_false h)] <;> rfl
      · subst hD
        refine gs_nx ⟨_, e2.symm, ?_, rfl⟩
        unfold worstUp
        split <;> omega
    · obtain ⟨m', em', mb', rfl⟩ := hI
      refine gs_next (D' := [.v (tabD W Tb), .v (rowI row), .v (frD (fr W m')), .no, .no, .no]) ⟨m', ?_, mb', rfl⟩ ⟨.inr rfl, .inr rfl, .inr rfl, .inl rfl, .inr rfl, .inr rfl, trivial⟩
      rw [e1, em', List.length_map, List.take_length]
  · obtain ⟨m, em, mb, rfl⟩ := hI
    refine gs_ret (gr_of gd_var) ?_
    show frD (fr W m) = _
    rw [em, List.length_map, List.take_length] <;> rfl
theorem ok_longer (T : Tx K mg fd C) : FnOk P w K mg base CX0 1 (He.ga K "_law_longer") (fd "_law_longer") ["_law_rows", "_law_many"] (spR K C R_longer) := by
  refine ok_of T.F__law_longer sc__law_longer (fun ds d h => by obtain ⟨rows, n, rfl, _⟩ := h; rfl) fun cdv A outer s H E hr ds d h => ?_
  obtain ⟨rows, n, rfl, hl, hl1, hn, hr1, rfl⟩ := h
  refine ⟨_, (pss_cons (ps_set (i := 2) sc__law_longer.nd rfl (.inl rfl) (pe_lst pa_nil))
    (pss_cons (ps_for PassesOwn.never rfl (pi_listK K (pv 0)) (pg_name (i := 3) sc__law_longer.nd rfl (.inr rfl))
    (pss_cons (ps_set (i := 2) sc__law_longer.nd rfl (.inl rfl) (pe_op op_cat (pv 2) (pe_lc (own := [("_law_who", 4)]) rfl sc__law_longer.nd (pi_range1 (by rfl) T.n_range (pa_cons (pv 1) pa_nil)) (blkOk_by (by kernel_rfl)) (fun _ _ _ _ _ => (pg_name (i := 4) sc__law_longer.nd rfl (.inl rfl))) (fun _ _ _ _ _ => pts_nil) (fun _ _ _ _ _ => (pe_op op_cat (pv 3) (pe_lst (pa_cons (pv 4) pa_nil)))))))
    pss_nil))
    (pss_cons (ps_ret (pv 2))
    pss_nil))), ?_⟩
  refine gs_asg (gd_new (gl_lst ga_nil)) ?_
  refine gs_for (is := [3]) (gi_list (ds := rows.map rowI) gd_var) (fun k D => D = [.v (rowsI rows), .v (.int (n : Nat)), .v (rowsI (longerZ (rows.take k) n)), .no, .no]) rfl (fun k D1 d hd hI => ?_) (fun D1 hI => ?_)
  · subst hI
    rw [List.getElem?_map] at hd
    obtain ⟨r, hr2, rfl⟩ := Option.map_eq_some_iff.mp hd
    have rm := hr1 r (List.mem_of_getElem? hr2)
    have hk : k < rows.length := (List.getElem?_eq_some_iff.mp hr2).1
    have e1 : longerZ (rows.take (k + 1)) n = longerZ (rows.take k) n ++ (List.range n).map fun w => r ++ [w] := by
      unfold longerZ
      rw [List.take_add_one, hr2, List.flatMap_append]
      simp
    have l1 : (longerZ (rows.take k) n).length ≤ 900 := by
      rw [longer_len, List.length_take]
      exact Nat.le_trans (Nat.mul_le_mul_right n (Nat.min_le_right ..)) hl
    refine ⟨_, gg_name, gs_asg (d := rowsI (longerZ (rows.take (k + 1)) n)) (Gd.is (gd_new (gl_cat (ds := (longerZ (rows.take k) n).map rowI) (es := ((List.range n).map fun w => r ++ [w]).map rowI) gd_var (gd_new (gl_lc (is := [4]) (gj_of (gi_range1 (hi := (n : Nat)) (ga_cons gd_var ga_nil) (by omega))) ?_ ?_ (by simp) fun j e he => ?_)) ?_)) ?_) (gs_next (D' := [.v (rowsI rows), .v (.int (n : Nat)), .v (rowsI (longerZ (rows.take (k + 1)) n)), .no, .no]) rfl ⟨.inr rfl, .inr rfl, .inr rfl, .inl rfl, .inr rfl, trivial⟩)⟩
    · simp
    · simp
      omega
    · obtain ⟨hj, rfl⟩ := get_rng he
      rw [Int.toNat_natCast] at hj
      refine ⟨_, _, gg_name, gd_new (gl_cat (ds := r.map fun i => .int (i : Nat)) gd_var (gd_new (gl_lst (ga_cons gd_var ga_nil))) ?_), ?_⟩
      · simp
        omega
      · rw [List.getElem?_map, List.getElem?_map, List.getElem?_range hj]
        simp [rowI]
    · rw [List.length_map, List.length_map, List.length_map, List.length_range]
      omega
    · unfold rowsI
      rw [e1, List.map_append]
  · subst hI
    rw [List.length_map, List.take_length]
    exact gs_ret (gr_of gd_var) rfl
theorem ok_least (T : Tx K mg fd C) : FnOk P w K mg base CX0 3 (He.ga K "_law_least") (fd "_law_least") ["_law_dues_here"] (spR K C R_least) := by
  refine ok_of T.F__law_least sc__law_least (fun ds d h => by obtain ⟨W, n, T, rfl, _⟩ := h; rfl) fun cdv A outer s H E hr ds d h => ?_
  obtain ⟨W, n, Tb, rfl, hL, rfl⟩ := h
  have G__law_longer := ok_longer (P := P) (w := w) (base := base) T
  have G__law_worst := ok_worst (P := P) (w := w) (base := base) T
  refine ⟨_, (pss_cons (ps_set (i := 1) sc__law_least.nd rfl (.inl rfl) (pe_lst (pa_cons (pe_lst pa_nil) pa_nil)))
    (pss_cons (ps_for PassesOwn.never rfl (pi_range1 (by rfl) T.n_range (pa_cons (pe_op op_sub (pe_callB (call_lenK K) (by rfl) T.n_len (by decide +kernel) (pa_cons (pv 0) pa_nil)) pe_int) pa_nil)) (pg_name (i := 2) sc__law_least.nd rfl (.inl rfl))
    (pss_cons (ps_set (i := 1) sc__law_least.nd rfl (.inl rfl) (pe_call G__law_longer (hr.mono (by decide)) (by rfl) T.m__law_longer T.F__law_longer.kp T.b__law_longer .nil pass0 (pa_cons (pv 1) (pa_cons (pe_callB (call_lenK K) (by rfl) T.n_len (by decide +kernel) (pa_cons (pe_ix (ix_listK K) (pv 0) pe_int (fun _ _ => rfl)) pa_nil)) pa_nil))))
    pss_nil))
    (pss_cons (ps_set (i := 3) sc__law_least.nd rfl (.inl rfl) pe_non)
    (pss_cons (ps_for PassesOwn.never rfl (pi_listK K (pv 1)) (pg_name (i := 4) sc__law_least.nd rfl (.inl rfl))
    (pss_cons (ps_set (i := 5) sc__law_least.nd rfl (.inl rfl) (pe_call G__law_worst (hr.mono (by decide)) (by rfl) T.m__law_worst T.F__law_worst.kp T.b__law_worst .nil pass0 (pa_cons (pv 0) (pa_cons (pv 4) pa_nil))))
    (pss_cons (ps_if (PW.pt (pw_or (pt_cmpR op_isN (pv 3) pe_non (nomark _)) (pw_or1 (pt_cmpR op_lt (pe_op op_mulW (pe_ix (ix_tupK K) (pv 5) pe_int (fun _ _ => rfl)) (pe_ix (ix_tupK K) (pv 3) pe_int (fun _ _ => rfl))) (pe_op op_mulW (pe_ix (ix_tupK K) (pv 3) pe_int (fun _ _ => rfl)) (pe_ix (ix_tupK K) (pv 5) pe_int (fun _ _ => rfl))) (nomark _)))))
    (pss_cons (ps_set (i := 3) sc__law_least.nd rfl (.inl rfl) (pv 5))
    pss_nil)
    pss_nil)
    pss_nil)))
    (pss_cons (ps_ret (pv 3))
    pss_nil))))), ?_⟩
  have hW := hL.hW
  have hl := hL.l
  have hn := hL.n1
  have hf := hL.few
  have d0 := hL.row (i := 0) (by omega)
  have lT : (Tb.map (rowD W)).length = Tb.length := List.length_map _
  refine gs_asg (d := rowsI [[]]) (gd_new (gl_lst (ga_cons (gd_new (gl_lst ga_nil)) ga_nil))) ?_
  refine gs_for (is := [2]) (gi_range1 (hi := (Tb.map (rowD W)).length - 1) (ga_cons (gd_i0 (gd_len (ds := Tb.map (rowD W)) gd_var) gd_int) ga_nil) (by rw [lT]; omega)) (fun k D => D = [.v (tabD W Tb), .v (rowsI (rowsN n k)), .no, .no, .no, .no]) rfl (fun k D1 d hd hI => ?_) (fun D1 hI => ?_)
  · subst hI
    obtain ⟨hk, rfl⟩ := get_rng hd
    rw [lT] at hk
    have hp : n ^ (k + 1) ≤ 900 := Nat.le_trans (Nat.pow_le_pow_right hn.1 (by omega)) hf
    have hp0 : n ^ k ≤ 900 := Nat.le_trans (Nat.pow_le_pow_right hn.1 (by omega)) hf
    refine ⟨_, gg_name, gs_asg (gd_call (d := rowsI (rowsN n (k + 1))) (R := R_longer) (ds := [rowsI (rowsN n k), .int (n : Nat)]) (ga_cons gd_var (ga_cons (Gd.is (gd_len (ds := (Tb.getD 0 []).map fun X => frD (fr W X)) (gd_ixL (ds := Tb.map (rowD W)) gd_var gd_int (atD (j := 0) rfl (tab_at (by omega))))) (by rw [List.length_map, d0.1])) ga_nil)) ⟨rowsN n k, n, rfl, ?_, ?_, hn.2, fun r hr => ?_, rfl⟩) (gs_next (D' := [.v (tabD W Tb), .v (rowsI (rowsN n (k + 1))), .no, .no, .no, .no]) rfl ⟨.inr rfl, .inr rfl, .inl rfl, .inr rfl, .inr rfl, .inr rfl, trivial⟩)⟩
    · rw [rows_len, ← Nat.pow_succ]
      exact hp
    · rw [rows_len]
      exact hp0
    · rw [((rows_mem n k r).mp hr).1]
      omega
  · subst hI
    rw [List.length_map, List.length_range, lT, show ((Tb.length : Int) - 1).toNat = Tb.length - 1 by omega]
    refine gs_asg gd_non ?_
    refine gs_for (is := [4]) (gi_list (ds := (rowsN n (Tb.length - 1)).map rowI) gd_var) (fun k D => ∃ f, f = ((rowsN n (Tb.length - 1)).take k).foldl (leastUp W n Tb) none ∧ (∀ m, f = some m → 0 ≤ m ∧ m ≤ 1000000000) ∧ D = [.v (tabD W Tb), .v (rowsI (rowsN n (Tb.length - 1))), .no, .v (optF W f), .no, .no]) ⟨none, rfl, fun m h => (by cases h), rfl⟩ (fun k D1 d hd hI => ?_) (fun D1 hI => ?_)
    · obtain ⟨f, ef, fb, rfl⟩ := hI
      rw [List.getElem?_map] at hd
      obtain ⟨row, hr1, rfl⟩ := Option.map_eq_some_iff.mp hd
      have rm := (rows_mem n _ row).mp (List.mem_of_getElem? hr1)
      have hR : OkRow n Tb row := ⟨by rw [rm.1]; omega, rm.2⟩
      have e1 : ((rowsN n (Tb.length - 1)).take (k + 1)).foldl (leastUp W n Tb) none = leastUp W n Tb f row := by
        rw [List.take_add_one, hr1, List.foldl_append, ← ef]
        rfl
      have wb : 0 ≤ worstZ (lagsZ W n Tb row) ∧ worstZ (lagsZ W n Tb row) ≤ 1000000000 := by
        have hm := lag_mem hL hR
        unfold worstZ
        generalize lagsZ W n Tb row = rows at *
        have inner : ∀ (r : List Int) (m : Int), (∀ X ∈ r, -1000000000 ≤ X ∧ X ≤ 1000000000) → (0 ≤ m ∧ m ≤ 1000000000) → 0 ≤ r.foldl worstUp m ∧ r.foldl worstUp m ≤ 1000000000 := fun r => by
          induction r with
          | nil => exact fun m _ h => h
          | cons X r ih =>
            intro m h1 h2
            rw [List.foldl_cons]
            refine ih _ (fun Y hY => h1 Y (List.mem_cons_of_mem _ hY)) ?_
            have := abs_le (h1 X (List.mem_cons_self ..))
            have := abs_nn X
            unfold worstUp
            split <;> omega
        have outer : ∀ (rows : List (List Int)) (m : Int), (∀ r ∈ rows, ∀ X ∈ r, -1000000000 ≤ X ∧ X ≤ 1000000000) → (0 ≤ m ∧ m ≤ 1000000000) → 0 ≤ rows.foldl (fun m r => r.foldl worstUp m) m ∧ rows.foldl (fun m r => r.foldl worstUp m) m ≤ 1000000000 := fun rows => by
          induction rows with
          | nil => exact fun m _ h => h
          | cons r rows ih =>
            intro m h1 h2
            rw [List.foldl_cons]
            exact ih _ (fun r' hr' => h1 r' (List.mem_cons_of_mem _ hr')) (inner r m (h1 r (List.mem_cons_self ..)) h2)
        exact outer rows 0 hm ⟨by omega, by omega⟩
      refine ⟨_, gg_name, gs_asg (gd_call (ga_cons gd_var (ga_cons gd_var ga_nil)) ⟨W, n, Tb, row, rfl, hL, hR, rfl⟩) ?_⟩
      unfold leastUp at e1
      generalize worstZ (lagsZ W n Tb row) = M at *
      have okM : Ok W M := ⟨hW.1, hW.2, by omega, by omega⟩
      have p1 := okM.p1
      have p2 := okM.p2
      cases f with
      | none =>
        refine gs_if (b := true) (gb_or1 (gb_test (Gd.is (gd_isN (d := .none) gd_var) rfl))) (fun _ => gs_asg (d := frD (fr W M)) gd_var (gs_nx (gs_next (D' := [.v (tabD W Tb), .v (rowsI (rowsN n (Tb.length - 1))), .no, .v (optF W (some M)), .no, .no]) ⟨some M, e1.symm, fun m h => by cases h; exact wb, rfl⟩ ⟨.inr rfl, .inr rfl, .inr rfl, .inr rfl, .inl rfl, .inl rfl, trivial⟩))) no_tf
      | some m =>
        have mb := fb m rfl
        have okm : Ok W m := ⟨hW.1, hW.2, by omega, by omega⟩
        have q1 := okm.p1
        have q2 := okm.p2
        have e1 : ((rowsN n (Tb.length - 1)).take (k + 1)).foldl (leastUp W n Tb) none = if M < m then some M else some m := e1
        refine gs_if (b := decide (M < m)) (Gb.is (gb_or (b := false) (Gb.is (gb_test (gd_isN (d := frD (fr W m)) gd_var)) rfl) (fun _ => gb_test (gd_b0 (gd_i (gd_ixT gd_var gd_int (i0 (fr W M))) (gd_ixT gd_var gd_int (i1 (fr W m))) (cmul (by omega) (by omega))) (gd_i (gd_ixT gd_var gd_int (i0 (fr W m))) (gd_ixT gd_var gd_int (i1 (fr W M))) (cmul (by omega) (by omega)))))) ?_) (fun h => ?_) (fun h => gs_nx ?_)
        · rw [Bool.false_or]
          exact decide_eq_decide.mpr (fr_lt hW.1)
        · have h := of_decide_eq_true h
          rw [if_pos h] at e1
          exact gs_asg (d := frD (fr W M)) gd_var (gs_nx (gs_next (D' := [.v (tabD W Tb), .v (rowsI (rowsN n (Tb.length - 1))), .no, .v (optF W (some M)), .no, .no]) ⟨some M, e1.symm, fun m h => by cases h; exact wb, rfl⟩ ⟨.inr rfl, .inr rfl, .inr rfl, .inr rfl, .inl rfl, .inl rfl, trivial⟩))
        · have h := of_decide_eq_false h
          rw [if_neg h] at e1
          exact gs_next (D' := [.v (tabD W Tb), .v (rowsI (rowsN n (Tb.length - 1))), .no, .v (optF W (some m)), .no, .no]) ⟨some m, e1.symm, fun m' h => by cases h; exact mb, rfl⟩ ⟨.inr rfl, .inr rfl, .inr rfl, .inr rfl, .inl rfl, .inl rfl, trivial⟩
    · obtain ⟨f, ef, fb, rfl⟩ := hI
      refine gs_ret (gr_of gd_var) ?_
      show optF W f = _
      rw [ef, List.length_map, List.take_length] <;> rfl
end
end Du

namespace Du
open PySem PySem.Spec PyProof.Rows L2
def manyZ (c : Int) : Nat := (1 + drawZ c 0 3).toNat
def rawZ (c o : Int) (k : Nat) : List Int := (List.range (manyZ c)).map fun who => weightZ o (7 * (k : Nat) + (who : Nat))
def wRowZ (c o : Int) (k : Nat) : List Int := if (rawZ c o k).sum = 0 then (rawZ c o k).set (drawZ o (30 + (k : Nat)) (manyZ c)).toNat 1 else rawZ c o k
def capZ (c : Int) : Int := ([3, 3, 2] : List Int).getD (manyZ c - 1) 0
def turnsZ (c : Int) (k : Nat) : Nat := (1 + drawZ c (2 + (k : Nat)) (capZ c)).toNat
def spellsZ (c : Int) : Nat := (1 + drawZ c 1 2).toNat
def smallZ (c o : Int) : List (Nat × List Int) := (List.range (spellsZ c)).map fun k => (turnsZ c k, wRowZ c o k)
theorem many_in (c : Int) : 1 ≤ manyZ c ∧ manyZ c ≤ 3 ∧ (manyZ c : Int) = 1 + drawZ c 0 3 := by
  have := draw_in (c := c) (k := 0) (b := 3) (by decide)
  unfold manyZ
  omega
theorem spells_in (c : Int) : 1 ≤ spellsZ c ∧ spellsZ c ≤ 2 ∧ (spellsZ c : Int) = 1 + drawZ c 1 2 := by
  have := draw_in (c := c) (k := 1) (b := 2) (by decide)
  unfold spellsZ
  omega
theorem cap_in (c : Int) : (manyZ c ≤ 2 ∧ capZ c = 3) ∨ (manyZ c = 3 ∧ capZ c = 2) := by
  have h := many_in c
  unfold capZ
  generalize manyZ c = m at *
  have : m = 1 ∨ m = 2 ∨ m = 3 := by omega
  rcases this with rfl | rfl | rfl
  · exact .inl ⟨by omega, rfl⟩
  · exact .inl ⟨by omega, rfl⟩
  · exact .inr ⟨rfl, rfl⟩
theorem turns_in (c : Int) (k : Nat) : 1 ≤ turnsZ c k ∧ (turnsZ c k : Int) ≤ capZ c ∧ (turnsZ c k : Int) = 1 + drawZ c (2 + (k : Nat)) (capZ c) := by
  have hc : 0 < capZ c := by have := cap_in c; omega
  have := draw_in (c := c) (k := 2 + (k : Nat)) hc
  unfold turnsZ
  omega
theorem raw_mem (c o : Int) (k : Nat) : (rawZ c o k).length = manyZ c ∧ ∀ x ∈ rawZ c o k, 0 ≤ x ∧ x ≤ 1000 := by
  unfold rawZ
  refine ⟨by rw [List.length_map, List.length_range], fun x hx => ?_⟩
  obtain ⟨w, _, rfl⟩ := List.mem_map.mp hx
  exact weight_in _ _
theorem sum_pos {l : List Int} {x : Int} (h : ∀ y ∈ l, 0 ≤ y) (hx : x ∈ l) (hp : 0 < x) : 0 < l.sum := by
  have := (le_sum h hx).1
  omega
theorem wrow_ok (c o : Int) (k : Nat) : OkW (wRowZ c o k) ∧ (wRowZ c o k).length = manyZ c := by
  have hm := many_in c
  obtain ⟨hl, hr⟩ := raw_mem c o k
  unfold wRowZ
  split
  · have dr := draw_in (c := o) (k := 30 + (k : Nat)) (b := manyZ c) (by omega)
    have hl2 : ((rawZ c o k).set (drawZ o (30 + (k : Nat)) (manyZ c)).toNat 1).length = manyZ c := by rw [List.length_set, hl]
    have hmem : ∀ x ∈ (rawZ c o k).set (drawZ o (30 + (k : Nat)) (manyZ c)).toNat 1, 0 ≤ x ∧ x ≤ 1000 := fun x hx => by
      rcases List.mem_or_eq_of_mem_set hx with z | z
      · exact hr x z
      · omega
    refine ⟨⟨by omega, hmem, ?_⟩, hl2⟩
    refine sum_pos (x := 1) (fun y hy => (hmem y hy).1) ?_ (by decide)
    exact List.mem_iff_getElem?.mpr ⟨(drawZ o (30 + (k : Nat)) (manyZ c)).toNat, by rw [List.getElem?_set_self (by omega)]⟩
  · rename_i h
    refine ⟨⟨by omega, hr, ?_⟩, hl⟩
    have : ∀ l : List Int, (∀ x ∈ l, 0 ≤ x ∧ x ≤ 1000) → 0 ≤ l.sum := fun l => by
      induction l with
      | nil => simp
      | cons a l ih =>
        intro h
        have := ih fun x hx => h x (List.mem_cons_of_mem _ hx)
        have := h a (List.mem_cons_self ..)
        rw [List.sum_cons]
        omega
    have := this _ hr
    omega
theorem small_ok (c o : Int) : OkS (manyZ c) (smallZ c o) := by
  have hs := spells_in c
  have hc := cap_in c
  refine ⟨by unfold smallZ; rw [List.length_map, List.length_range]; omega, fun p hp => ?_, fun p hp => ?_, fun p hp => ?_⟩
  · obtain ⟨k, _, rfl⟩ := List.mem_map.mp hp
    have := turns_in c k
    omega
  · obtain ⟨k, _, rfl⟩ := List.mem_map.mp hp
    exact (wrow_ok c o k).1
  · obtain ⟨k, _, rfl⟩ := List.mem_map.mp hp
    exact (wrow_ok c o k).2
theorem sum_le_len {l : List Nat} {b : Nat} (h : ∀ x ∈ l, x ≤ b) : l.sum ≤ b * l.length := by
  induction l with
  | nil => simp
  | cons a l ih =>
    have := ih fun x hx => h x (List.mem_cons_of_mem _ hx)
    have := h a (List.mem_cons_self ..)
    rw [List.sum_cons, List.length_cons, Nat.mul_succ]
    omega
theorem small_few (c o : Int) : (manyZ c) ^ ((smallZ c o).map (·.1)).sum ≤ 900 := by
  have hs := spells_in c
  have hm := many_in c
  have hl : ((smallZ c o).map (·.1)).length ≤ 2 := by
    unfold smallZ
    rw [List.length_map, List.length_map, List.length_range]
    omega
  have ht : ∀ b : Nat, capZ c ≤ b → ((smallZ c o).map (·.1)).sum ≤ b * 2 := fun b hb => by
    refine Nat.le_trans (sum_le_len (b := b) fun x hx => ?_) (Nat.mul_le_mul_left b hl)
    obtain ⟨p, hp, rfl⟩ := List.mem_map.mp hx
    obtain ⟨k, _, rfl⟩ := List.mem_map.mp hp
    have := turns_in c k
    have : (turnsZ c k : Int) ≤ b := by omega
    exact Int.ofNat_le.mp this
  rcases cap_in c with ⟨h1, h2⟩ | ⟨h1, h2⟩
  · have := ht 3 (by omega)
    exact Nat.le_trans (Nat.pow_le_pow_left h1 _) (Nat.le_trans (Nat.pow_le_pow_right (by decide) this) (by decide))
  · have := ht 2 (by omega)
    rw [h1]
    exact Nat.le_trans (Nat.pow_le_pow_right (by decide) this) (by decide)
def R_small (ds : List PyData) (d : PyData) : Prop := ∃ c o : Int, ds = [.int c, .int o] ∧ d = .list (spD (smallZ c o))
section
variable {P : Program} {w : World} {K : PySem.W.Frag} {mg : Str → Option Value} {base : Heap} {fd : Str → FuncData} {C : Addr}
theorem gd_sumO {k : Nat} {D : List Sl} {ns : List Int} (hD : D[k]? = some (.own (ns.map PyData.int))) : Gd K C (tCB (rSum K) (tCons (tVar k) tNil)) D (.int ns.sum) := fun S0 H0 S st H c Q q => by
  obtain ⟨l, vs, h1, h2, h3, h4, h5⟩ := c.own k _ hD
  rw [AtAll.ints h5] at h4
  exact ⟨.ref l, h1, _, _, rfl, SqL.of h4, q _ H (Same.refl H) (.int _)⟩
theorem ok_small (T : Tx K mg fd C) : FnOk P w K mg base CX0 3 (He.ga K "_law_small") (fd "_law_small") ["_law_cell", "_law_other"] (spR K C R_small) := by
  refine ok_of T.F__law_small sc__law_small (fun ds d h => by obtain ⟨c, o, rfl, _⟩ := h; rfl) fun cdv A outer s H E hr ds d h => ?_
  obtain ⟨c, o, rfl, rfl⟩ := h
  have G__law_draw := ok_draw (P := P) (w := w) (base := base) T
  have G__law_weight := ok_weight (P := P) (w := w) (base := base) T
  refine ⟨_, (pss_cons (ps_set (i := 2) sc__law_small.nd rfl (.inl rfl) (pe_op op_add pe_int (pe_call G__law_draw (hr.mono (by decide)) (by rfl) T.m__law_draw T.F__law_draw.kp T.b__law_draw .nil pass0 (pa_cons (pv 0) (pa_cons pe_int (pa_cons pe_int pa_nil))))))
    (pss_cons (ps_set (i := 3) sc__law_small.nd rfl (.inl rfl) (pe_lst pa_nil))
    (pss_cons (ps_for PassesOwn.never rfl (pi_range1 (by rfl) T.n_range (pa_cons (pe_op op_add pe_int (pe_call G__law_draw (hr.mono (by decide)) (by rfl) T.m__law_draw T.F__law_draw.kp T.b__law_draw .nil pass0 (pa_cons (pv 0) (pa_cons pe_int (pa_cons pe_int pa_nil))))) pa_nil)) (pg_name (i := 4) sc__law_small.nd rfl (.inr rfl))
    (pss_cons (ps_setLc (i := 5) (own := [("_law_who", 6)]) rfl sc__law_small.nd rfl rfl (sw_true rfl rfl rfl (by decide +kernel)) (pi_range1 (by rfl) T.n_range (pa_cons (pv 2) pa_nil)) (blkOk_by (by kernel_rfl)) (fun _ _ _ _ _ => (pg_name (i := 6) sc__law_small.nd rfl (.inl rfl))) (fun _ _ _ _ _ => pts_nil) (fun _ _ _ _ _ => (pe_call G__law_weight (hr.mono (by decide)) (by rfl) T.m__law_weight T.F__law_weight.kp T.b__law_weight .nil pass0 (pa_cons (pv 1) (pa_cons (pe_op op_add (pe_op op_mulW pe_int (pv 4)) (pv 6)) pa_nil)))))
    (pss_cons (ps_if (pt_cmpR op_eq (pe_callB (cr_sumK K rfl) (by rfl) T.n_sum (by decide +kernel) (pa_cons (pv 5) pa_nil)) pe_int (nomark _))
    (pss_cons (ps_asg pe_int (pg_sub (pv 5) (pe_call G__law_draw (hr.mono (by decide)) (by rfl) T.m__law_draw T.F__law_draw.kp T.b__law_draw .nil pass0 (pa_cons (pv 1) (pa_cons (pe_op op_add pe_int (pv 4)) (pa_cons (pv 2) pa_nil)))) set_list))
    pss_nil)
    pss_nil)
    (pss_cons (ps_expr (pe_bm PySem.F.plainAttrs_list PySem.F.slot_list_append PySem.F.type_list_append mt_append (pv 3) (pa_cons (pe_tup (pa_cons (pe_op op_add pe_int (pe_call G__law_draw (hr.mono (by decide)) (by rfl) T.m__law_draw T.F__law_draw.kp T.b__law_draw .nil pass0 (pa_cons (pv 0) (pa_cons (pe_op op_add pe_int (pv 4)) (pa_cons (pe_ix (ix_listK K) (pe_lst (pa_cons pe_int (pa_cons pe_int (pa_cons pe_int pa_nil)))) (pe_op op_sub (pv 2) pe_int) (fun _ _ => rfl)) pa_nil))))) (pa_cons (pv 5) pa_nil))) pa_nil)))
    pss_nil))))
    (pss_cons (ps_ret (pv 3))
    pss_nil)))), ?_⟩
  have hm := many_in c
  have hs := spells_in c
  have hc := cap_in c
  refine gs_asg (d := .int (manyZ c : Nat)) (Gd.is (gd_i0 gd_int (gd_call (ga_cons gd_var (ga_cons gd_int (ga_cons gd_int ga_nil))) ⟨c, 0, 3, rfl, by omega, by omega, by omega, by omega, rfl⟩)) (by rw [hm.2.2])) ?_
  refine gs_asgL (ds := []) (gl_lst ga_nil) ?_
  refine gs_for (is := [4]) (gi_range1 (hi := 1 + drawZ c 1 2) (ga_cons (gd_i0 gd_int (gd_call (ga_cons gd_var (ga_cons gd_int (ga_cons gd_int ga_nil))) ⟨c, 1, 2, rfl, by omega, by omega, by omega, by omega, rfl⟩)) ga_nil) (by omega)) (fun k D => D = [.v (.int c), .v (.int o), .v (.int (manyZ c : Nat)), .own (spD ((List.range k).map fun k => (turnsZ c k, wRowZ c o k))), .no, .no, .no]) rfl (fun k D1 d hd hI => ?_) (fun D1 hI => ?_)
  · subst hI
    obtain ⟨hk, rfl⟩ := get_rng hd
    have hk2 : k < 2 := by omega
    obtain ⟨hl, hrw⟩ := raw_mem c o k
    have ht := turns_in c k
    refine ⟨_, gg_name, gs_asgL (ds := (rawZ c o k).map PyData.int) (gl_lc (is := [6]) (gj_of (gi_range1 (hi := (manyZ c : Nat)) (ga_cons gd_var ga_nil) (by omega))) ?_ ?_ (by simp) fun j e he => ?_) ?_⟩
    · rw [List.length_map, List.length_map, List.length_range, hl]
      omega
    · rw [List.length_map, List.length_range]
      omega
    · obtain ⟨hj, rfl⟩ := get_rng he
      rw [Int.toNat_natCast] at hj
      refine ⟨_, .int (weightZ o (7 * (k : Nat) + (j : Nat))), gg_name, gd_call (ga_cons gd_var (ga_cons (gd_i0 (gd_i gd_int gd_var (cmul (by decide) (by omega))) gd_var) ga_nil)) ⟨o, 7 * (k : Nat) + (j : Nat), rfl, by omega, by omega, rfl⟩, ?_⟩
      unfold rawZ
      rw [List.getElem?_map, List.getElem?_map, List.getElem?_range hj] <;> rfl
    · refine gs_ifj (b := decide ((rawZ c o k).sum = 0)) (fun D' => D' = [.v (.int c), .v (.int o), .v (.int (manyZ c : Nat)), .own (spD ((List.range k).map fun k => (turnsZ c k, wRowZ c o k))), .v (.int (k : Nat)), .own ((wRowZ c o k).map PyData.int), .no]) (Gb.is (gb_test (gd_eqI (gd_sumO rfl) gd_int)) rfl) (fun h => ?_) (fun h => ?_) (fun D' hD => ?_)
      · have h := of_decide_eq_true h
        have dr := draw_in (c := o) (k := 30 + (k : Nat)) (b := manyZ c) (by omega)
        refine gs_setI (k := 5) (m := (drawZ o (30 + (k : Nat)) (manyZ c)).toNat) rfl gd_int (gd_call (ga_cons gd_var (ga_cons (gd_i0 gd_int gd_var) (ga_cons gd_var ga_nil))) ⟨o, 30 + (k : Nat), (manyZ c : Nat), rfl, by omega, by omega, by omega, by omega, rfl⟩) (by omega) (by rw [List.length_map]; omega) (gs_next (D' := [.v (.int c), .v (.int o), .v (.int (manyZ c : Nat)), .own (spD ((List.range k).map fun k => (turnsZ c k, wRowZ c o k))), .v (.int (k : Nat)), .own ((wRowZ c o k).map PyData.int), .no]) rfl ⟨.inr rfl, .inr rfl, .inr rfl, .inr rfl, .inr rfl, .inr ?_, .inr rfl, trivial⟩)
        unfold wRowZ
        rw [if_pos h, List.map_set]
      · have h := of_decide_eq_false h
        refine gs_next (D' := [.v (.int c), .v (.int o), .v (.int (manyZ c : Nat)), .own (spD ((List.range k).map fun k => (turnsZ c k, wRowZ c o k))), .v (.int (k : Nat)), .own ((wRowZ c o k).map PyData.int), .no]) rfl ⟨.inr rfl, .inr rfl, .inr rfl, .inr rfl, .inr rfl, .inr ?_, .inr rfl, trivial⟩
        unfold wRowZ
        rw [if_neg h]
      · subst hD
        refine gs_give 5 rfl (gs_app (k := 3) rfl (ga_cons (gd_tup (ga_cons (gd_i0 gd_int (gd_call (R := R_draw) (ds := [.int c, .int (2 + (k : Nat)), .int (capZ c)]) (ga_cons gd_var (ga_cons (gd_i0 gd_int gd_var) (ga_cons (gd_ixL (ds := [3, 3, 2].map PyData.int) (gd_new (gl_lst (ga_cons gd_int (ga_cons gd_int (ga_cons gd_int ga_nil))))) (gd_i0 gd_var gd_int) (atD (j := manyZ c - 1) (by omega) (ints_at (show manyZ c - 1 < 3 by omega)))) ga_nil))) ⟨c, 2 + (k : Nat), capZ c, rfl, by omega, by omega, by omega, by omega, rfl⟩)) (ga_cons gd_var ga_nil))) ga_nil) ?_ (gs_next (D' := [.v (.int c), .v (.int o), .v (.int (manyZ c : Nat)), .own (spD ((List.range (k + 1)).map fun k => (turnsZ c k, wRowZ c o k))), .no, .no, .no]) rfl ⟨.inr rfl, .inr rfl, .inr rfl, .inr ?_, .inl rfl, .inl rfl, .inr rfl, trivial⟩))
        · unfold spD
          rw [List.length_map, List.length_map, List.length_range]
          omega
        · unfold spD
          rw [List.range_succ, List.map_append, List.map_append, ← ht.2.2]
          rfl
  · subst hI
    rw [List.length_map, List.length_range]
    exact gs_ret gr_own rfl
end
end Du

namespace Du
open PySem PySem.Spec PyProof.Rows L2 LamX NdefX
/-- the mathematics that the law's walk asks for -/
structure LawMath : Prop where
  fair : ∀ (W : Int) (n : Nat) (T : List (List Int)) (d : PyData), OkLw W n T → Dues W n T → R_fair W n T d → ∃ (m : Int) (row : List Nat) (paper : PyData), leastZ W n T = some m ∧ d = .tuple [frD (fr W m), rowI row, paper] ∧ OkRow n T row ∧ worstZ (lagsZ W n T row) = m
  scaled : ∀ (W : Int) (n : Nat) (sp : List (Nat × List Int)) (o : Int), 1 ≤ o → Sp W n sp → (∀ p ∈ sp, p.2.sum * o ∣ W) → duesZ W n (sp.map fun p => (p.1, p.2.map (· * o))) = duesZ W n sp
  turned : ∀ (W : Int) (n : Nat) (sp : List (Nat × List Int)), Sp W n sp → duesZ W n (sp.map fun p => (p.1, p.2.reverse)) = (duesZ W n sp).map List.reverse
  turnedL : ∀ (W : Int) (n : Nat) (T : List (List Int)), OkLw W n T → leastZ W n (T.map List.reverse) = leastZ W n T
/-- a bottom for all the sums, times o -/
def prodZ (l : List Int) : Int := l.foldr (· * ·) 1
def Wof (sp : List (Nat × List Int)) (o : Int) : Int := prodZ (sp.map fun p => p.2.sum * o)
theorem prod_dvd {l : List Int} {x : Int} (h : x ∈ l) : x ∣ prodZ l := by
  induction l with
  | nil => cases h
  | cons a l ih =>
    show x ∣ a * prodZ l
    rcases List.mem_cons.mp h with z | z
    · rw [z]
      exact Int.dvd_mul_right ..
    · exact Int.dvd_mul_of_dvd_right (ih z)
theorem prod_pos {l : List Int} (h : ∀ x ∈ l, 0 < x) : 0 < prodZ l := by
  induction l with
  | nil => decide
  | cons a l ih => exact Int.mul_pos (h a (List.mem_cons_self ..)) (ih fun x hx => h x (List.mem_cons_of_mem _ hx))
theorem prod_le {l : List Int} (h : ∀ x ∈ l, 0 < x ∧ x ≤ 3000) (hl : l.length ≤ 2) : prodZ l ≤ 10000000 := by
  match l, hl with
  | [], _ => decide
  | [a], _ =>
    have := h a (by simp)
    show a * 1 ≤ _
    omega
  | [a, b], _ =>
    have h1 := h a (by simp)
    have h2 := h b (by simp)
    have : a * b ≤ 3000 * 3000 := Int.mul_le_mul h1.2 h2.2 (by omega) (by omega)
    show a * (b * 1) ≤ _
    rw [Int.mul_one]
    omega
theorem sum_le_k {l : List Int} {k : Int} (h : ∀ x ∈ l, x ≤ k) : l.sum ≤ k * l.length := by
  induction l with
  | nil => simp
  | cons a l ih =>
    have h1 := ih fun x hx => h x (List.mem_cons_of_mem _ hx)
    have h2 := h a (List.mem_cons_self ..)
    rw [List.sum_cons, List.length_cons, show ((l.length + 1 : Nat) : Int) = (l.length : Int) + 1 by omega, Int.mul_add, Int.mul_one]
    omega
theorem sum_mul (l : List Int) (o : Int) : (l.map (· * o)).sum = l.sum * o := by
  induction l with
  | nil => simp
  | cons a l ih => rw [List.map_cons, List.sum_cons, List.sum_cons, ih, Int.add_mul]
theorem sum_rev (l : List Int) : l.reverse.sum = l.sum := by
  induction l with
  | nil => rfl
  | cons a l ih =>
    rw [List.reverse_cons, List.sum_append, ih, List.sum_cons, List.sum_cons, List.sum_nil]
    omega
def moreS (o : Int) (sp : List (Nat × List Int)) : List (Nat × List Int) := sp.map fun p => (p.1, p.2.map fun x => if x * o < 1000 then x * o else 1000)
def turnS (sp : List (Nat × List Int)) : List (Nat × List Int) := sp.map fun p => (p.1, p.2.reverse)
def spLaw (K : PySem.W.Frag) (Pt : Addr) : L2.Sp := fun vs H Q _ => ∃ (a : Addr) (ns : List Int), vs = [.ref a] ∧ SqL K H a (ns.map V.int) ∧ Tabs [(Pt, lamQ)] H ∧ ∀ H', Q (.bl true) H'
theorem sqL_ext {K : PySem.W.Frag} {H H' : Hp} {a : Addr} {xs : List V} (h : SqL K H a xs) (e : ExtN H H') : SqL K H' a xs := by
  rcases h with (h | ⟨o, h⟩) | h
  · exact .inl (.inl (e _ _ h (fun _ z => nomatch z)))
  · exact .inl (.inr ⟨o, e _ _ h (fun _ z => nomatch z)⟩)
  · exact .inr h
section
variable {K : PySem.W.Frag} {C Pt : Addr} {S S0 : Addr → Prop} {H0 H : Hp} {D : List Sl} {st : L2.St} {E : Ends} {tz t : TS}
theorem go_small {a : Addr} {ns : List Int} {E1 E2 E3 : XK} (h0 : st[0]? = some (some (.ref a))) (hs : SqL K H a (ns.map V.int)) (k : ∀ v H1, Same H H1 → At K C H1 v (.list (spD (smallZ (ns.getD 0 0) (ns.getD 1 0)))) → tz E (st.set 1 (some v)) H1) :
    tSeq (tAsg (tCall (spR K C R_small) [] E1 (tCons (tCall (spCell K) [] E2 (tCons (tVar 0) (tCons (tC (.int 0)) tNil))) (tCons (tCall (spCell K) [] E3 (tCons (tVar 0) (tCons (tC (.int 1)) tNil))) tNil))) (gName 1)) tz E st H := by
  refine ⟨.ref a, h0, a, ns, 0, rfl, hs, fun H1 e1 => ⟨.ref a, h0, a, ns, 1, rfl, sqL_ext hs (ExtN.of e1), fun H2 e2 => ⟨F0, [.int (ns.getD 0 0), .int (ns.getD 1 0)], _, fun _ z => z.elim, .cons (.int _) (.cons (.int _) .nil), ⟨_, _, rfl, rfl⟩, fun v H3 e3 a3 => ?_⟩⟩⟩
  rw [hid0] at a3
  exact k v H3 (e1.trans (e2.trans e3)) a3
theorem go_often {a : Addr} {ns : List Int} {E1 E2 : XK} (h0 : st[0]? = some (some (.ref a))) (hs : SqL K H a (ns.map V.int)) (k : ∀ H1, Same H H1 → tz E (st.set 4 (some (.int (1 + drawZ (ns.getD 2 0) 0 3)))) H1) :
    tSeq (tAsg (tOp (rI0 fun i j => .int (i + j)) (tC (.int 1)) (tCall (spR K C R_draw) [] E1 (tCons (tCall (spCell K) [] E2 (tCons (tVar 0) (tCons (tC (.int 2)) tNil))) (tCons (tC (.int 0)) (tCons (tC (.int 3)) tNil))))) (gName 4)) tz E st H := by
  refine ⟨.ref a, h0, a, ns, 2, rfl, hs, fun H1 e1 => ⟨F0, [.int (ns.getD 2 0), .int 0, .int 3], _, fun _ z => z.elim, .cons (.int _) (.cons (.int _) (.cons (.int _) .nil)), ⟨_, _, _, rfl, by decide, by decide, by decide, by decide, rfl⟩, fun v H3 e3 a3 => ?_⟩⟩
  cases a3
  exact ⟨1, _, rfl, rfl, k H3 (e1.trans e3)⟩
theorem go_if0 {tc : TT} (hc : Gb K C tc D false) (c : Conc K C S0 H0 S D st H) (k : ∀ H1, Same H H1 → Conc K C S0 H0 S D st H1 → tz E st H1) : tSeq (tIfS tc t tNext) tz E st H :=
  hc S0 H0 S st H c _ fun H1 e1 => iteF (k H1 e1 (c.up e1))
variable {W : Int} {n : Nat} {sp : List (Nat × List Int)} {tp : TE}
theorem go_fair {Q : VK} {E1 : XK} (he : Gd K C tp D (planD W n sp)) (c : Conc K C F0 H0 F0 D st H) (hS : OkS n sp) (hQ : Sp W n sp) (hW : W ≤ 10000000) (hT : Tabs [(Pt, lamQ)] H)
    (k : ∀ d u H', R_fair W n (duesZ W n sp) d → ExtN H H' → Tabs [(Pt, lamQ)] H' → At K C H' u d → Q u H') : tCall (spFair K C Pt) [] E1 (tCons tp tNil) st H Q :=
  he F0 H0 F0 st H c _ fun v H1 e1 a1 => ⟨v, W, n, sp, rfl, by rw [hid0] at a1; exact a1, hS, hQ, hW, hT.ext e1, fun d u H' r e t a => k d u H' r ((ExtN.of e1).trans e) t a⟩
theorem go_asgF {i : Nat} {E1 : XK} (he : Gd K C tp D (planD W n sp)) (c : Conc K C F0 H0 F0 D st H) (hS : OkS n sp) (hQ : Sp W n sp) (hW : W ≤ 10000000) (hT : Tabs [(Pt, lamQ)] H)
    (k : ∀ d u H', R_fair W n (duesZ W n sp) d → ExtN H H' → Tabs [(Pt, lamQ)] H' → At K C H' u d → tz E (st.set i (some u)) H') : tSeq (tAsg (tCall (spFair K C Pt) [] E1 (tCons tp tNil)) (gName i)) tz E st H :=
  go_fair he c hS hQ hW hT k
theorem go_fair2 {r : R2} {Q : VK} {E1 : XK} {q : Int × Int} {vd : V} (he : Gd K C tp D (planD W n sp)) (c : Conc K C F0 H0 F0 D st H) (hS : OkS n sp) (hQ : Sp W n sp) (hW : W ≤ 10000000) (hT : Tabs [(Pt, lamQ)] H) (h2 : st[2]? = some (some vd)) (ad : At K C H vd (frD q))
    (hf : ∀ d, R_fair W n (duesZ W n sp) d → ∃ x y, d = .tuple [frD q, x, y]) (k : ∀ v H', ExtN H H' → Tabs [(Pt, lamQ)] H' → At K C H' v (frD q) → At K C H' vd (frD q) → r v vd H' Q) :
    tOp r (tOp (rIxT K) (tCall (spFair K C Pt) [] E1 (tCons tp tNil)) (tC (.int 0))) (tVar 2) st H Q := by
  refine go_fair he c hS hQ hW hT fun d u H' hd eN hT' au => ?_
  obtain ⟨x, y, rfl⟩ := hf d hd
  cases au with
  | tup hl hs =>
    cases hs with
    | cons a1 _ => exact ⟨_, _, 0, _, rfl, rfl, hl, atI_nat (j := 0) rfl, vd, h2, k _ H' eN hT' a1 (ad.mono eN)⟩
theorem ne_frD {v u : V} {q : Int × Int} {Q : VK} (a : At K C H v (frD q)) (b : At K C H u (frD q)) (k : Q (.bl false) H) : rNeD K v u H Q :=
  ⟨frD q, frD q, At.dp (Same.refl H) a rfl, At.dp (Same.refl H) b rfl, rfl, rfl, by rw [eqv_frD, decide_eq_true rfl]; exact k⟩
theorem eq_frD {v u : V} {q : Int × Int} {Q : VK} (a : At K C H v (frD q)) (b : At K C H u (frD q)) (k : Q (.bl true) H) : rEqD K v u H Q :=
  ⟨frD q, frD q, At.dp (Same.refl H) a rfl, At.dp (Same.refl H) b rfl, rfl, rfl, by rw [eqv_frD, decide_eq_true rfl]; exact k⟩
end
section
variable {K : PySem.W.Frag} {C Pt : Addr} {S S0 : Addr → Prop} {H0 H : Hp} {D : List Sl} {st : L2.St} {E : Ends} {tz t : TS} {W : Int} {n : Nat} {sp : List (Nat × List Int)} {tp : TE}
theorem go_ret9 {E1 : XK} {q : Int × Int} {vd : V} (he : Gd K C tp D (planD W n sp)) (c : Conc K C F0 H0 F0 D st H) (hS : OkS n sp) (hQ : Sp W n sp) (hW : W ≤ 10000000) (hT : Tabs [(Pt, lamQ)] H) (h2 : st[2]? = some (some vd)) (ad : At K C H vd (frD q))
    (hf : ∀ d, R_fair W n (duesZ W n sp) d → ∃ x y, d = .tuple [frD q, x, y]) (k : ∀ H', E.rt (.bl true) H') :
    tSeq (tRet (tOp (rEqD K) (tOp (rIxT K) (tCall (spFair K C Pt) [] E1 (tCons tp tNil)) (tC (.int 0))) (tVar 2))) tz E st H :=
  go_fair2 he c hS hQ hW hT h2 ad hf fun v H' _ _ a b => eq_frD a b (k H')
theorem go_ifand {t1 t2 : TT} {b : Bool} (h1 : Gb K C t1 D b) (c : Conc K C S0 H0 S D st H) (k0 : b = false → ∀ H1, Same H H1 → tz E st H1) (k1 : b = true → ∀ H1, Same H H1 → Conc K C S0 H0 S D st H1 → t2 st H1 fun b H2 => if b = true then t { E with nx := tz E } st H2 else tNext { E with nx := tz E } st H2) :
    tSeq (tIfS (tAnd t1 t2) t tNext) tz E st H := h1 S0 H0 S st H c _ fun H1 e1 => by
  cases b with
  | false => exact iteF (iteF (k0 rfl H1 e1))
  | true => exact iteT (k1 rfl H1 e1 (c.up e1))
end
def maxL (l : List Int) : Int := l.foldr (fun a m => if m < a then a else m) 0
theorem max_ge {l : List Int} {x : Int} (h : x ∈ l) : x ≤ maxL l := by
  induction l with
  | nil => cases h
  | cons a l ih =>
    show x ≤ if maxL l < a then a else maxL l
    rcases List.mem_cons.mp h with z | z
    · split <;> omega
    · have := ih z
      split <;> omega
theorem max_mem (l : List Int) : maxL l ∈ l ∨ maxL l = 0 := by
  induction l with
  | nil => exact .inr rfl
  | cons a l ih =>
    have e : maxL (a :: l) = if maxL l < a then a else maxL l := rfl
    rw [e]
    split
    · exact .inl (List.mem_cons_self ..)
    · rcases ih with z | z
      · exact .inl (List.mem_cons_of_mem _ z)
      · exact .inr z
theorem max_is {l : List Int} (hn : ∀ x ∈ l, 0 ≤ x) : ∀ x, x ∈ l → (∀ y, y ∈ l → y ≤ x) → x = maxL l := fun x hx h => by
  have h1 := max_ge hx
  have h2 := hn x hx
  rcases max_mem l with z | z
  · have := h _ z
    omega
  · omega
theorem max_nn (l : List Int) (h : ∀ x ∈ l, 0 ≤ x) : 0 ≤ maxL l := by
  rcases max_mem l with z | z
  · exact h _ z
  · omega
def topW (sp : List (Nat × List Int)) : Int := maxL (sp.map fun p => maxL p.2)
theorem OkS.sums {n : Nat} {sp : List (Nat × List Int)} (h : OkS n sp) {o k : Int} (ho : 1 ≤ o) (hk : ∀ p ∈ sp, ∀ x ∈ p.2, x * o ≤ k) (hk3 : k ≤ 1000) : ∀ p ∈ sp, 0 < p.2.sum * o ∧ p.2.sum * o ≤ 3000 := fun p hp => by
  have hw := h.w p hp
  refine ⟨Int.mul_pos hw.s (by omega), ?_⟩
  rw [← sum_mul]
  have := sum_le_k (l := p.2.map (· * o)) (k := k) fun x hx => by
    obtain ⟨y, hy, rfl⟩ := List.mem_map.mp hx
    exact hk p hp y hy
  rw [List.length_map] at this
  have l3 := hw.l
  have : k * (p.2.length : Int) ≤ 1000 * 3 := by
    rcases Int.le_total 0 k with z | z
    · exact Int.mul_le_mul hk3 (by omega) (by omega) (by omega)
    · have : k * (p.2.length : Int) ≤ 0 := Int.mul_nonpos_of_nonpos_of_nonneg z (by omega)
      omega
  omega
theorem wof_ok {n : Nat} {sp : List (Nat × List Int)} (h : OkS n sp) {o k : Int} (ho : 1 ≤ o) (hk : ∀ p ∈ sp, ∀ x ∈ p.2, x * o ≤ k) (hk3 : k ≤ 1000) : Sp (Wof sp o) n sp ∧ Wof sp o ≤ 10000000 ∧ ∀ p ∈ sp, p.2.sum * o ∣ Wof sp o := by
  have hs := h.sums ho hk hk3
  have hd : ∀ p ∈ sp, p.2.sum * o ∣ Wof sp o := fun p hp => prod_dvd (List.mem_map.mpr ⟨p, hp, rfl⟩)
  refine ⟨⟨h.n, fun p hp x hx => ((h.w p hp).w x hx).1, fun p hp => (h.w p hp).s, fun p hp => Int.dvd_trans (Int.dvd_mul_right ..) (hd p hp), prod_pos fun x hx => ?_⟩, prod_le (fun x hx => ?_) (by rw [List.length_map]; exact h.l.2), hd⟩
  · obtain ⟨p, hp, rfl⟩ := List.mem_map.mp hx
    exact (hs p hp).1
  · obtain ⟨p, hp, rfl⟩ := List.mem_map.mp hx
    exact hs p hp
theorem turn_ok {W : Int} {n : Nat} {sp : List (Nat × List Int)} (h : OkS n sp) (q : Sp W n sp) : OkS n (turnS sp) ∧ Sp W n (turnS sp) := by
  have mm : ∀ p ∈ turnS sp, ∃ r ∈ sp, p = (r.1, r.2.reverse) := fun p hp => by
    obtain ⟨r, hr, e⟩ := List.mem_map.mp hp
    exact ⟨r, hr, e.symm⟩
  refine ⟨⟨by unfold turnS; rw [List.length_map]; exact h.l, fun p hp => ?_, fun p hp => ?_, fun p hp => ?_⟩, ⟨fun p hp => ?_, fun p hp => ?_, fun p hp => ?_, fun p hp => ?_, q.W⟩⟩
  all_goals obtain ⟨r, hr, rfl⟩ := mm p hp
  · exact h.t r hr
  · have w := h.w r hr
    exact ⟨by rw [List.length_reverse]; exact w.l, fun x hx => w.w x (List.mem_reverse.mp hx), by rw [sum_rev]; exact w.s⟩
  · rw [List.length_reverse]
    exact h.n r hr
  · rw [List.length_reverse]
    exact q.len r hr
  · exact fun x hx => q.w r hr x (List.mem_reverse.mp hx)
  · rw [sum_rev]
    exact q.s r hr
  · rw [sum_rev]
    exact q.d r hr
theorem more_is {o : Int} {sp : List (Nat × List Int)} (h : ∀ p ∈ sp, ∀ x ∈ p.2, x * o ≤ 1000) : moreS o sp = sp.map fun p => (p.1, p.2.map (· * o)) := by
  unfold moreS
  refine List.map_congr_left fun p hp => ?_
  congr 1
  refine List.map_congr_left fun x hx => ?_
  have := h p hp x hx
  split <;> omega
theorem more_ok {W o : Int} {n : Nat} {sp : List (Nat × List Int)} (h : OkS n sp) (q : Sp W n sp) (ho : 1 ≤ o) (hk : ∀ p ∈ sp, ∀ x ∈ p.2, x * o ≤ 1000) (hd : ∀ p ∈ sp, p.2.sum * o ∣ W) : OkS n (moreS o sp) ∧ Sp W n (moreS o sp) := by
  rw [more_is hk]
  have mm : ∀ p ∈ sp.map (fun p => (p.1, p.2.map (· * o))), ∃ r ∈ sp, p = (r.1, r.2.map (· * o)) := fun p hp => by
    obtain ⟨r, hr, e⟩ := List.mem_map.mp hp
    exact ⟨r, hr, e.symm⟩
  have pos : ∀ r ∈ sp, ∀ x ∈ r.2.map (· * o), 0 ≤ x ∧ x ≤ 1000 := fun r hr x hx => by
    obtain ⟨y, hy, rfl⟩ := List.mem_map.mp hx
    exact ⟨Int.mul_nonneg ((h.w r hr).w y hy).1 (by omega), hk r hr y hy⟩
  refine ⟨⟨by rw [List.length_map]; exact h.l, fun p hp => ?_, fun p hp => ?_, fun p hp => ?_⟩, ⟨fun p hp => ?_, fun p hp => ?_, fun p hp => ?_, fun p hp => ?_, q.W⟩⟩
  all_goals obtain ⟨r, hr, rfl⟩ := mm p hp
  · exact h.t r hr
  · have w := h.w r hr
    exact ⟨by rw [List.length_map]; exact w.l, pos r hr, by rw [sum_mul]; exact Int.mul_pos w.s (by omega)⟩
  · rw [List.length_map]
    exact h.n r hr
  · rw [List.length_map]
    exact q.len r hr
  · exact fun x hx => (pos r hr x hx).1
  · rw [sum_mul]
    exact Int.mul_pos (q.s r hr) (by omega)
  · rw [sum_mul]
    exact hd r hr
section
variable {P : Program} {w : World} {K : PySem.W.Frag} {mg : Str → Option Value} {base : Heap} {fd : Str → FuncData} {C : Addr}
abbrev stL (a : Addr) (v1 : V) : L2.St := (L2.start ["_law_script", "_law_spells", "_law_due", "_law_found", "_law_often", "_law_more", "_law_turned", "_law_turns", "_law_weights", "_law_weight_here"] [.ref a]).set 1 (some v1)
theorem ok_law (MT : LawMath) (T : Tx K mg fd C) {c Pt : Addr} (TB : TabB base mg c Pt) (hc : (fd "fairest").code = .ref c) : FnOk P w K mg base CX0 15 (He.ga K "law") (fd "law") ["_law_script"] (spLaw K Pt) := by
  refine T.F_law.ok sc_law (fun vs H Q E h => by obtain ⟨_, _, rfl, _⟩ := h; rfl) fun cdv A outer s H vs Q E hr hsp => ?_
  obtain ⟨a, ns, rfl, hs, hT, hq⟩ := hsp
  have G__law_small := ok_small (P := P) (w := w) (base := base) T
  have G__law_cell_at := ok_cell (P := P) (w := w) (base := base) T
  have G__law_least := ok_least (P := P) (w := w) (base := base) T
  have G__law_dues := ok_ldues (P := P) (w := w) (base := base) T
  have G__law_worst := ok_worst (P := P) (w := w) (base := base) T
  have G__law_draw := ok_draw (P := P) (w := w) (base := base) T
  have G_init := ok_init (P := P) (w := w) (base := base) T
  have G_fairest := ok_fairest (P := P) (w := w) (base := base) T TB hc
  refine ⟨_, (pss_cons (ps_set (i := 1) sc_law.nd rfl (.inl rfl) (pe_call G__law_small (hr.mono (by decide)) (by rfl) T.m__law_small T.F__law_small.kp T.b__law_small .nil pass0 (pa_cons (pe_call G__law_cell_at (hr.mono (by decide)) (by rfl) T.m__law_cell_at T.F__law_cell_at.kp T.b__law_cell_at .nil pass0 (pa_cons (pv 0) (pa_cons pe_int pa_nil))) (pa_cons (pe_call G__law_cell_at (hr.mono (by decide)) (by rfl) T.m__law_cell_at T.F__law_cell_at.kp T.b__law_cell_at .nil pass0 (pa_cons (pv 0) (pa_cons pe_int pa_nil))) pa_nil))))
    (pss_cons (ps_set (i := 2) sc_law.nd rfl (.inl rfl) (pe_call G__law_least (hr.mono (by decide)) (by rfl) T.m__law_least T.F__law_least.kp T.b__law_least .nil pass0 (pa_cons (pe_call G__law_dues (hr.mono (by decide)) (by rfl) T.m__law_dues T.F__law_dues.kp T.b__law_dues .nil pass0 (pa_cons (pv 1) pa_nil)) pa_nil)))
    (pss_cons (ps_set (i := 3) sc_law.nd rfl (.inl rfl) (pe_call G_fairest (hr.mono (by decide)) (by rfl) T.m_fairest T.F_fairest.kp T.b_fairest .nil pass0 (pa_cons (pe_make T.mkC G_init (hr.mono (by decide)) (by rfl) T.m_Plan T.b___init__ .nil pass0 (pa_cons (pv 1) pa_nil)) pa_nil)))
    (pss_cons (ps_if (PW.pt (pw_or (pt_cmpR (op_neD hr.units) (pe_ix (ix_tupK K) (pv 3) pe_int (fun _ _ => rfl)) (pv 2) (nomark _)) (pw_or1 (pt_cmpR (op_neD hr.units) (pe_call G__law_worst (hr.mono (by decide)) (by rfl) T.m__law_worst T.F__law_worst.kp T.b__law_worst .nil pass0 (pa_cons (pe_call G__law_dues (hr.mono (by decide)) (by rfl) T.m__law_dues T.F__law_dues.kp T.b__law_dues .nil pass0 (pa_cons (pv 1) pa_nil)) (pa_cons (pe_ix (ix_tupK K) (pv 3) pe_int (fun _ _ => rfl)) pa_nil))) (pv 2) (nomark _)))))
    (pss_cons (ps_ret pe_bl)
    pss_nil)
    pss_nil)
    (pss_cons (ps_set (i := 4) sc_law.nd rfl (.inr rfl) (pe_op op_add pe_int (pe_call G__law_draw (hr.mono (by decide)) (by rfl) T.m__law_draw T.F__law_draw.kp T.b__law_draw .nil pass0 (pa_cons (pe_call G__law_cell_at (hr.mono (by decide)) (by rfl) T.m__law_cell_at T.F__law_cell_at.kp T.b__law_cell_at .nil pass0 (pa_cons (pv 0) (pa_cons pe_int pa_nil))) (pa_cons pe_int (pa_cons pe_int pa_nil))))))
    (pss_cons (ps_setLc (i := 5) (own := [("_law_turns", 7), ("_law_weights", 8)]) rfl sc_law.nd rfl rfl (sw_true rfl rfl rfl (by decide +kernel)) (pi_listK K (pv 1)) (blkOk_by (by kernel_rfl)) (fun _ _ _ _ _ => (pg_tupK K (n := 2) rfl (pgs_cons (pg_name (i := 7) sc_law.nd rfl (.inl rfl)) (pgs_cons (pg_name (i := 8) sc_law.nd rfl (.inl rfl)) pgs_nil)))) (fun _ _ _ _ _ => pts_nil) (fun _ _ _ _ _ => (pe_tup (pa_cons (pv 7) (pa_cons (pe_lc (own := [("_law_weight_here", 9)]) rfl sc_law.nd (pi_listK K (pv 8)) (blkOk_by (by kernel_rfl)) (fun _ _ _ _ _ => (pg_name (i := 9) sc_law.nd rfl (.inl rfl))) (fun _ _ _ _ _ => pts_nil) (fun _ _ _ _ _ => (pe_callB (call_minT rfl) (by rfl) T.n_min (by decide +kernel) (pa_cons pe_int (pa_cons (pe_op op_mulW (pv 9) (pv 4)) pa_nil))))) pa_nil)))))
    (pss_cons (ps_setLc (i := 6) (own := [("_law_turns", 7), ("_law_weights", 8)]) rfl sc_law.nd rfl rfl (sw_true rfl rfl rfl (by decide +kernel)) (pi_listK K (pv 1)) (blkOk_by (by kernel_rfl)) (fun _ _ _ _ _ => (pg_tupK K (n := 2) rfl (pgs_cons (pg_name (i := 7) sc_law.nd rfl (.inl rfl)) (pgs_cons (pg_name (i := 8) sc_law.nd rfl (.inl rfl)) pgs_nil)))) (fun _ _ _ _ _ => pts_nil) (fun _ _ _ _ _ => (pe_tup (pa_cons (pv 7) (pa_cons (pe_revLK K (pv 8)) pa_nil)))))
    (pss_cons (ps_if (PW.pt (pw_and (pt_cmpR op_le (pe_op op_mulW (pe_callB (cr_maxK K rfl) (by rfl) T.n_max (by decide +kernel) (pa_cons (pe_lc (own := [("_law_turns", 7), ("_law_weights", 8)]) rfl sc_law.nd (pi_listK K (pv 1)) (blkOk_by (by kernel_rfl)) (fun _ _ _ _ _ => (pg_tupK K (n := 2) rfl (pgs_cons (pg_name (i := 7) sc_law.nd rfl (.inl rfl)) (pgs_cons (pg_name (i := 8) sc_law.nd rfl (.inl rfl)) pgs_nil)))) (fun _ _ _ _ _ => pts_nil) (fun _ _ _ _ _ => (pe_callB (cr_maxK K rfl) (by rfl) T.n_max (by decide +kernel) (pa_cons (pv 8) pa_nil)))) pa_nil)) (pv 4)) pe_int (nomark _)) (pw_and1 (pt_cmpR (op_neD hr.units) (pe_ix (ix_tupK K) (pe_call G_fairest (hr.mono (by decide)) (by rfl) T.m_fairest T.F_fairest.kp T.b_fairest .nil pass0 (pa_cons (pe_make T.mkC G_init (hr.mono (by decide)) (by rfl) T.m_Plan T.b___init__ .nil pass0 (pa_cons (pv 5) pa_nil)) pa_nil)) pe_int (fun _ _ => rfl)) (pv 2) (nomark _)))))
    (pss_cons (ps_ret pe_bl)
    pss_nil)
    pss_nil)
    (pss_cons (ps_ret (pe_cmpR (op_eqD hr.units) (pe_ix (ix_tupK K) (pe_call G_fairest (hr.mono (by decide)) (by rfl) T.m_fairest T.F_fairest.kp T.b_fairest .nil pass0 (pa_cons (pe_make T.mkC G_init (hr.mono (by decide)) (by rfl) T.m_Plan T.b___init__ .nil pass0 (pa_cons (pv 6) pa_nil)) pa_nil)) pe_int (fun _ _ => rfl)) (pv 2) (nomark _)))
    pss_nil))))))))), ?_⟩
  have hS := small_ok (ns.getD 0 0) (ns.getD 1 0)
  have few := small_few (ns.getD 0 0) (ns.getD 1 0)
  have nm := many_in (ns.getD 0 0)
  have ob := draw_in (c := ns.getD 2 0) (k := 0) (b := 3) (by decide)
  refine go_small (a := a) (ns := ns) rfl hs fun v1 H1 e1 a1 => ?_
  have hs := sqL_ext hs (ExtN.of e1)
  have hT := hT.ext e1
  generalize ho : 1 + drawZ (ns.getD 2 0) 0 3 = o
  have ho1 : 1 ≤ o := by omega
  have ho3 : o ≤ 3 := by omega
  generalize smallZ (ns.getD 0 0) (ns.getD 1 0) = sp at *
  generalize manyZ (ns.getD 0 0) = n at *
  have wnn : ∀ p ∈ sp, ∀ x ∈ p.2, 0 ≤ x := fun p hp x hx => ((hS.w p hp).w x hx).1
  have k1 : ∀ p ∈ sp, ∀ x ∈ p.2, x * 1 ≤ 1000 := fun p hp x hx => by have := ((hS.w p hp).w x hx).2; omega
  have tops : ∀ p ∈ sp, ∀ x ∈ p.2, x ≤ topW sp := fun p hp x hx => Int.le_trans (max_ge hx) (max_ge (List.mem_map.mpr ⟨p, hp, rfl⟩))
  have ko : topW sp * o ≤ 1000 → ∀ p ∈ sp, ∀ x ∈ p.2, x * o ≤ 1000 := fun h p hp x hx => Int.le_trans (Int.mul_le_mul_of_nonneg_right (tops p hp x hx) (by omega)) h
  obtain ⟨W, hQ, hW, hdo⟩ : ∃ W, Sp W n sp ∧ W ≤ 10000000 ∧ (topW sp * o ≤ 1000 → ∀ p ∈ sp, p.2.sum * o ∣ W) := by
    by_cases h : topW sp * o ≤ 1000
    · obtain ⟨x, y, z⟩ := wof_ok hS ho1 (ko h) (Int.le_refl 1000)
      exact ⟨_, x, y, fun _ => z⟩
    · obtain ⟨x, y, z⟩ := wof_ok hS (Int.le_refl 1) k1 (Int.le_refl 1000)
      exact ⟨_, x, y, fun q => absurd q h⟩
  have hW0 := hQ.W
  have hL : ∀ sp', OkS n sp' → Sp W n sp' → sp'.map (·.1) = sp.map (·.1) → OkLw W n (duesZ W n sp') ∧ Dues W n (duesZ W n sp') := fun sp' hS' hQ' et => by
    obtain ⟨hD, hDl⟩ := dues_ok hQ'
    have tl : (duesZ W n sp').length ≤ 7 := by
      have a := turns_le (sp := sp') fun q hq => (hS'.t q hq).2
      have := hS'.l
      omega
    refine ⟨⟨⟨hW0, hW⟩, fun r hr X hX => ?_, ⟨hD.len, tl⟩, ⟨nm.1, nm.2.1⟩, hD.row, ?_⟩, hD⟩
    · have b := hD.bound hW0 hr hX
      have : ((duesZ W n sp').length : Int) * W ≤ 7 * 10000000 := Int.mul_le_mul (by omega) hW (by omega) (by omega)
      omega
    · rw [hDl, Nat.add_sub_cancel_left, et]
      exact few
  obtain ⟨L1, D1⟩ := hL sp hS hQ rfl
  obtain ⟨tS, tQ⟩ := turn_ok hS hQ
  obtain ⟨LT, DT⟩ := hL (turnS sp) tS tQ (by unfold turnS; rw [List.map_map] <;> rfl)
  have c1 : Conc K C F0 H1 F0 [.no, .v (.list (spD sp)), .no, .no, .no, .no, .no, .no, .no, .no] (stL a v1) H1 := Fits.conc0 ⟨⟨_, rfl, a1⟩, trivial⟩
  refine go_asg (gd_call (d := optF W (leastZ W n (duesZ W n sp))) (ga_cons (gd_call (ga_cons gd_var ga_nil) ⟨W, n, sp, rfl, hS, hQ, hW, rfl⟩) ga_nil) ⟨W, n, duesZ W n sp, rfl, L1, rfl⟩) c1 fun v2 H2 e2 a2 c2 => ?_
  rw [hid0] at a2
  have gp : ∀ (D : List Sl) (i : Nat) (sp' : List (Nat × List Int)), D[i]? = some (.v (.list (spD sp'))) → OkS n sp' → Sp W n sp' → Gd K C (tMake C (spInit K C) [] E0 (tCons (tVar i) tNil)) D (planD W n sp') := fun D i sp' h1 h2 h3 => gd_plan (gd_var h1) h2 h3 hW
  refine go_asgF (Pt := Pt) (gp _ 1 sp rfl hS hQ) (Fits.conc0 ⟨⟨_, rfl, a1.up e2⟩, ⟨_, rfl, a2⟩, trivial⟩ : Conc K C F0 H2 F0 [.no, .v (.list (spD sp)), .v (optF W (leastZ W n (duesZ W n sp))), .no, .no, .no, .no, .no, .no, .no] ((stL a v1).set 2 (some v2)) H2) hS hQ hW (hT.ext e2) fun d3 v3 H3 r3 eN3 hT3 a3 => ?_
  obtain ⟨m, row, paper, hm, rfl, hrow, hw⟩ := MT.fair W n (duesZ W n sp) d3 L1 D1 r3
  rw [hm] at a2
  have a1 := (a1.up e2).mono eN3
  have a2 := a2.mono eN3
  have hs := sqL_ext (sqL_ext hs (ExtN.of e2)) eN3
  have fair' : ∀ T', leastZ W n T' = some m → OkLw W n T' → Dues W n T' → ∀ d, R_fair W n T' d → ∃ x y, d = .tuple [frD (fr W m), x, y] := fun T' h1 h2 h3 d hd => by
    obtain ⟨m', row', paper', hm', rfl, _⟩ := MT.fair W n T' d h2 h3 hd
    rw [h1] at hm'
    cases hm'
    exact ⟨_, _, rfl⟩
  have c3 : Conc K C F0 H3 F0 [.no, .v (.list (spD sp)), .v (frD (fr W m)), .v (.tuple [frD (fr W m), rowI row, paper]), .no, .no, .no, .no, .no, .no] (((stL a v1).set 2 (some v2)).set 3 (some v3)) H3 := Fits.conc0 ⟨⟨_, rfl, a1⟩, ⟨_, rfl, a2⟩, ⟨_, rfl, a3⟩, trivial⟩
  refine go_if0 (Gb.is (gb_or (b := false) (Gb.is (gb_test (gr_neD (gr_of (gd_ixT gd_var gd_int (d := frD (fr W m)) rfl)) (gr_of (gd_var (d := frD (fr W m)))) (eqOk_frD _) (eqOk_frD _))) ?_) (fun _ => gb_test (gr_neD (gr_of (gd_call (ga_cons (gd_call (ga_cons gd_var ga_nil) ⟨W, n, sp, rfl, hS, hQ, hW, rfl⟩) (ga_cons (gd_ixT gd_var gd_int (d := rowI row) rfl) ga_nil)) ⟨W, n, duesZ W n sp, row, rfl, L1, hrow, rfl⟩)) (gr_of (gd_var (d := frD (fr W m)))) (eqOk_frD _) (eqOk_frD _)))) ?_) c3 fun H4 e4 c4 => ?_
  · rw [eqv_frD, decide_eq_true rfl] <;> rfl
  · rw [hw, eqv_frD, decide_eq_true rfl] <;> rfl
  refine go_often (a := a) (ns := ns) rfl (sqL_ext hs (ExtN.of e4)) fun H5 e5 => ?_
  rw [ho]
  have c5 : Conc K C F0 H5 F0 [.no, .v (.list (spD sp)), .v (frD (fr W m)), .no, .v (.int o), .no, .no, .no, .no, .no] ((((stL a v1).set 2 (some v2)).set 3 (some v3)).set 4 (some (.int o))) H5 := Fits.conc0 ⟨⟨_, rfl, (a1.up e4).up e5⟩, ⟨_, rfl, (a2.up e4).up e5⟩, ⟨_, rfl, .int o⟩, trivial⟩
  refine go_asg (d := .list (spD (moreS o sp))) (gd_new (gl_lc (is := [7, 8]) (xs := spD sp) (rs := spD (moreS o sp)) (gj_of (gi_list gd_var)) (by unfold spD moreS; rw [List.length_map, List.length_map, List.length_map]) (by unfold spD; rw [List.length_map]; have := hS.l; omega) (by simp) fun i d hd => ?_)) c5 fun v6 H6 e6 a6 c6 => ?_
  · unfold spD at hd
    rw [List.getElem?_map] at hd
    obtain ⟨p, hp, rfl⟩ := Option.map_eq_some_iff.mp hd
    have hw := hS.w p (List.mem_of_getElem? hp)
    refine ⟨_, .tuple [.int (p.1 : Nat), .list (wD (p.2.map fun x => if x * o < 1000 then x * o else 1000))], gg_two, gd_tup (ga_cons gd_var (ga_cons (gd_new (gl_lc (is := [9]) (xs := wD p.2) (gj_of (gi_list gd_var)) (by unfold wD; rw [List.length_map, List.length_map, List.length_map]) (by unfold wD; rw [List.length_map]; have := hw.l; omega) (by simp) fun j e he => ?_)) ga_nil)), ?_⟩
    · unfold wD at he
      rw [List.getElem?_map] at he
      obtain ⟨x, hx, rfl⟩ := Option.map_eq_some_iff.mp he
      have xb := hw.w x (List.mem_of_getElem? hx)
      refine ⟨_, .int (if x * o < 1000 then x * o else 1000), gg_name, gd_min2 gd_int (gd_i gd_var gd_var (cmul (by omega) (by omega))), ?_⟩
      unfold wD
      rw [List.getElem?_map, List.getElem?_map, hx] <;> rfl
    · unfold spD moreS
      rw [List.getElem?_map, List.getElem?_map, hp] <;> rfl
  refine go_asg (d := .list (spD (turnS sp))) (gd_new (gl_lc (is := [7, 8]) (xs := spD sp) (rs := spD (turnS sp)) (gj_of (gi_list gd_var)) (by unfold spD turnS; rw [List.length_map, List.length_map, List.length_map]) (by unfold spD; rw [List.length_map]; have := hS.l; omega) (by simp) fun i d hd => ?_)) c6 fun v7 H7 e7 a7 c7 => ?_
  · unfold spD at hd
    rw [List.getElem?_map] at hd
    obtain ⟨p, hp, rfl⟩ := Option.map_eq_some_iff.mp hd
    refine ⟨_, .tuple [.int (p.1 : Nat), .list (wD p.2).reverse], gg_two, gd_tup (ga_cons gd_var (ga_cons (gd_new (gl_rev (ds := wD p.2) gd_var)) ga_nil)), ?_⟩
    unfold spD turnS
    rw [List.getElem?_map, List.getElem?_map, hp]
    unfold wD
    rw [← List.map_reverse]
    rfl
  rw [hid0] at a6 a7
  have a2 := (((a2.up e4).up e5).up e6).up e7
  have hT7 : Tabs [(Pt, lamQ)] H7 := ((hT3.ext e4).ext e5).ext (e6.trans e7)
  have last : ∀ H8, ExtN H7 H8 → Tabs [(Pt, lamQ)] H8 → ∀ (tz : TS) (E : Ends) (E1 : XK), (∀ H', E.rt (.bl true) H') → tSeq (tRet (tOp (rEqD K) (tOp (rIxT K) (tCall (spFair K C Pt) [] E1 (tCons (tMake C (spInit K C) [] E0 (tCons (tVar 6) tNil)) tNil)) (tC (.int 0))) (tVar 2))) tz E
      ((((((stL a v1).set 2 (some v2)).set 3 (some v3)).set 4 (some (.int o))).set 5 (some v6)).set 6 (some v7)) H8 := fun H8 eN hT8 tz E E1 hE => by
    refine go_ret9 (W := W) (n := n) (vd := v2) (gp [.no, .no, .no, .no, .no, .no, .v (.list (spD (turnS sp))), .no, .no, .no] 6 (turnS sp) rfl tS tQ) (Fits.conc0 ⟨⟨_, rfl, a7.mono eN⟩, trivial⟩) tS tQ hW hT8 rfl (a2.mono eN) (fair' _ ?_ LT DT) hE
    have et : duesZ W n (turnS sp) = (duesZ W n sp).map List.reverse := MT.turned W n sp hQ
    rw [et, MT.turnedL W n _ L1]
    exact hm
  refine go_ifand (b := decide (topW sp * o ≤ 1000)) (gb_test (gd_b0 (gd_i (gd_max (ns := sp.map fun p => maxL p.2) (m := topW sp) (gd_new (gl_lc (is := [7, 8]) (xs := spD sp) (rs := (sp.map fun p => maxL p.2).map PyData.int) (gj_of (gi_list gd_var)) (by unfold spD; rw [List.length_map, List.length_map, List.length_map]) (by unfold spD; rw [List.length_map]; have := hS.l; omega) (by simp) fun i d hd => ?_)) (by rw [List.length_map]; have := hS.l; omega) (max_is fun x hx => ?_)) gd_var (cmul ?_ (by omega))) gd_int)) c7 (fun _ H8 e8 => last H8 (ExtN.of e8) (hT7.ext e8) _ _ _ hq) (fun hb H8 e8 c8 => ?_)
  · unfold spD at hd
    rw [List.getElem?_map] at hd
    obtain ⟨p, hp, rfl⟩ := Option.map_eq_some_iff.mp hd
    have pm := List.mem_of_getElem? hp
    have hw := hS.w p pm
    refine ⟨_, .int (maxL p.2), gg_two, gd_max (ns := p.2) gd_var (by have := hw.l; omega) (max_is fun x hx => (hw.w x hx).1), ?_⟩
    rw [List.getElem?_map, List.getElem?_map, hp] <;> rfl
  · obtain ⟨p, hp, rfl⟩ := List.mem_map.mp hx
    exact max_nn _ (wnn p hp)
  · have t0 : 0 ≤ topW sp := max_nn _ fun x hx => by
      obtain ⟨p, hp, rfl⟩ := List.mem_map.mp hx
      exact max_nn _ (wnn p hp)
    have t1 : topW sp ≤ 1000 := by
      rcases max_mem (sp.map fun p => maxL p.2) with z | z
      · obtain ⟨p, hp, e⟩ := List.mem_map.mp z
        unfold topW
        rw [← e]
        rcases max_mem p.2 with y | y
        · exact ((hS.w p hp).w _ y).2
        · omega
      · unfold topW
        omega
    omega
  · have hb := of_decide_eq_true hb
    obtain ⟨mS, mQ⟩ := more_ok hS hQ ho1 (ko hb) (hdo hb)
    have et : duesZ W n (moreS o sp) = duesZ W n sp := by
      rw [more_is (ko hb)]
      exact MT.scaled W n sp o ho1 hQ (hdo hb)
    refine go_fair2 (W := W) (n := n) (vd := v2) (gp [.no, .no, .no, .no, .no, .v (.list (spD (moreS o sp))), .no, .no, .no, .no] 5 (moreS o sp) rfl mS mQ) (Fits.conc0 ⟨⟨_, rfl, (a6.up e7).up e8⟩, trivial⟩) mS mQ hW (hT7.ext e8) rfl (a2.up e8) (by rw [et]; exact fair' _ hm L1 D1) fun v H9 eN hT9 av ad => ne_frD av ad ⟨false, rfl, iteF (last H9 ((ExtN.of e8).trans eN) hT9 _ _ _ hq)⟩
end
end Du

/-! Counts of rows; rows by whoever must be chosen soonest are found whenever there is one. -/
namespace Du
def cnt (row : List Nat) (i : Nat) : Int := (row.count i : Int)
theorem cnt_app (a b : List Nat) (i : Nat) : cnt (a ++ b) i = cnt a i + cnt b i := by
  unfold cnt
  rw [List.count_append]
  omega
theorem cnt_cons (x : Nat) (b : List Nat) (i : Nat) : cnt (x :: b) i = (if x = i then 1 else 0) + cnt b i := by
  unfold cnt
  rw [List.count_cons]
  by_cases h : x = i
  · rw [if_pos h, if_pos (by rw [h]; exact beq_self_eq_true i)]
    omega
  · rw [if_neg h, if_neg (by intro z; exact h (beq_iff_eq.mp z))]
    omega
theorem cnt_nil (i : Nat) : cnt [] i = 0 := rfl
theorem cnt_nn (a : List Nat) (i : Nat) : 0 ≤ cnt a i := by unfold cnt; omega
theorem cnt_no {a : List Nat} {i : Nat} (h : i ∉ a) : cnt a i = 0 := by
  unfold cnt
  rw [List.count_eq_zero.mpr h]
  rfl
theorem bump_get {cs : List Int} {i r : Nat} (hi : i < cs.length) : (bump cs r).getD i 0 = cs.getD i 0 + (if r = i then 1 else 0) := by
  unfold bump
  rw [List.getD_eq_getElem?_getD, List.getElem?_set]
  by_cases h : r = i
  · subst h
    rw [if_pos rfl, if_pos hi, if_pos rfl] <;> rfl
  · rw [if_neg h, if_neg h, ← List.getD_eq_getElem?_getD]
    omega
theorem bump_len (cs : List Int) (r : Nat) : (bump cs r).length = cs.length := List.length_set
theorem fold_get : ∀ (row : List Nat) (cs : List Int) (i : Nat), i < cs.length → (row.foldl bump cs).getD i 0 = cs.getD i 0 + cnt row i
  | [], cs, i, _ => by rw [cnt_nil]; simp
  | r :: row, cs, i, hi => by
    rw [List.foldl_cons, fold_get row _ i (by rw [bump_len]; exact hi), bump_get hi, cnt_cons]
    omega
theorem tally_get {n i : Nat} (row : List Nat) (hi : i < n) : (tallyZ n row).getD i 0 = cnt row i := by
  unfold tallyZ
  rw [fold_get row _ i (by rw [List.length_replicate]; exact hi), getD_lt (by rw [List.length_replicate]; exact hi), List.getElem_replicate]
  omega
/-! ### the rows that keep ranges -/
structure Feas (R : Rng) (n : Nat) (row : List Nat) : Prop where
  len : row.length + 1 = R.length
  mem : ∀ i ∈ row, i < n
  ok : ∀ t, t < R.length → ∀ i, i < n → lo R t i ≤ cnt (row.take t) i ∧ cnt (row.take t) i ≤ hi R t i
/-- counts never shrink -/
theorem cnt_take_le (row : List Nat) (i : Nat) {s t : Nat} (h : s ≤ t) : cnt (row.take s) i ≤ cnt (row.take t) i := by
  have e : row.take t = row.take s ++ (row.drop s).take (t - s) := by
    rw [← List.take_add]
    congr 1
    omega
  rw [e, cnt_app]
  have := cnt_nn ((row.drop s).take (t - s)) i
  omega
/-! ### deadlines -/
theorem must_spec {R : Rng} {w : Nat} {c : Int} : ∀ (k t : Nat), t + k = R.length → t ≤ mustBy R t w c ∧ mustBy R t w c ≤ R.length ∧ (∀ u, t ≤ u → u < mustBy R t w c → lo R u w ≤ c) ∧ (mustBy R t w c < R.length → c < lo R (mustBy R t w c) w)
  | 0, t, h => by
    have e : mustBy R t w c = t := must_end (by omega)
    rw [e]
    exact ⟨Nat.le_refl t, by omega, fun u h1 h2 => by omega, fun z => by omega⟩
  | k + 1, t, h => by
    have ih := must_spec (R := R) (w := w) (c := c) k (t + 1) (by omega)
    have e : mustBy R t w c = if c < lo R t w then t else mustBy R (t + 1) w c := must_step (by omega)
    by_cases hc : c < lo R t w
    · rw [if_pos hc] at e
      rw [e]
      exact ⟨Nat.le_refl t, by omega, fun u h1 h2 => by omega, fun _ => hc⟩
    · rw [if_neg hc] at e
      rw [e]
      refine ⟨by omega, ih.2.1, fun u h1 h2 => ?_, ih.2.2.2⟩
      rcases Nat.eq_or_lt_of_le h1 with z | z
      · rw [← z]
        omega
      · exact ih.2.2.1 u z h2
/-- the soonest: whom it chooses -/
structure Soon (R : Rng) (t : Nat) (cs : List Int) (m : Nat) (f : Option (Nat × Nat)) : Prop where
  no : f = none → ∀ v, v < m → ¬ cs.getD v 0 + 1 ≤ hi R t v
  yes : ∀ p, f = some p → p.2 < m ∧ cs.getD p.2 0 + 1 ≤ hi R t p.2 ∧ p.1 = mustBy R t p.2 (cs.getD p.2 0) ∧ ∀ v, v < m → cs.getD v 0 + 1 ≤ hi R t v → p.1 ≤ mustBy R t v (cs.getD v 0)
theorem soon_up {R : Rng} {t : Nat} {cs : List Int} {m : Nat} {f : Option (Nat × Nat)} (h : Soon R t cs m f) : Soon R t cs (m + 1) (soonUp R t cs f m) := by
  unfold soonUp
  by_cases he : cs.getD m 0 + 1 ≤ hi R t m
  · rw [if_pos he]
    cases f with
    | none =>
      refine ⟨fun z => (by cases z), fun p z => ?_⟩
      cases z
      refine ⟨by omega, he, rfl, fun v hv he2 => ?_⟩
      rcases Nat.lt_or_ge v m with q | q
      · exact absurd he2 (h.no rfl v q)
      · have : v = m := by omega
        rw [this]
        exact Nat.le_refl _
    | some q =>
      obtain ⟨a, b, c, d⟩ := h.yes q rfl
      show Soon R t cs (m + 1) (if mustBy R t m (cs.getD m 0) < q.1 then some (mustBy R t m (cs.getD m 0), m) else some q)
      by_cases hl : mustBy R t m (cs.getD m 0) < q.1
      · rw [if_pos hl]
        refine ⟨fun z => (by cases z), fun p z => ?_⟩
        cases z
        refine ⟨by omega, he, rfl, fun v hv he2 => ?_⟩
        rcases Nat.lt_or_ge v m with y | y
        · exact Nat.le_trans (Nat.le_of_lt hl) (d v y he2)
        · have : v = m := by omega
          rw [this]
          exact Nat.le_refl _
      · rw [if_neg hl]
        refine ⟨fun z => (by cases z), fun p z => ?_⟩
        cases z
        refine ⟨by omega, b, c, fun v hv he2 => ?_⟩
        rcases Nat.lt_or_ge v m with y | y
        · exact d v y he2
        · have : v = m := by omega
          rw [this]
          omega
  · rw [if_neg he]
    refine ⟨fun z v hv => ?_, fun p z => ?_⟩
    · rcases Nat.lt_or_ge v m with y | y
      · exact h.no z v y
      · have : v = m := by omega
        rw [this]
        exact he
    · obtain ⟨a, b, c, d⟩ := h.yes p z
      refine ⟨by omega, b, c, fun v hv he2 => ?_⟩
      rcases Nat.lt_or_ge v m with y | y
      · exact d v y he2
      · have : v = m := by omega
        rw [this] at he2
        exact absurd he2 he
theorem soon_spec (R : Rng) (t : Nat) (cs : List Int) : ∀ m, Soon R t cs m (soon R t cs m)
  | 0 => ⟨fun _ v hv => by omega, fun p z => by cases z⟩
  | m + 1 => by
    have e : soon R t cs (m + 1) = soonUp R t cs (soon R t cs m) m := by
      unfold soon
      rw [List.range_succ, List.foldl_append]
      rfl
    rw [e]
    exact soon_up (soon_spec R t cs m)
/-! ### the exchange -/
theorem take_pre {p g : List Nat} {u : Nat} (h : u ≤ p.length) : (p ++ g).take u = p.take u := by
  rw [List.take_append_of_le_length h]
theorem take_post {p g : List Nat} {x u : Nat} (h : p.length < u) : (p ++ x :: g).take u = p ++ x :: g.take (u - p.length - 1) := by
  rw [List.take_append, List.take_of_length_le (by omega), show u - p.length = (u - p.length - 1) + 1 by omega, List.take_succ_cons]
  congr 2
theorem exchange {R : Rng} {n : Nat} {p g : List Nat} {v w : Nat} (hmono : ∀ s t i, s ≤ t → t < R.length → i < n → hi R s i ≤ hi R t i) (hf : Feas R n (p ++ v :: g)) (hw : w < n) (he : cnt p w + 1 ≤ hi R (p.length + 1) w)
    (hm : cnt p v + 1 ≤ hi R (p.length + 1) v → mustBy R (p.length + 1) w (cnt p w) ≤ mustBy R (p.length + 1) v (cnt p v)) : ∃ f', Feas R n f' ∧ f'.take (p.length + 1) = p ++ [w] := by
  have hlen := hf.len
  rw [List.length_append, List.length_cons] at hlen
  have tk1 : ∀ x g', (p ++ x :: g').take (p.length + 1) = p ++ [x] := fun x g' => by
    rw [take_post (by omega)]
    simp
  by_cases hvw : v = w
  · subst hvw
    exact ⟨_, hf, tk1 _ _⟩
  have hv : v < n := hf.mem v (by simp)
  have ev : cnt p v + 1 ≤ hi R (p.length + 1) v := by
    have q := (hf.ok (p.length + 1) (by omega) v hv).2
    rw [tk1, cnt_app, cnt_cons, if_pos rfl, cnt_nil] at q
    omega
  have hmm := hm ev
  have mw := must_spec (R := R) (w := w) (c := cnt p w) (R.length - (p.length + 1)) (p.length + 1) (by omega)
  have mv := must_spec (R := R) (w := v) (c := cnt p v) (R.length - (p.length + 1)) (p.length + 1) (by omega)
  -- the middle: w has not come so far
  have mid : ∀ u, p.length < u → u < R.length → w ∉ g.take (u - p.length - 1) → ∀ i, i < n → lo R u i ≤ cnt (p ++ w :: g.take (u - p.length - 1)) i ∧ cnt (p ++ w :: g.take (u - p.length - 1)) i ≤ hi R u i := fun u h1 h2 hno i hi' => by
    have q := hf.ok u h2 i hi'
    rw [take_post h1] at q
    rw [cnt_app, cnt_cons] at q ⊢
    by_cases iw : i = w
    · subst iw
      rw [cnt_no hno] at q ⊢
      rw [if_neg hvw] at q
      rw [if_pos rfl]
      have := hmono (p.length + 1) u i (by omega) h2 hi'
      omega
    · rw [if_neg (fun z => iw z.symm)]
      by_cases iv : i = v
      · subst iv
        rw [if_pos rfl] at q
        refine ⟨?_, by omega⟩
        rcases Int.lt_or_le (cnt p i + (0 + cnt (g.take (u - p.length - 1)) i)) (lo R u i) with z | z
        · exfalso
          have c0 := cnt_nn (g.take (u - p.length - 1)) i
          have b1 : mustBy R (p.length + 1) i (cnt p i) ≤ u := by
            rcases Nat.lt_or_ge u (mustBy R (p.length + 1) i (cnt p i)) with y | y
            · have := mv.2.2.1 u (by omega) y
              omega
            · exact y
          have b2 : mustBy R (p.length + 1) w (cnt p w) ≤ u := Nat.le_trans hmm b1
          have b3 := mw.2.2.2 (by omega)
          generalize mustBy R (p.length + 1) w (cnt p w) = b at *
          have q2 := (hf.ok b (by omega) w hw).1
          rw [take_post (by omega), cnt_app, cnt_cons, if_neg hvw] at q2
          have sub : w ∉ g.take (b - p.length - 1) := fun y => hno (by
            have e : g.take (b - p.length - 1) = (g.take (u - p.length - 1)).take (b - p.length - 1) := by
              rw [List.take_take]
              congr 1
              omega
            rw [e] at y
            exact List.mem_of_mem_take y)
          rw [cnt_no sub] at q2
          omega
        · exact z
      · rw [if_neg (fun z => iv z.symm)] at q
        exact q
  have pre : ∀ (x : Nat) (g' : List Nat) (u : Nat), u ≤ p.length → (p ++ x :: g').take u = (p ++ v :: g).take u := fun x g' u h => by rw [take_pre h, take_pre h]
  by_cases hwg : w ∈ g
  · obtain ⟨g1, g2, eg, hn1⟩ := List.eq_append_cons_of_mem hwg
    refine ⟨p ++ w :: (g1 ++ v :: g2), ⟨?_, fun i hi' => ?_, fun u hu i hi' => ?_⟩, tk1 _ _⟩
    · rw [eg] at hlen
      simp at hlen ⊢
      omega
    · have q := hf.mem i
      rw [eg] at q
      simp at q hi'
      rcases hi' with z | z | z | z | z
      · exact q (.inl z)
      · exact q (.inr (.inr (.inr (.inl z))))
      · exact q (.inr (.inr (.inl z)))
      · exact q (.inr (.inl z))
      · exact q (.inr (.inr (.inr (.inr z))))
    · rcases Nat.lt_or_ge p.length u with h1 | h1
      · rcases Nat.lt_or_ge (u - p.length - 1) (g1.length + 1) with h2 | h2
        · have e1 : g.take (u - p.length - 1) = g1.take (u - p.length - 1) := by rw [eg, take_pre (by omega)]
          have e2 : (g1 ++ v :: g2).take (u - p.length - 1) = g1.take (u - p.length - 1) := take_pre (by omega)
          have q := mid u h1 hu (by rw [e1]; exact fun y => hn1 (List.mem_of_mem_take y)) i hi'
          rw [take_post h1, e2]
          rw [e1] at q
          exact q
        · have q := hf.ok u hu i hi'
          rw [take_post h1, eg, take_post (by omega)] at q
          rw [take_post h1, take_post (by omega)]
          have e : cnt (p ++ w :: (g1 ++ v :: g2.take (u - p.length - 1 - g1.length - 1))) i = cnt (p ++ v :: (g1 ++ w :: g2.take (u - p.length - 1 - g1.length - 1))) i := by
            rw [cnt_app, cnt_app, cnt_cons, cnt_cons, cnt_app, cnt_app, cnt_cons, cnt_cons]
            omega
          rw [e]
          exact q
      · rw [pre _ _ _ h1]
        exact hf.ok u hu i hi'
  · refine ⟨p ++ w :: g, ⟨?_, fun i hi' => ?_, fun u hu i hi' => ?_⟩, tk1 _ _⟩
    · rw [List.length_append, List.length_cons]
      omega
    · have q := hf.mem i
      simp at q hi'
      rcases hi' with z | z | z
      · exact q (.inl z)
      · rw [z]
        exact hw
      · exact q (.inr (.inr z))
    · rcases Nat.lt_or_ge p.length u with h1 | h1
      · rw [take_post h1]
        exact mid u h1 hu (fun y => hwg (List.mem_of_mem_take y)) i hi'
      · rw [pre _ _ _ h1]
        exact hf.ok u hu i hi'
end Du

/-! dealtO: it goes through whenever a row keeps the ranges, and then its row keeps them. -/
namespace Du
def isGo : Out → Bool
  | .go _ _ => true
  | _ => false
/-- the counts tell the choices -/
structure Told (n : Nat) (cs : List Int) (md : List (Nat × Int)) (at_ : Nat) : Prop where
  len : cs.length = n
  l : md.length + 1 = at_
  cs : ∀ i, i < n → cs.getD i 0 = cnt (md.map (·.1)) i
  mem : ∀ i ∈ md.map (·.1), i < n
theorem far_iff {R : Rng} {t : Nat} {cs : List Int} : farB R t cs = false ↔ ∀ i, i < cs.length → cs.getD i 0 ≤ hi R t i := by
  unfold farB
  rw [List.any_eq_false]
  refine ⟨fun h i hi' => ?_, fun h i hi' => ?_⟩
  · have := h i (List.mem_range.mpr hi')
    simp at this
    simpa using this
  · have := h i (List.mem_range.mp hi')
    simpa using this
theorem few_iff {R : Rng} {t : Nat} {cs : List Int} : fewB R t cs = false ↔ ∀ i, i < cs.length → lo R t i ≤ cs.getD i 0 := by
  unfold fewB
  rw [List.any_eq_false]
  refine ⟨fun h i hi' => ?_, fun h i hi' => ?_⟩
  · have := h i (List.mem_range.mpr hi')
    simp at this
    simpa using this
  · have := h i (List.mem_range.mp hi')
    simpa using this
theorem set_is_bump (cs : List Int) (i : Nat) : cs.set i (cs.getD i 0 + 1) = bump cs i := rfl
/-- one turn that goes through -/
theorem turn_go {R : Rng} {n : Nat} {first : Int} {t : Nat} {cs cs' : List Int} {md md' : List (Nat × Int)} (h : turn R first t cs md = .go cs' md') (T : Told n cs md t) :
    Told n cs' md' (t + 1) ∧ (∃ w c, md' = md ++ [(w, c)]) ∧ ∀ i, i < n → lo R t i ≤ cs'.getD i 0 ∧ cs'.getD i 0 ≤ hi R t i := by
  unfold turn at h
  cases hf : farB R t cs with
  | true =>
    rw [if_pos hf] at h
    cases h
  | false =>
    rw [if_neg (by rw [hf]; exact Bool.false_ne_true)] at h
    have sp := soon_spec R t cs cs.length
    cases hs : soon R t cs cs.length with
    | none =>
      rw [hs] at h
      cases h
    | some p =>
      rw [hs] at h sp
      obtain ⟨s1, s2, _, _⟩ := sp.yes p rfl
      have h2 : (if fewB R t (cs.set p.2 (cs.getD p.2 0 + 1)) then Out.over (first + ofr R t (md ++ [(p.2, cs.getD p.2 0 + 1)]) t) (first + t) else Out.go (cs.set p.2 (cs.getD p.2 0 + 1)) (md ++ [(p.2, cs.getD p.2 0 + 1)])) = .go cs' md' := h
      cases hw : fewB R t (cs.set p.2 (cs.getD p.2 0 + 1)) with
      | true =>
        rw [if_pos hw] at h2
        cases h2
      | false =>
        rw [if_neg (by rw [hw]; exact Bool.false_ne_true)] at h2
        cases h2
        rw [set_is_bump] at hw ⊢
        have w1 := few_iff.mp hw
        have f1 := far_iff.mp hf
        rw [bump_len] at w1
        refine ⟨⟨by rw [bump_len]; exact T.len, by rw [List.length_append]; have := T.l; simp; omega, fun i hi' => ?_, fun i hi' => ?_⟩, ⟨_, _, rfl⟩, fun i hi' => ⟨w1 i (by have := T.len; omega), ?_⟩⟩
        · rw [bump_get (by have := T.len; omega), T.cs i hi', List.map_append, cnt_app, List.map_cons, cnt_cons, List.map_nil, cnt_nil]
          omega
        · rw [List.map_append] at hi'
          rcases List.mem_append.mp hi' with z | z
          · exact T.mem i z
          · rw [List.map_cons, List.map_nil, List.mem_singleton] at z
            rw [z]
            have := T.len
            omega
        · rw [bump_get (by have := T.len; omega)]
          by_cases e : p.2 = i
          · rw [if_pos e, ← e]
            exact s2
          · rw [if_neg e]
            have := f1 i (by have := T.len; omega)
            omega
/-- soundness -/
theorem turns_sound {R : Rng} {n : Nat} {first : Int} : ∀ (k t : Nat) (cs : List Int) (md : List (Nat × Int)) (cs' : List Int) (md' : List (Nat × Int)), turns R first k t cs md = .go cs' md' → Told n cs md t →
    (∀ u, u < t → ∀ i, i < n → lo R u i ≤ cnt ((md.map (·.1)).take u) i ∧ cnt ((md.map (·.1)).take u) i ≤ hi R u i) →
    Told n cs' md' (t + k) ∧ ∀ u, u < t + k → ∀ i, i < n → lo R u i ≤ cnt ((md'.map (·.1)).take u) i ∧ cnt ((md'.map (·.1)).take u) i ≤ hi R u i
  | 0, t, cs, md, cs', md', h, T, hu => by
    cases h
    exact ⟨T, hu⟩
  | k + 1, t, cs, md, cs', md', h, T, hu => by
    cases ht : turn R first t cs md with
    | over a b =>
      unfold turns at h
      rw [ht] at h
      cases h
    | under a b =>
      unfold turns at h
      rw [ht] at h
      cases h
    | go cs1 md1 =>
      unfold turns at h
      rw [ht] at h
      obtain ⟨T1, ⟨w, c, e⟩, ok⟩ := turn_go ht T
      have l := T.l
      have r := turns_sound k (t + 1) cs1 md1 cs' md' h T1 fun u h1 i hi' => by
        rcases Nat.lt_or_ge u t with z | z
        · rw [e, List.map_append, List.take_append_of_le_length (by rw [List.length_map]; omega)]
          exact hu u z i hi'
        · have eu : u = t := by omega
          rw [eu, List.take_of_length_le (by rw [List.length_map]; have := T1.l; omega), ← T1.cs i hi']
          exact ok i hi'
      rw [show t + (k + 1) = t + 1 + k by omega]
      exact r
/-- completeness of one turn -/
theorem turn_full {R : Rng} {n : Nat} {first : Int} {t : Nat} {cs : List Int} {md : List (Nat × Int)} (hmono : ∀ s t i, s ≤ t → t < R.length → i < n → hi R s i ≤ hi R t i) (T : Told n cs md t) (ht : t < R.length) {f : List Nat} (hf : Feas R n f) (hp : f.take md.length = md.map (·.1)) :
    ∃ cs' md', turn R first t cs md = .go cs' md' ∧ ∃ f', Feas R n f' ∧ f'.take md'.length = md'.map (·.1) := by
  have l := T.l
  have fl := hf.len
  have far : farB R t cs = false := far_iff.mpr fun i hi' => by
    rw [T.cs i (by rw [← T.len]; exact hi'), ← hp]
    exact Int.le_trans (cnt_take_le f i (by omega)) (hf.ok t ht i (by rw [← T.len]; exact hi')).2
  -- f's own choice
  obtain ⟨v, g, eg⟩ : ∃ v g, f = md.map (·.1) ++ v :: g := by
    have e := List.take_append_drop md.length f
    rw [hp] at e
    cases hd : f.drop md.length with
    | nil =>
      have := congrArg List.length hd
      rw [List.length_drop] at this
      simp at this
      omega
    | cons v g =>
      rw [hd] at e
      exact ⟨v, g, e.symm⟩
  have lm : (md.map (·.1)).length + 1 = t := by rw [List.length_map]; exact l
  have hv : v < n := hf.mem v (by rw [eg]; simp)
  have ev : cs.getD v 0 + 1 ≤ hi R t v := by
    have q := (hf.ok t ht v hv).2
    rw [eg, take_post (by omega), cnt_app, cnt_cons, if_pos rfl] at q
    have := cnt_nn (g.take (t - (md.map (·.1)).length - 1)) v
    rw [T.cs v hv]
    omega
  have sp := soon_spec R t cs cs.length
  cases hs : soon R t cs cs.length with
  | none =>
    rw [hs] at sp
    exact absurd ev (sp.no rfl v (by rw [T.len]; exact hv))
  | some p =>
    rw [hs] at sp
    obtain ⟨s1, s2, s3, s4⟩ := sp.yes p rfl
    have hw : p.2 < n := by rw [← T.len]; exact s1
    rw [eg] at hf
    obtain ⟨f', hf', ef⟩ := exchange (p := md.map (·.1)) (g := g) (v := v) (w := p.2) hmono hf hw (by rw [lm, ← T.cs _ hw]; exact s2) (fun _ => by
      rw [lm, ← T.cs _ hw, ← T.cs _ hv, ← s3]
      exact s4 v (by rw [T.len]; exact hv) ev)
    have few : fewB R t (bump cs p.2) = false := few_iff.mpr fun i hi' => by
      rw [bump_len] at hi'
      have q := (hf'.ok t ht i (by rw [← T.len]; exact hi')).1
      rw [← lm, ef, cnt_app, cnt_cons, cnt_nil, lm] at q
      rw [bump_get hi', T.cs i (by rw [← T.len]; exact hi')]
      omega
    refine ⟨bump cs p.2, md ++ [(p.2, cs.getD p.2 0 + 1)], ?_, f', hf', ?_⟩
    · unfold turn
      rw [if_neg (by rw [far]; exact Bool.false_ne_true), hs]
      show (if fewB R t (bump cs p.2) then _ else _) = _
      rw [if_neg (by rw [few]; exact Bool.false_ne_true)]
      rfl
    · rw [List.length_append, List.map_append]
      have e : md.length + 1 = (md.map (·.1)).length + 1 := by rw [List.length_map]
      show f'.take (md.length + 1) = _
      rw [e, ef]
      rfl
theorem turns_full {R : Rng} {n : Nat} {first : Int} (hmono : ∀ s t i, s ≤ t → t < R.length → i < n → hi R s i ≤ hi R t i) : ∀ (k t : Nat) (cs : List Int) (md : List (Nat × Int)), t + k = R.length → Told n cs md t → (∃ f, Feas R n f ∧ f.take md.length = md.map (·.1)) → isGo (turns R first k t cs md) = true
  | 0, t, cs, md, _, _, _ => rfl
  | k + 1, t, cs, md, h, T, ⟨f, hf, hp⟩ => by
    obtain ⟨cs', md', e, q⟩ := turn_full (first := first) hmono T (by omega) hf hp
    unfold turns
    rw [e]
    exact turns_full hmono k (t + 1) cs' md' (by omega) (turn_go e T).1 q
theorem told0 (n : Nat) : Told n (List.replicate n 0) [] 1 := ⟨List.length_replicate, rfl, fun i hi' => by rw [getD_lt (by rw [List.length_replicate]; exact hi'), List.getElem_replicate] <;> rfl, fun i hi' => by cases hi'⟩
theorem dealt_sound {R : Rng} {n : Nat} {first : Int} {cs : List Int} {md : List (Nat × Int)} (hR : 1 ≤ R.length) (h : dealtO R first (List.replicate n 0) = .go cs md) : Feas R n (md.map (·.1)) := by
  unfold dealtO at h
  cases hb : (fewB R 0 (List.replicate n 0) || farB R 0 (List.replicate n 0)) with
  | true =>
    rw [if_pos hb] at h
    cases h
  | false =>
    rw [if_neg (by rw [hb]; exact Bool.false_ne_true)] at h
    rw [Bool.or_eq_false_iff] at hb
    have f1 := few_iff.mp hb.1
    have f2 := far_iff.mp hb.2
    rw [List.length_replicate] at f1 f2
    obtain ⟨T, ok⟩ := turns_sound (n := n) _ _ _ _ _ _ h (told0 n) fun u hu i hi' => by
      have eu : u = 0 := by omega
      have z : (List.replicate n (0 : Int)).getD i 0 = 0 := by rw [getD_lt (by rw [List.length_replicate]; exact hi'), List.getElem_replicate]
      have a := f1 i hi'
      have b := f2 i hi'
      rw [z] at a b
      rw [eu]
      exact ⟨a, b⟩
    have l := T.l
    refine ⟨by rw [List.length_map]; omega, T.mem, fun u hu => ok u (by omega)⟩
theorem dealt_full {R : Rng} {n : Nat} {first : Int} (hR : 1 ≤ R.length) (hmono : ∀ s t i, s ≤ t → t < R.length → i < n → hi R s i ≤ hi R t i) {f : List Nat} (hf : Feas R n f) : isGo (dealtO R first (List.replicate n 0)) = true := by
  unfold dealtO
  have z : ∀ i, i < n → (List.replicate n (0 : Int)).getD i 0 = 0 := fun i hi' => by rw [getD_lt (by rw [List.length_replicate]; exact hi'), List.getElem_replicate]
  have b1 : fewB R 0 (List.replicate n 0) = false := few_iff.mpr fun i hi' => by
    rw [List.length_replicate] at hi'
    rw [z i hi']
    exact (hf.ok 0 (by omega) i hi').1
  have b2 : farB R 0 (List.replicate n 0) = false := far_iff.mpr fun i hi' => by
    rw [List.length_replicate] at hi'
    rw [z i hi']
    exact (hf.ok 0 (by omega) i hi').2
  rw [b1, b2, if_neg (by decide)]
  exact turns_full hmono _ _ _ _ (by omega) (told0 n) ⟨f, hf, rfl⟩
end Du

namespace Du
/-! ### the worst of a row -/
theorem abs_iff {X M : Int} : absZ X ≤ M ↔ -M ≤ X ∧ X ≤ M := by
  unfold absZ
  split <;> omega
theorem up_le {m X M : Int} : worstUp m X ≤ M ↔ m ≤ M ∧ absZ X ≤ M := by
  unfold worstUp
  split <;> omega
theorem fold_le : ∀ (r : List Int) (m M : Int), r.foldl worstUp m ≤ M ↔ m ≤ M ∧ ∀ X ∈ r, absZ X ≤ M
  | [], m, M => by simp
  | X :: r, m, M => by
    rw [List.foldl_cons, fold_le r, up_le]
    simp only [List.mem_cons, forall_eq_or_imp]
    exact ⟨fun ⟨⟨a, b⟩, c⟩ => ⟨a, b, c⟩, fun ⟨a, b, c⟩ => ⟨⟨a, b⟩, c⟩⟩
theorem folds_le : ∀ (rows : List (List Int)) (m M : Int), rows.foldl (fun m r => r.foldl worstUp m) m ≤ M ↔ m ≤ M ∧ ∀ r ∈ rows, ∀ X ∈ r, absZ X ≤ M
  | [], m, M => by simp
  | r :: rows, m, M => by
    rw [List.foldl_cons, folds_le rows, fold_le]
    simp only [List.mem_cons, forall_eq_or_imp]
    exact ⟨fun ⟨⟨a, b⟩, c⟩ => ⟨a, b, c⟩, fun ⟨a, b, c⟩ => ⟨⟨a, b⟩, c⟩⟩
theorem worst_le {rows : List (List Int)} {M : Int} : worstZ rows ≤ M ↔ 0 ≤ M ∧ ∀ r ∈ rows, ∀ X ∈ r, absZ X ≤ M := folds_le rows 0 M
/-- it is nought or attained -/
theorem fold_at : ∀ (r : List Int) (m : Int), r.foldl worstUp m = m ∨ ∃ X ∈ r, r.foldl worstUp m = absZ X
  | [], m => .inl rfl
  | X :: r, m => by
    rw [List.foldl_cons]
    rcases fold_at r (worstUp m X) with z | ⟨Y, hY, z⟩
    · rw [z]
      unfold worstUp
      split
      · exact .inr ⟨X, by simp, rfl⟩
      · exact .inl rfl
    · exact .inr ⟨Y, by simp [hY], z⟩
theorem folds_at : ∀ (rows : List (List Int)) (m : Int), rows.foldl (fun m r => r.foldl worstUp m) m = m ∨ ∃ r ∈ rows, ∃ X ∈ r, rows.foldl (fun m r => r.foldl worstUp m) m = absZ X
  | [], m => .inl rfl
  | r :: rows, m => by
    rw [List.foldl_cons]
    rcases folds_at rows (r.foldl worstUp m) with z | ⟨s, hs, X, hX, z⟩
    · rcases fold_at r m with y | ⟨X, hX, y⟩
      · exact .inl (z.trans y)
      · exact .inr ⟨r, by simp, X, hX, z.trans y⟩
    · exact .inr ⟨s, by simp [hs], X, hX, z⟩
theorem worst_at (rows : List (List Int)) : worstZ rows = 0 ∨ ∃ r ∈ rows, ∃ X ∈ r, worstZ rows = absZ X := folds_at rows 0
/-! ### the lags -/
theorem lag_mem_iff {W : Int} {n : Nat} {T : List (List Int)} {row : List Nat} (hr : ∀ r ∈ T, r.length = n) (hl : row.length + 1 = T.length) {p : Int → Prop} :
    (∀ r ∈ lagsZ W n T row, ∀ X ∈ r, p X) ↔ ∀ t, t < T.length → ∀ i, i < n → p (due T t i - cnt (row.take t) i * W) := by
  have rowl : ∀ t, t < T.length → (T.getD t []).length = n := fun t ht => by
    rw [getD_lt ht]
    exact hr _ (List.getElem_mem _)
  have mem_get : ∀ (l : List Int) (m : Nat), l.length = m → ((∀ X ∈ l, p X) ↔ ∀ i, i < m → p (l.getD i 0)) := fun l m hm => by
    subst hm
    refine ⟨fun h i hi' => h _ (getD_mem hi'), fun h X hX => ?_⟩
    obtain ⟨i, hi', rfl⟩ := List.getElem_of_mem hX
    have := h i hi'
    rw [getD_lt hi'] at this
    exact this
  have lag_len : ∀ k, k + 1 < T.length → (lagRow W (T.getD (k + 1) []) (tallyZ n (row.take (k + 1)))).length = n := fun k hk => by
    unfold lagRow
    rw [List.length_zipWith, rowl _ hk, tally_len, Nat.min_self]
  have lag_get : ∀ k i, k + 1 < T.length → i < n → (lagRow W (T.getD (k + 1) []) (tallyZ n (row.take (k + 1)))).getD i 0 = due T (k + 1) i - cnt (row.take (k + 1)) i * W := fun k i hk hi' => by
    have h1 := rowl _ hk
    have h2 := tally_len n (row.take (k + 1))
    rw [getD_lt (by rw [lag_len k hk]; exact hi')]
    unfold lagRow due
    rw [List.getElem_zipWith, ← tally_get (row.take (k + 1)) hi', getD_lt (show i < (T.getD (k + 1) []).length by omega), getD_lt (show i < (tallyZ n (row.take (k + 1))).length by omega)]
  unfold lagsZ
  simp only [List.mem_cons, forall_eq_or_imp, List.mem_map, List.mem_range, forall_exists_index, and_imp, forall_apply_eq_imp_iff₂]
  refine ⟨fun ⟨h0, h1⟩ t ht i hi' => ?_, fun h => ⟨?_, fun k hk => ?_⟩⟩
  · cases t with
    | zero =>
      rw [List.take_zero, cnt_nil]
      have := (mem_get _ n (rowl 0 ht)).mp h0 i hi'
      simpa [due] using this
    | succ k =>
      rw [← lag_get k i ht hi']
      exact (mem_get _ n (lag_len k ht)).mp (h1 k (by omega)) i hi'
  · refine (mem_get _ n (rowl 0 (by omega))).mpr fun i hi' => ?_
    have := h 0 (by omega) i hi'
    rw [List.take_zero, cnt_nil] at this
    simpa [due] using this
  · refine (mem_get _ n (lag_len k (by omega))).mpr fun i hi' => ?_
    rw [lag_get k i (by omega) hi']
    exact h (k + 1) (by omega) i hi'
/-- a row's worst, by its counts -/
theorem row_worst {W : Int} {n : Nat} {T : List (List Int)} {row : List Nat} (hr : ∀ r ∈ T, r.length = n) (hl : row.length + 1 = T.length) {M : Int} :
    worstZ (lagsZ W n T row) ≤ M ↔ 0 ≤ M ∧ ∀ t, t < T.length → ∀ i, i < n → absZ (due T t i - cnt (row.take t) i * W) ≤ M := by
  rw [worst_le]
  exact and_congr_right fun _ => lag_mem_iff (p := fun X => absZ X ≤ M) hr hl
theorem row_worst_at {W : Int} {n : Nat} {T : List (List Int)} {row : List Nat} (hr : ∀ r ∈ T, r.length = n) (hl : row.length + 1 = T.length) :
    worstZ (lagsZ W n T row) = 0 ∨ ∃ t, t < T.length ∧ ∃ i, i < n ∧ worstZ (lagsZ W n T row) = absZ (due T t i - cnt (row.take t) i * W) := by
  rcases worst_at (lagsZ W n T row) with z | ⟨r, h1, X, h2, e⟩
  · exact .inl z
  · refine .inr ?_
    rcases Classical.em (∃ t, t < T.length ∧ ∃ i, i < n ∧ worstZ (lagsZ W n T row) = absZ (due T t i - cnt (row.take t) i * W)) with y | y
    · exact y
    · exfalso
      have q := (lag_mem_iff (W := W) (row := row) (p := fun X => worstZ (lagsZ W n T row) ≠ absZ X) hr hl).mpr fun t ht i hi' z => y ⟨t, ht, i, hi', z⟩
      exact q r h1 X h2 e
/-! ### the least of all rows -/
theorem least_fold {W : Int} {n : Nat} {T : List (List Int)} : ∀ (rows : List (List Nat)) (f : Option Int),
    (f = none → rows = [] → rows.foldl (leastUp W n T) f = none) ∧ ((f ≠ none ∨ rows ≠ []) → ∃ m, rows.foldl (leastUp W n T) f = some m ∧ (∀ m0, f = some m0 → m ≤ m0) ∧ (∀ row ∈ rows, m ≤ worstZ (lagsZ W n T row)) ∧ (f = some m ∨ ∃ row ∈ rows, m = worstZ (lagsZ W n T row)))
  | [], f => ⟨fun h _ => h, fun h => by
    cases f with
    | none => exact absurd rfl (h.elim id fun z => absurd rfl z)
    | some m => exact ⟨m, rfl, fun m0 z => (by cases z; exact Int.le_refl m), fun row hr => (by cases hr), .inl rfl⟩⟩
  | r :: rows, f => ⟨fun _ z => (by cases z), fun _ => by
    have hs : ∃ m1, leastUp W n T f r = some m1 ∧ (∀ m0, f = some m0 → m1 ≤ m0) ∧ m1 ≤ worstZ (lagsZ W n T r) ∧ (f = some m1 ∨ m1 = worstZ (lagsZ W n T r)) := by
      unfold leastUp
      cases f with
      | none => exact ⟨_, rfl, fun m0 z => (by cases z), Int.le_refl _, .inr rfl⟩
      | some m =>
        by_cases h : worstZ (lagsZ W n T r) < m
        · exact ⟨_, if_pos h, fun m0 z => (by cases z; omega), Int.le_refl _, .inr rfl⟩
        · exact ⟨_, if_neg h, fun m0 z => (by cases z; exact Int.le_refl m), by omega, .inl rfl⟩
    obtain ⟨m1, e1, a1, b1, c1⟩ := hs
    obtain ⟨m, e, a, b, c⟩ := (least_fold rows (some m1)).2 (.inl (by simp))
    have hm := a m1 rfl
    refine ⟨m, by rw [List.foldl_cons, e1]; exact e, fun m0 z => Int.le_trans hm (a1 m0 z), fun row hr => ?_, ?_⟩
    · rcases List.mem_cons.mp hr with z | z
      · rw [z]
        omega
      · exact b row z
    · rcases c with z | ⟨row, hr, z⟩
      · have z : m1 = m := Option.some.inj z
        rcases c1 with y | y
        · exact .inl (by rw [y, z])
        · exact .inr ⟨r, by simp, by omega⟩
      · exact .inr ⟨row, by simp [hr], z⟩⟩
/-- what the law's search finds -/
structure Least (W : Int) (n : Nat) (T : List (List Int)) (m : Int) : Prop where
  le : ∀ row : List Nat, row.length + 1 = T.length → (∀ i ∈ row, i < n) → m ≤ worstZ (lagsZ W n T row)
  at_ : ∃ row : List Nat, row.length + 1 = T.length ∧ (∀ i ∈ row, i < n) ∧ m = worstZ (lagsZ W n T row)
theorem Least.uniq {W : Int} {n : Nat} {T : List (List Int)} {a b : Int} (h : Least W n T a) (k : Least W n T b) : a = b := by
  obtain ⟨r, h1, h2, h3⟩ := h.at_
  obtain ⟨s, k1, k2, k3⟩ := k.at_
  have := h.le s k1 k2
  have := k.le r h1 h2
  omega
theorem least_is {W : Int} {n : Nat} {T : List (List Int)} (hn : 1 ≤ n) (hT : 1 ≤ T.length) : ∃ m, leastZ W n T = some m ∧ Least W n T m := by
  have ne : rowsN n (T.length - 1) ≠ [] := fun z => by
    have := rows_len n (T.length - 1)
    rw [z] at this
    have : 0 < n ^ (T.length - 1) := Nat.pow_pos hn
    simp at *
    omega
  obtain ⟨m, e, _, b, c⟩ := (least_fold (W := W) (n := n) (T := T) (rowsN n (T.length - 1)) none).2 (.inr ne)
  refine ⟨m, e, fun row h1 h2 => b row ((rows_mem n _ row).mpr ⟨by omega, h2⟩), ?_⟩
  rcases c with z | ⟨row, hr, z⟩
  · cases z
  · obtain ⟨h1, h2⟩ := (rows_mem n _ row).mp hr
    exact ⟨row, by omega, h2, z⟩
theorem least_of {W : Int} {n : Nat} {T : List (List Int)} {m : Int} (hn : 1 ≤ n) (hT : 1 ≤ T.length) (h : Least W n T m) : leastZ W n T = some m := by
  obtain ⟨m', e, h'⟩ := least_is (W := W) hn hT
  rw [e, h'.uniq h]
end Du

namespace Du
/-! ### the ranges are the bound -/
theorem rng_get {W M : Int} {n : Nat} {o : Bool} {T : List (List Int)} (hr : ∀ r ∈ T, r.length = n) {t i : Nat} (ht : t < T.length) (hi' : i < n) : ((ranges W M o T).getD t []).getD i (0, 0) = (lowZ W M o (due T t i), highZ W M o (due T t i)) := by
  have h1 : T[t].length = n := hr _ (List.getElem_mem _)
  have e : (ranges W M o T).getD t [] = T[t].map fun X => (lowZ W M o X, highZ W M o X) := by
    unfold ranges
    rw [List.getD_eq_getElem?_getD, List.getElem?_map, List.getElem?_eq_getElem ht] <;> rfl
  unfold due
  rw [e, getD_lt ht, List.getD_eq_getElem?_getD, List.getElem?_map, List.getElem?_eq_getElem (show i < T[t].length by omega), getD_lt (show i < T[t].length by omega)] <;> rfl
theorem in_range {W M X c : Int} (hW : 0 < W) (hc : 0 ≤ c) : (lowZ W M false X ≤ c ∧ c ≤ highZ W M false X) ↔ absZ (X - c * W) ≤ M := by
  rw [abs_iff]
  have h1 : lowZ W M false X ≤ c ↔ X - c * W ≤ M := by
    have q : -c ≤ -(X - M) / W ↔ -c * W ≤ -(X - M) := Int.le_ediv_iff_mul_le hW
    rw [Int.neg_mul] at q
    show (if -((-(X - M)) / W) > 0 then -((-(X - M)) / W) else 0) ≤ c ↔ _
    generalize c * W = y at *
    generalize -(X - M) / W = z at *
    split <;> omega
  have h2 : c ≤ highZ W M false X ↔ -M ≤ X - c * W := by
    have q : c ≤ (X + M) / W ↔ c * W ≤ X + M := Int.le_ediv_iff_mul_le hW
    show c ≤ (X + M) / W ↔ _
    rw [q]
    omega
  rw [h1, h2]
  exact and_comm
theorem rng_len {W M : Int} {o : Bool} {T : List (List Int)} : (ranges W M o T).length = T.length := List.length_map _
theorem feas_iff {W M : Int} {n : Nat} {T : List (List Int)} (hW : 0 < W) (hM : 0 ≤ M) (hr : ∀ r ∈ T, r.length = n) {row : List Nat} (hl : row.length + 1 = T.length) (hm : ∀ i ∈ row, i < n) : Feas (ranges W M false T) n row ↔ worstZ (lagsZ W n T row) ≤ M := by
  rw [row_worst hr hl]
  have key : ∀ t, t < T.length → ∀ i, i < n → ((lo (ranges W M false T) t i ≤ cnt (row.take t) i ∧ cnt (row.take t) i ≤ hi (ranges W M false T) t i) ↔ absZ (due T t i - cnt (row.take t) i * W) ≤ M) := fun t ht i hi' => by
    unfold lo hi
    rw [rng_get hr ht hi']
    exact in_range hW (cnt_nn _ _)
  refine ⟨fun h => ⟨hM, fun t ht i hi' => (key t ht i hi').mp (h.ok t (by rw [rng_len]; exact ht) i hi')⟩, fun h => ⟨by rw [rng_len]; exact hl, hm, fun t ht i hi' => ?_⟩⟩
  rw [rng_len] at ht
  exact (key t ht i hi').mpr (h.2 t ht i hi')
theorem due_mono {W : Int} {n : Nat} {T : List (List Int)} (D : Dues W n T) {i : Nat} (hi' : i < n) : ∀ (k s : Nat), s + k < T.length → due T s i ≤ due T (s + k) i
  | 0, s, _ => Int.le_refl _
  | k + 1, s, h => Int.le_trans (due_mono D hi' k s (by omega)) (D.mono (s + k) i (by omega) hi')
theorem hi_mono {W M : Int} {n : Nat} {T : List (List Int)} (hW : 0 < W) (D : Dues W n T) : ∀ s t i, s ≤ t → t < (ranges W M false T).length → i < n → hi (ranges W M false T) s i ≤ hi (ranges W M false T) t i := fun s t i h1 h2 h3 => by
  rw [rng_len] at h2
  unfold hi
  rw [rng_get D.row (by omega) h3, rng_get D.row h2 h3]
  show (due T s i + M) / W ≤ (due T t i + M) / W
  have := due_mono D h3 (t - s) s (by omega)
  rw [show s + (t - s) = t by omega] at this
  exact Int.ediv_le_ediv hW (by omega)
theorem row_isGo (o : Out) : rowB o = isGo o := by cases o <;> rfl
theorem deal_row {W M : Int} {n : Nat} {T : List (List Int)} (hW : 0 < W) (hM : 0 ≤ M) (D : Dues W n T) (h : rowB (dealF W n T M false) = true) : ∃ cs md, dealF W n T M false = .go cs md ∧ (md.map (·.1)).length + 1 = T.length ∧ (∀ i ∈ md.map (·.1), i < n) ∧ worstZ (lagsZ W n T (md.map (·.1))) ≤ M := by
  cases e : dealF W n T M false with
  | over a b => rw [e] at h; cases h
  | under a b => rw [e] at h; cases h
  | go cs md =>
    have f := dealt_sound (by rw [rng_len]; exact D.len) (show dealtO (ranges W M false T) 0 (List.replicate n 0) = .go cs md from e)
    have l := f.len
    rw [rng_len] at l
    exact ⟨cs, md, rfl, l, f.mem, (feas_iff hW hM D.row l f.mem).mp f⟩
theorem deal_iff {W M m : Int} {n : Nat} {T : List (List Int)} (hW : 0 < W) (hM : 0 ≤ M) (D : Dues W n T) (h : Least W n T m) : rowB (dealF W n T M false) = true ↔ m ≤ M := by
  refine ⟨fun q => ?_, fun q => ?_⟩
  · obtain ⟨cs, md, _, h1, h2, h3⟩ := deal_row hW hM D q
    exact Int.le_trans (h.le _ h1 h2) h3
  · obtain ⟨row, h1, h2, h3⟩ := h.at_
    rw [row_isGo]
    exact dealt_full (by rw [rng_len]; exact D.len) (hi_mono hW D) ((feas_iff hW hM D.row h1 h2).mpr (by omega))
/-! ### a row within one whole -/
def S (n : Nat) (f : Nat → Int) : Int := ((List.range n).map f).sum
theorem S_get {l : List Int} {n : Nat} (h : l.length = n) : S n (fun i => l.getD i 0) = l.sum := by
  subst h
  unfold S
  congr 1
  apply List.ext_getElem?
  intro i
  rw [List.getElem?_map]
  by_cases hi' : i < l.length
  · rw [List.getElem?_range hi', List.getElem?_eq_getElem hi']
    show some (l.getD i 0) = _
    rw [getD_lt hi']
  · rw [List.getElem?_eq_none (by rw [List.length_range]; omega), List.getElem?_eq_none (by omega)] <;> rfl
theorem S1 (f : Nat → Int) : S 1 f = f 0 := by simp [S, List.range_succ]
theorem S2 (f : Nat → Int) : S 2 f = f 0 + f 1 := by simp [S, List.range_succ]
theorem S3 (f : Nat → Int) : S 3 f = f 0 + f 1 + f 2 := by simp [S, List.range_succ]; omega
theorem S_cnt {n : Nat} (hn : 1 ≤ n ∧ n ≤ 3) : ∀ row : List Nat, (∀ i ∈ row, i < n) → S n (cnt row) = row.length
  | [], _ => by
    have : n = 1 ∨ n = 2 ∨ n = 3 := by omega
    rcases this with rfl | rfl | rfl
    · rw [S1]; rfl
    · rw [S2]; rfl
    · rw [S3]; rfl
  | x :: row, h => by
    have ih := S_cnt hn row fun i hi' => h i (List.mem_cons_of_mem _ hi')
    have hx := h x (List.mem_cons_self ..)
    rw [List.length_cons]
    have : n = 1 ∨ n = 2 ∨ n = 3 := by omega
    rcases this with rfl | rfl | rfl
    · rw [S1] at ih ⊢
      have : x = 0 := by omega
      subst this
      rw [cnt_cons, if_pos rfl]
      omega
    · rw [S2] at ih ⊢
      have : x = 0 ∨ x = 1 := by omega
      rcases this with rfl | rfl
      · rw [cnt_cons, cnt_cons, if_pos rfl, if_neg (by decide)]
        omega
      · rw [cnt_cons, cnt_cons, if_pos rfl, if_neg (by decide)]
        omega
    · rw [S3] at ih ⊢
      have : x = 0 ∨ x = 1 ∨ x = 2 := by omega
      rcases this with rfl | rfl | rfl
      · rw [cnt_cons, cnt_cons, cnt_cons, if_pos rfl, if_neg (by decide), if_neg (by decide)]
        omega
      · rw [cnt_cons, cnt_cons, cnt_cons, if_pos rfl, if_neg (by decide), if_neg (by decide)]
        omega
      · rw [cnt_cons, cnt_cons, cnt_cons, if_pos rfl, if_neg (by decide), if_neg (by decide)]
        omega
theorem pick {n : Nat} {W : Int} {L y : Nat → Int} (hn : 1 ≤ n ∧ n ≤ 3) (hW : 0 < W) (hL : ∀ i, i < n → -W ≤ L i ∧ L i ≤ W) (hy : ∀ i, i < n → L i ≤ y i) (s1 : S n L = 0) (s2 : S n y = W) :
    ∃ w, w < n ∧ ∀ i, i < n → -W ≤ y i - (if w = i then W else 0) ∧ y i - (if w = i then W else 0) ≤ W := by
  have : n = 1 ∨ n = 2 ∨ n = 3 := by omega
  rcases this with rfl | rfl | rfl
  · rw [S1] at s1 s2
    refine ⟨0, by decide, fun i hi' => ?_⟩
    have : i = 0 := by omega
    subst this
    rw [if_pos rfl]
    omega
  · rw [S2] at s1 s2
    have a0 := hL 0 (by decide)
    have a1 := hL 1 (by decide)
    have b0 := hy 0 (by decide)
    have b1 := hy 1 (by decide)
    have c : y 1 ≤ y 0 ∨ y 0 ≤ y 1 := by omega
    rcases c with c | c
    · refine ⟨0, by decide, fun i hi' => ?_⟩
      have : i = 0 ∨ i = 1 := by omega
      rcases this with rfl | rfl
      · rw [if_pos rfl]; omega
      · rw [if_neg (by decide)]; omega
    · refine ⟨1, by decide, fun i hi' => ?_⟩
      have : i = 0 ∨ i = 1 := by omega
      rcases this with rfl | rfl
      · rw [if_neg (by decide)]; omega
      · rw [if_pos rfl]; omega
  · rw [S3] at s1 s2
    have a0 := hL 0 (by decide)
    have a1 := hL 1 (by decide)
    have a2 := hL 2 (by decide)
    have b0 := hy 0 (by decide)
    have b1 := hy 1 (by decide)
    have b2 := hy 2 (by decide)
    have c : (y 1 ≤ y 0 ∧ y 2 ≤ y 0) ∨ (y 0 ≤ y 1 ∧ y 2 ≤ y 1) ∨ (y 0 ≤ y 2 ∧ y 1 ≤ y 2) := by omega
    rcases c with c | c | c
    · refine ⟨0, by decide, fun i hi' => ?_⟩
      have : i = 0 ∨ i = 1 ∨ i = 2 := by omega
      rcases this with rfl | rfl | rfl
      · rw [if_pos rfl]; omega
      · rw [if_neg (by decide)]; omega
      · rw [if_neg (by decide)]; omega
    · refine ⟨1, by decide, fun i hi' => ?_⟩
      have : i = 0 ∨ i = 1 ∨ i = 2 := by omega
      rcases this with rfl | rfl | rfl
      · rw [if_neg (by decide)]; omega
      · rw [if_pos rfl]; omega
      · rw [if_neg (by decide)]; omega
    · refine ⟨2, by decide, fun i hi' => ?_⟩
      have : i = 0 ∨ i = 1 ∨ i = 2 := by omega
      rcases this with rfl | rfl | rfl
      · rw [if_neg (by decide)]; omega
      · rw [if_neg (by decide)]; omega
      · rw [if_pos rfl]; omega
theorem S_lag {n : Nat} {W k : Int} {T : List (List Int)} {t : Nat} {row : List Nat} (hn : 1 ≤ n ∧ n ≤ 3) (hl : (T.getD t []).length = n) (hs : (T.getD t []).sum = t * W) (hm : ∀ i ∈ row, i < n) (hk : (row.length : Int) = k) : S n (fun i => due T t i - cnt row i * W) = t * W - k * W := by
  have a : S n (due T t) = t * W := by
    rw [← hs]
    exact S_get hl
  have b := S_cnt hn row hm
  rw [hk] at b
  have : n = 1 ∨ n = 2 ∨ n = 3 := by omega
  rcases this with rfl | rfl | rfl
  · rw [S1] at *
    rw [a, b]
  · rw [S2] at *
    rw [← a, ← b, Int.add_mul]
    omega
  · rw [S3] at *
    rw [← a, ← b, Int.add_mul, Int.add_mul]
    omega
theorem greedy {W : Int} {n : Nat} {T : List (List Int)} (hn : 1 ≤ n ∧ n ≤ 3) (hW : 0 < W) (D : Dues W n T) : ∀ t, t < T.length → ∃ row : List Nat, row.length = t ∧ (∀ i ∈ row, i < n) ∧ ∀ u, u ≤ t → ∀ i, i < n → -W ≤ due T u i - cnt (row.take u) i * W ∧ due T u i - cnt (row.take u) i * W ≤ W
  | 0, _ => ⟨[], rfl, fun i z => (by cases z), fun u hu i hi' => by
    have : u = 0 := by omega
    subst this
    rw [D.zero, List.take_nil, cnt_nil]
    omega⟩
  | t + 1, ht => by
    obtain ⟨row, h1, h2, h3⟩ := greedy hn hW D t (by omega)
    have rl : ∀ u, u < T.length → (T.getD u []).length = n := fun u hu => by
      rw [getD_lt hu]
      exact D.row _ (List.getElem_mem _)
    have full : row.take t = row := List.take_of_length_le (by omega)
    have s1 := S_lag (W := W) (k := t) (row := row) hn (rl t (by omega)) (D.sum t (by omega)) h2 (by omega)
    have s2 := S_lag (W := W) (k := t) (row := row) hn (rl (t + 1) ht) (D.sum (t + 1) ht) h2 (by omega)
    obtain ⟨w, hw, hp⟩ := pick (L := fun i => due T t i - cnt row i * W) (y := fun i => due T (t + 1) i - cnt row i * W) hn hW (fun i hi' => by
      have := h3 t (Nat.le_refl t) i hi'
      rw [full] at this
      exact this) (fun i hi' => by
      have := D.mono t i ht hi'
      show due T t i - cnt row i * W ≤ due T (t + 1) i - cnt row i * W
      omega) (by rw [s1]; omega) (by
      rw [s2, show ((t + 1 : Nat) : Int) = (t : Int) + 1 by omega, Int.add_mul]
      omega)
    refine ⟨row ++ [w], by rw [List.length_append, h1]; rfl, fun i hi' => ?_, fun u hu i hi' => ?_⟩
    · rcases List.mem_append.mp hi' with z | z
      · exact h2 i z
      · rw [List.mem_singleton.mp z]
        exact hw
    · rcases Nat.lt_or_ge t u with z | z
      · have : u = t + 1 := by omega
        subst this
        rw [List.take_of_length_le (by rw [List.length_append, h1]; simp), cnt_app, cnt_cons, cnt_nil, Int.add_mul]
        have q := hp i hi'
        have q : -W ≤ due T (t + 1) i - cnt row i * W - (if w = i then W else 0) ∧ due T (t + 1) i - cnt row i * W - (if w = i then W else 0) ≤ W := q
        by_cases e : w = i
        · rw [if_pos e] at q ⊢
          omega
        · rw [if_neg e] at q ⊢
          omega
      · rw [List.take_append_of_le_length (by omega)]
        exact h3 u z i hi'
theorem least_le {W m : Int} {n : Nat} {T : List (List Int)} (hn : 1 ≤ n ∧ n ≤ 3) (hW : 0 < W) (D : Dues W n T) (h : Least W n T m) : m ≤ W := by
  have dl := D.len
  obtain ⟨row, h1, h2, h3⟩ := greedy hn hW D (T.length - 1) (by omega)
  refine Int.le_trans (h.le row (by omega) h2) ((row_worst D.row (by omega)).mpr ⟨by omega, fun t ht i hi' => ?_⟩)
  rw [abs_iff]
  exact h3 t (by omega) i hi'
/-! ### the least is a candidate -/
theorem due_mem {T : List (List Int)} {n t i : Nat} (hr : ∀ r ∈ T, r.length = n) (ht : t < T.length) (hi' : i < n) : due T t i ∈ T.flatten := by
  unfold due
  rw [getD_lt ht]
  exact List.mem_flatten.mpr ⟨_, List.getElem_mem ht, getD_mem (by rw [hr _ (List.getElem_mem ht)]; exact hi')⟩
theorem least_cand {W m : Int} {n : Nat} {T : List (List Int)} (hn : 1 ≤ n ∧ n ≤ 3) (hW : 0 < W) (D : Dues W n T) (h : Least W n T m) : m ∈ candF W T := by
  have mW := least_le hn hW D h
  obtain ⟨row, h1, h2, h3⟩ := h.at_
  unfold candF
  rw [rise_mem, sort_mem, cand_mem]
  rcases row_worst_at (W := W) D.row h1 with z | ⟨t, ht, i, hi', z⟩
  · exact .inl (by omega)
  · rw [← h3] at z
    by_cases e : m = W
    · exact .inr (.inl e)
    by_cases e0 : m = 0
    · exact .inl e0
    refine .inr (.inr ⟨due T t i, due_mem D.row ht hi', ?_⟩)
    generalize due T t i = X at *
    generalize cnt (row.take t) i = c at *
    unfold absZ at z
    by_cases s : X - c * W < 0
    · rw [if_pos s] at z
      right
      have ex : X = (W - m) + (c - 1) * W := by
        rw [Int.sub_mul]
        omega
      have : X % W = W - m := by
        rw [ex, Int.add_mul_emod_self_right]
        exact Int.emod_eq_of_lt (by omega) (by omega)
      omega
    · rw [if_neg s] at z
      left
      have ex : X = m + c * W := by omega
      rw [ex, Int.add_mul_emod_self_right]
      exact (Int.emod_eq_of_lt (by omega) (by omega)).symm
theorem cand_sorted {W : Int} {T : List (List Int)} (h : T.flatten.length ≤ 100) : (candF W T).Pairwise (· ≤ ·) := by
  unfold candF
  exact rise_sorted (sort_sorted 8 _ (Nat.le_trans cand_len (by omega)))
theorem cand_nn {W M : Int} {T : List (List Int)} (hW : 0 < W) (h : M ∈ candF W T) : 0 ≤ M := by
  unfold candF at h
  rw [rise_mem, sort_mem, cand_mem] at h
  rcases h with h | h | ⟨X, _, h | h⟩
  · omega
  · omega
  · have := Int.emod_nonneg X (show W ≠ 0 by omega)
    omega
  · have := Int.emod_lt_of_pos X hW
    omega
theorem sorted_get {l : List Int} (h : l.Pairwise (· ≤ ·)) {i j : Nat} {a b : Int} (ha : l[i]? = some a) (hb : l[j]? = some b) (hij : i ≤ j) : a ≤ b := by
  obtain ⟨hi', e1⟩ := List.getElem?_eq_some_iff.mp ha
  obtain ⟨hj, e2⟩ := List.getElem?_eq_some_iff.mp hb
  rcases Nat.eq_or_lt_of_le hij with z | z
  · subst z
    rw [e1] at e2
    omega
  · have := List.pairwise_iff_getElem.mp h i j hi' hj z
    omega
theorem fair_is {W : Int} {n : Nat} {T : List (List Int)} {d : PySem.PyData} (L : OkLw W n T) (D : Dues W n T) (h : R_fair W n T d) : ∃ (m : Int) (row : List Nat) (paper : PySem.PyData), leastZ W n T = some m ∧ d = .tuple [frD (fr W m), rowI row, paper] ∧ OkRow n T row ∧ worstZ (lagsZ W n T row) = m := by
  obtain ⟨m, em, hm⟩ := least_is (W := W) L.n1.1 D.len
  obtain ⟨r, M, hM, h2, h3, rfl⟩ := h
  have hW := L.hW.1
  have mem := List.mem_of_getElem? hM
  have M0 := cand_nn hW mem
  have fl : T.flatten.length ≤ 100 := by
    rw [flat_len D.row]
    have := L.l
    have := L.n1
    have : T.length * n ≤ 7 * 3 := Nat.mul_le_mul (by omega) (by omega)
    omega
  have so := cand_sorted (W := W) fl
  obtain ⟨k, hk⟩ := List.mem_iff_getElem?.mp (least_cand L.n1 hW D hm)
  have m0 := cand_nn hW (List.mem_of_getElem? hk)
  have ge : m ≤ M := by
    rcases h2 with z | z
    · refine sorted_get so hk hM ?_
      have := (List.getElem?_eq_some_iff.mp hk).1
      omega
    · exact (deal_iff hW M0 D hm).mp z
  have le : M ≤ m := by
    by_cases r0 : r = 0
    · exact sorted_get so hM hk (by omega)
    · have hr := (List.getElem?_eq_some_iff.mp hM).1
      obtain ⟨M', hM'⟩ : ∃ M', (candF W T)[r - 1]? = some M' := ⟨_, List.getElem?_eq_getElem (show r - 1 < _ by omega)⟩
      have q := h3 M' r0 hM'
      have M'0 := cand_nn hW (List.mem_of_getElem? hM')
      have lt : M' < m := by
        rcases Int.lt_or_le M' m with z | z
        · exact z
        · rw [(deal_iff hW M'0 D hm).mpr z] at q
          cases q
      refine sorted_get so hM hk ?_
      rcases Nat.lt_or_ge k r with z | z
      · have := sorted_get so hk hM' (by omega)
        omega
      · exact z
  have e : M = m := Int.le_antisymm le ge
  subst e
  obtain ⟨cs, md, eg, l1, l2, l3⟩ := deal_row hW M0 D ((deal_iff hW M0 D hm).mpr (Int.le_refl M))
  refine ⟨M, md.map (·.1), secD (dealF W n T M true), em, ?_, ⟨l1, l2⟩, Int.le_antisymm l3 (hm.le _ l1 l2)⟩
  rw [eg]
  show PySem.PyData.tuple [_, .list (md.map fun p => .int (p.1 : Nat)), _] = PySem.PyData.tuple [_, .list ((md.map (·.1)).map fun i => .int (i : Nat)), _]
  rw [List.map_map]
  rfl
end Du

namespace Du
theorem fold_congr {α β : Type} {f g : β → α → β} : ∀ {l : List α} {b : β}, (∀ x ∈ l, ∀ b, f b x = g b x) → l.foldl f b = l.foldl g b
  | [], _, _ => rfl
  | x :: l, b, h => by
    rw [List.foldl_cons, List.foldl_cons, h x (List.mem_cons_self ..)]
    exact fold_congr fun y hy => h y (List.mem_cons_of_mem _ hy)
theorem scaled_is {W : Int} {n : Nat} {sp : List (Nat × List Int)} {o : Int} (ho : 1 ≤ o) (q : Sp W n sp) (hd : ∀ p ∈ sp, p.2.sum * o ∣ W) : duesZ W n (sp.map fun p => (p.1, p.2.map (· * o))) = duesZ W n sp := by
  unfold duesZ
  rw [List.foldl_map]
  refine fold_congr fun p hp T => ?_
  unfold duesUp spellRows
  congr 1
  refine List.map_congr_left fun k _ => ?_
  show addRow (W / (p.2.map (· * o)).sum) (k + 1) _ (p.2.map (· * o)) = addRow (W / p.2.sum) (k + 1) _ p.2
  rw [sum_mul]
  obtain ⟨c, hc⟩ := hd p hp
  have hs := q.s p hp
  have e1 : W / (p.2.sum * o) = c := by
    rw [hc]
    exact Int.mul_ediv_cancel_left c (by have := Int.mul_pos hs (show 0 < o by omega); omega)
  have e2 : W / p.2.sum = o * c := by
    rw [hc, Int.mul_assoc]
    exact Int.mul_ediv_cancel_left _ (by omega)
  rw [e1, e2]
  unfold addRow
  rw [List.zipWith_map_right]
  congr 1
  funext x w
  rw [show ((k + 1 : Nat) : Int) * (w * o) * c = ((k + 1 : Nat) : Int) * w * (o * c) by simp only [Int.mul_assoc]]
theorem rev_row {u : Int} {k : Nat} {f ws : List Int} (h : f.length = ws.length) : addRow u k f.reverse ws.reverse = (addRow u k f ws).reverse := by
  unfold addRow
  apply List.ext_getElem?
  intro i
  rw [List.getElem?_zipWith]
  by_cases hi' : i < ws.length
  · rw [List.getElem?_reverse (by omega), List.getElem?_reverse hi', List.getElem?_reverse (by rw [List.length_zipWith]; omega), List.getElem?_zipWith, List.length_zipWith, show min f.length ws.length = ws.length by omega, h]
  · rw [List.getElem?_eq_none (l := f.reverse) (by rw [List.length_reverse]; omega), List.getElem?_eq_none (l := (List.zipWith _ f ws).reverse) (by rw [List.length_reverse, List.length_zipWith]; omega)]
theorem rev_up {W : Int} {n : Nat} {T : List (List Int)} {p : Nat × List Int} (D : Dues W n T) (hn : p.2.length = n) : duesUp W (T.map List.reverse) (p.1, p.2.reverse) = (duesUp W T p).map List.reverse := by
  have hl := D.len
  have hT : T ≠ [] := fun z => by rw [z] at hl; simp at hl
  obtain ⟨g, b, rfl⟩ : ∃ g b, T = g ++ [b] := ⟨T.dropLast, T.getLast hT, (List.dropLast_concat_getLast hT).symm⟩
  have hb : b.length = n := D.row b (by simp)
  unfold duesUp spellRows
  rw [List.map_append (l₁ := g ++ [b])]
  refine congrArg _ ?_
  rw [List.map_append, List.map_cons, List.map_nil, List.getLastD_concat, List.getLastD_concat, List.map_map]
  refine List.map_congr_left fun k _ => ?_
  show addRow (W / p.2.reverse.sum) (k + 1) b.reverse p.2.reverse = (addRow (W / p.2.sum) (k + 1) b p.2).reverse
  rw [sum_rev]
  exact rev_row (by omega)
theorem rev_fold {W : Int} {n : Nat} : ∀ {sp : List (Nat × List Int)} {T : List (List Int)}, Sp W n sp → Dues W n T → (sp.map fun p => (p.1, p.2.reverse)).foldl (duesUp W) (T.map List.reverse) = (sp.foldl (duesUp W) T).map List.reverse
  | [], T, _, _ => rfl
  | p :: sp, T, q, D => by
    have hp : p ∈ p :: sp := List.mem_cons_self ..
    rw [List.map_cons, List.foldl_cons, List.foldl_cons, rev_up D (q.len p hp)]
    exact rev_fold ⟨fun r hr => q.len r (List.mem_cons_of_mem _ hr), fun r hr => q.w r (List.mem_cons_of_mem _ hr), fun r hr => q.s r (List.mem_cons_of_mem _ hr), fun r hr => q.d r (List.mem_cons_of_mem _ hr), q.W⟩ (D.up (q.len p hp) (q.w p hp) (q.s p hp) (q.d p hp) q.W)
theorem turned_is {W : Int} {n : Nat} {sp : List (Nat × List Int)} (q : Sp W n sp) : duesZ W n (sp.map fun p => (p.1, p.2.reverse)) = (duesZ W n sp).map List.reverse := by
  unfold duesZ
  rw [← rev_fold q (due0 W n), List.map_cons, List.map_nil, List.reverse_replicate]
/-! ### claimants turned -/
def rv (n : Nat) (row : List Nat) : List Nat := row.map fun i => n - 1 - i
theorem rv_mem {n : Nat} {row : List Nat} (hn : 1 ≤ n) : ∀ i ∈ rv n row, i < n := fun i hi' => by
  obtain ⟨j, _, rfl⟩ := List.mem_map.mp hi'
  omega
theorem rv_len (n : Nat) (row : List Nat) : (rv n row).length = row.length := List.length_map _
theorem rv_rv {n : Nat} {row : List Nat} (h : ∀ i ∈ row, i < n) : rv n (rv n row) = row := by
  unfold rv
  rw [List.map_map]
  conv => rhs; rw [← List.map_id row]
  refine List.map_congr_left fun i hi' => ?_
  have := h i hi'
  show n - 1 - (n - 1 - i) = i
  omega
theorem rv_cnt {n i : Nat} (hi' : i < n) : ∀ {row : List Nat}, (∀ j ∈ row, j < n) → cnt (rv n row) i = cnt row (n - 1 - i)
  | [], _ => rfl
  | x :: row, h => by
    have ih := rv_cnt hi' (row := row) fun j hj => h j (List.mem_cons_of_mem _ hj)
    have hx := h x (List.mem_cons_self ..)
    show cnt ((n - 1 - x) :: rv n row) i = _
    rw [cnt_cons, cnt_cons, ih]
    by_cases e : x = n - 1 - i
    · rw [if_pos e, if_pos (by omega)]
    · rw [if_neg e, if_neg (by omega)]
theorem rev_due {n t i : Nat} {T : List (List Int)} (hr : ∀ r ∈ T, r.length = n) (ht : t < T.length) (hi' : i < n) : due (T.map List.reverse) t i = due T t (n - 1 - i) := by
  have hl : T[t].length = n := hr _ (List.getElem_mem _)
  unfold due
  have e : (T.map List.reverse).getD t [] = T[t].reverse := by
    rw [List.getD_eq_getElem?_getD, List.getElem?_map, List.getElem?_eq_getElem ht] <;> rfl
  rw [e, getD_lt ht, List.getD_eq_getElem?_getD, List.getElem?_reverse (by omega), ← List.getD_eq_getElem?_getD, hl]
theorem rev_worst {W : Int} {n : Nat} {T : List (List Int)} {row : List Nat} (hr : ∀ r ∈ T, r.length = n) (hl : row.length + 1 = T.length) (hm : ∀ i ∈ row, i < n) : worstZ (lagsZ W n (T.map List.reverse) (rv n row)) = worstZ (lagsZ W n T row) := by
  have hr2 : ∀ r ∈ T.map List.reverse, r.length = n := fun r hr' => by
    obtain ⟨s, hs, rfl⟩ := List.mem_map.mp hr'
    rw [List.length_reverse]
    exact hr s hs
  have hl2 : (rv n row).length + 1 = (T.map List.reverse).length := by
    rw [rv_len, List.length_map]
    exact hl
  have key : ∀ M, worstZ (lagsZ W n (T.map List.reverse) (rv n row)) ≤ M ↔ worstZ (lagsZ W n T row) ≤ M := fun M => by
    rw [row_worst hr2 hl2, row_worst hr hl, List.length_map]
    refine and_congr_right fun _ => ?_
    have tk : ∀ t, (rv n row).take t = rv n (row.take t) := fun t => by
      unfold rv
      rw [List.map_take]
    refine ⟨fun h t ht i hi' => ?_, fun h t ht i hi' => ?_⟩
    · have q := h t ht (n - 1 - i) (by omega)
      rw [rev_due hr ht (by omega), tk, rv_cnt (by omega) fun j hj => hm j (List.mem_of_mem_take hj), show n - 1 - (n - 1 - i) = i by omega] at q
      exact q
    · rw [rev_due hr ht hi', tk, rv_cnt hi' fun j hj => hm j (List.mem_of_mem_take hj)]
      exact h t ht (n - 1 - i) (by omega)
  exact Int.le_antisymm ((key _).mpr (Int.le_refl _)) ((key _).mp (Int.le_refl _))
theorem turned_least {W : Int} {n : Nat} {T : List (List Int)} (L : OkLw W n T) : leastZ W n (T.map List.reverse) = leastZ W n T := by
  obtain ⟨m, em, hm⟩ := least_is (W := W) L.n1.1 L.l.1
  rw [em]
  refine least_of L.n1.1 (by rw [List.length_map]; exact L.l.1) ⟨fun row h1 h2 => ?_, ?_⟩
  · rw [List.length_map] at h1
    have q := rev_worst (W := W) (row := rv n row) L.r (by rw [rv_len]; exact h1) (rv_mem L.n1.1)
    rw [rv_rv h2] at q
    rw [q]
    exact hm.le _ (by rw [rv_len]; exact h1) (rv_mem L.n1.1)
  · obtain ⟨row, h1, h2, h3⟩ := hm.at_
    refine ⟨rv n row, by rw [rv_len, List.length_map]; exact h1, rv_mem L.n1.1, ?_⟩
    rw [rev_worst L.r h1 h2]
    exact h3
theorem law_math : LawMath where
  fair := fun W n T d L D h => fair_is L D h
  scaled := fun W n sp o ho q hd => scaled_is ho q hd
  turned := fun W n sp q => turned_is q
  turnedL := fun W n T L => turned_least L
end Du

namespace Du
open PySem PySem.Spec PyProof.Rows L2
def fd0 : FuncData := PySem.W.fnOf "" "" ⟨[], [], none, [], [], none, []⟩ [] ⟨.function, [], false, false, []⟩ .none .none .none .none none .none .none
def d_is_whole : He.DefD := ⟨("is_whole", none), "is_whole", "is_whole", defArgs s_is_whole, defBody s_is_whole, defScope s_is_whole, [], []⟩
def d_common : He.DefD := ⟨("common", none), "common", "common", defArgs s_common, defBody s_common, defScope s_common, [], []⟩
def d_made : He.DefD := ⟨("made", none), "made", "made", defArgs s_made, defBody s_made, defScope s_made, [], []⟩
def d_plus : He.DefD := ⟨("plus", none), "plus", "plus", defArgs s_plus, defBody s_plus, defScope s_plus, [], []⟩
def d_minus : He.DefD := ⟨("minus", none), "minus", "minus", defArgs s_minus, defBody s_minus, defScope s_minus, [], []⟩
def d_less : He.DefD := ⟨("less", none), "less", "less", defArgs s_less, defBody s_less, defScope s_less, [], []⟩
def d_floor_of : He.DefD := ⟨("floor_of", none), "floor_of", "floor_of", defArgs s_floor_of, defBody s_floor_of, defScope s_floor_of, [], []⟩
def d_ceiling_of : He.DefD := ⟨("ceiling_of", none), "ceiling_of", "ceiling_of", defArgs s_ceiling_of, defBody s_ceiling_of, defScope s_ceiling_of, [], []⟩
def d_low_of : He.DefD := ⟨("low_of", none), "low_of", "low_of", defArgs s_low_of, defBody s_low_of, defScope s_low_of, [], []⟩
def d_high_of : He.DefD := ⟨("high_of", none), "high_of", "high_of", defArgs s_high_of, defBody s_high_of, defScope s_high_of, [], []⟩
def d_ranges_by_turns : He.DefD := ⟨("ranges_by_turns", none), "ranges_by_turns", "ranges_by_turns", defArgs s_ranges_by_turns, defBody s_ranges_by_turns, defScope s_ranges_by_turns, [], []⟩
def d_must_by : He.DefD := ⟨("must_by", none), "must_by", "must_by", defArgs s_must_by, defBody s_must_by, defScope s_must_by, [], []⟩
def d_soonest : He.DefD := ⟨("soonest", none), "soonest", "soonest", defArgs s_soonest, defBody s_soonest, defScope s_soonest, [], []⟩
def d_too_far : He.DefD := ⟨("too_far", none), "too_far", "too_far", defArgs s_too_far, defBody s_too_far, defScope s_too_far, [], []⟩
def d_too_few : He.DefD := ⟨("too_few", none), "too_few", "too_few", defArgs s_too_few, defBody s_too_few, defScope s_too_few, [], []⟩
def d_over_from : He.DefD := ⟨("over_from", none), "over_from", "over_from", defArgs s_over_from, defBody s_over_from, defScope s_over_from, [], []⟩
def d_dealt : He.DefD := ⟨("dealt", none), "dealt", "dealt", defArgs s_dealt, defBody s_dealt, defScope s_dealt, [], []⟩
def d_rising : He.DefD := ⟨("rising", none), "rising", "rising", defArgs s_rising, defBody s_rising, defScope s_rising, [], []⟩
def d_sorted_by_worth : He.DefD := ⟨("sorted_by_worth", none), "sorted_by_worth", "sorted_by_worth", defArgs s_sorted_by_worth, defBody s_sorted_by_worth, defScope s_sorted_by_worth, [], []⟩
def d_together : He.DefD := ⟨("together", none), "together", "together", defArgs s_together, defBody s_together, defScope s_together, [], []⟩
def d_parts_of_one : He.DefD := ⟨("parts_of_one", none), "parts_of_one", "parts_of_one", defArgs s_parts_of_one, defBody s_parts_of_one, defScope s_parts_of_one, [], []⟩
def d_all_in : He.DefD := ⟨("all_in", none), "all_in", "all_in", defArgs s_all_in, defBody s_all_in, defScope s_all_in, [], []⟩
def d_first_kept : He.DefD := ⟨("first_kept", none), "first_kept", "first_kept", defArgs s_first_kept, defBody s_first_kept, defScope s_first_kept, [], []⟩
def d_fairest : He.DefD := ⟨("fairest", none), "fairest", "fairest", defArgs s_fairest, defBody s_fairest, defScope s_fairest, [], []⟩
def d_are_weights : He.DefD := ⟨("are_weights", none), "are_weights", "are_weights", defArgs s_are_weights, defBody s_are_weights, defScope s_are_weights, [], []⟩
def d_is_spell : He.DefD := ⟨("is_spell", none), "is_spell", "is_spell", defArgs s_is_spell, defBody s_is_spell, defScope s_is_spell, [], []⟩
def d_check_spells : He.DefD := ⟨("check_spells", none), "check_spells", "check_spells", defArgs s_check_spells, defBody s_check_spells, defScope s_check_spells, [], []⟩
def d_Plan___init__ : He.DefD := ⟨("Plan", some "__init__"), "__init__", "Plan.__init__", defArgs s_Plan___init__, defBody s_Plan___init__, defScope s_Plan___init__, [], []⟩
def d_Plan_many : He.DefD := ⟨("Plan", some "many"), "many", "Plan.many", defArgs s_Plan_many, defBody s_Plan_many, defScope s_Plan_many, [], []⟩
def d_Plan_dues_by_turns : He.DefD := ⟨("Plan", some "dues_by_turns"), "dues_by_turns", "Plan.dues_by_turns", defArgs s_Plan_dues_by_turns, defBody s_Plan_dues_by_turns, defScope s_Plan_dues_by_turns, [], []⟩
def d__law_cell_at : He.DefD := ⟨("_law_cell_at", none), "_law_cell_at", "_law_cell_at", defArgs s__law_cell_at, defBody s__law_cell_at, defScope s__law_cell_at, [], []⟩
def d__law_draw : He.DefD := ⟨("_law_draw", none), "_law_draw", "_law_draw", defArgs s__law_draw, defBody s__law_draw, defScope s__law_draw, [], []⟩
def d__law_common : He.DefD := ⟨("_law_common", none), "_law_common", "_law_common", defArgs s__law_common, defBody s__law_common, defScope s__law_common, [], []⟩
def d__law_lowest : He.DefD := ⟨("_law_lowest", none), "_law_lowest", "_law_lowest", defArgs s__law_lowest, defBody s__law_lowest, defScope s__law_lowest, [], []⟩
def d__law_weight : He.DefD := ⟨("_law_weight", none), "_law_weight", "_law_weight", defArgs s__law_weight, defBody s__law_weight, defScope s__law_weight, [], []⟩
def d__law_dues : He.DefD := ⟨("_law_dues", none), "_law_dues", "_law_dues", defArgs s__law_dues, defBody s__law_dues, defScope s__law_dues, [], []⟩
def d__law_lags : He.DefD := ⟨("_law_lags", none), "_law_lags", "_law_lags", defArgs s__law_lags, defBody s__law_lags, defScope s__law_lags, [], []⟩
def d__law_longer : He.DefD := ⟨("_law_longer", none), "_law_longer", "_law_longer", defArgs s__law_longer, defBody s__law_longer, defScope s__law_longer, [], []⟩
def d__law_small : He.DefD := ⟨("_law_small", none), "_law_small", "_law_small", defArgs s__law_small, defBody s__law_small, defScope s__law_small, [], []⟩
def d__law_worst : He.DefD := ⟨("_law_worst", none), "_law_worst", "_law_worst", defArgs s__law_worst, defBody s__law_worst, defScope s__law_worst, [], []⟩
def d__law_least : He.DefD := ⟨("_law_least", none), "_law_least", "_law_least", defArgs s__law_least, defBody s__law_least, defScope s__law_least, [], []⟩
def d_law : He.DefD := ⟨("law", none), "law", "law", defArgs s_law, defBody s_law, defScope s_law, [], []⟩
def fn0 : List He.DefD := [d_is_whole, d_common, d_made, d_plus, d_minus, d_less, d_floor_of, d_ceiling_of, d_low_of, d_high_of, d_ranges_by_turns, d_must_by, d_soonest, d_too_far, d_too_few, d_over_from, d_dealt, d_rising, d_sorted_by_worth, d_together, d_parts_of_one, d_all_in, d_first_kept, d_fairest, d_are_weights, d_is_spell, d_check_spells, d_Plan___init__, d_Plan_many, d_Plan_dues_by_turns]
def fn1 : List He.DefD := [d__law_cell_at, d__law_draw, d__law_common, d__law_lowest, d__law_weight, d__law_dues, d__law_lags, d__law_longer, d__law_small, d__law_worst, d__law_least, d_law]
def fnA : List He.DefD := fn0 ++ fn1
def fa0 : List He.Fa := [.cls "Plan", .noat "Plan" "kept", .noat "Plan" "table", .mkr "Plan", .meth "Plan" "many", .meth "Plan" "dues_by_turns", .glo "Plan", .glo "NOUGHT", .glo "ONE", .free "abs", .free "bool", .free "int", .free "isinstance", .free "len", .free "list", .free "max", .free "min", .free "range", .free "sum", .free "tuple", .free "zip", .int "MOST_SPELLS" 8, .int "MOST_TURNS" 240, .int "MOST_IN_SPELL" 60, .int "MOST_CLAIMANTS" 6, .int "MOST_WEIGHT" 1000, .glo "is_whole", .glo "common", .glo "made", .glo "plus"]
def fa1 : List He.Fa := [.glo "minus", .glo "less", .glo "floor_of", .glo "ceiling_of", .glo "low_of", .glo "high_of", .glo "ranges_by_turns", .glo "must_by", .glo "soonest", .glo "too_far", .glo "too_few", .glo "over_from", .glo "dealt", .glo "rising", .glo "sorted_by_worth", .glo "together", .glo "parts_of_one", .glo "all_in", .glo "first_kept", .glo "fairest", .glo "are_weights", .glo "is_spell", .glo "check_spells", .glo "_law_cell_at", .glo "_law_draw", .glo "_law_common", .glo "_law_lowest", .glo "_law_weight", .glo "_law_dues", .glo "_law_lags"]
def fa2 : List He.Fa := [.glo "_law_longer", .glo "_law_small", .glo "_law_worst", .glo "_law_least", .glo "law"]
def faA : List He.Fa := fa0 ++ fa1 ++ fa2
def exA (K : PySem.W.Frag) : Bool := He.tupB K "NOUGHT" [.int 0, .int 1] && He.tupB K "ONE" [.int 1, .int 1]
def fdAt (K : PySem.W.Frag) (q : Str) (a : Addr) : FuncData := fdO K a fd0
def fdM (K : PySem.W.Frag) (q : Str) : FuncData := if q = "Plan.__init__" then fdO K (He.ma K (He.ga K "Plan") "__init__") fd0 else if q = "Plan.many" then fdO K (He.ma K (He.ga K "Plan") "many") fd0 else if q = "Plan.dues_by_turns" then fdO K (He.ma K (He.ga K "Plan") "dues_by_turns") fd0 else fdO K (He.ga K q) fd0
theorem fun_of {K : PySem.W.Frag} {x q : Str} {st : Stmt} {f : Addr} {fd : FuncData} (F : FunD K x q (defArgs st) (defBody st) (defScope st) [] [] f fd) : Fun K x q st f (fdO K f fd0) := by
  obtain ⟨oc, od, dV, kV, doc, pm, an, cdv, ct, osl, e, lk, hcd, hD, _⟩ := F.ex
  have e2 : fdO K f fd0 = fd := by
    unfold fdO
    rw [lk]
  rw [e2]
  have e3 : dV = .none := by
    rcases hD with ⟨_, z⟩ | ⟨z, _⟩
    · exact z
    · exact absurd rfl z
  subst e3
  exact ⟨⟨oc, od, kV, doc, pm, an, cdv, ct, osl, e, lk, hcd⟩, F.kp⟩
section
variable {K : PySem.W.Frag} {h : Heap} {mg : Str → Option Value}
theorem tx_of (X : K.In h) (G : h.Ns mainGlobals mg) (c : He.SaysD faA fnA K) (e : exA K = true) : Tx K mg (fdM K) (He.ga K "Plan") where
  C_is := rfl
  cl := ⟨He.cls_ok (c.fact 0 (f := .cls "Plan") rfl), He.noat_ok (c.fact 1 (f := .noat "Plan" "kept") rfl), He.noat_ok (c.fact 2 (f := .noat "Plan" "table") rfl)⟩
  mkC := He.mkr_ok (c.fact 3 (f := .mkr "Plan") rfl)
  m_Plan := He.glo_ok X G (c.fact 6 (f := .glo "Plan") rfl)
  n_abs := He.free_ok X G (c.fact 9 (f := .free "abs") rfl)
  n_bool := He.free_ok X G (c.fact 10 (f := .free "bool") rfl)
  n_int := He.free_ok X G (c.fact 11 (f := .free "int") rfl)
  n_isinstance := He.free_ok X G (c.fact 12 (f := .free "isinstance") rfl)
  n_len := He.free_ok X G (c.fact 13 (f := .free "len") rfl)
  n_list := He.free_ok X G (c.fact 14 (f := .free "list") rfl)
  n_max := He.free_ok X G (c.fact 15 (f := .free "max") rfl)
  n_min := He.free_ok X G (c.fact 16 (f := .free "min") rfl)
  n_range := He.free_ok X G (c.fact 17 (f := .free "range") rfl)
  n_sum := He.free_ok X G (c.fact 18 (f := .free "sum") rfl)
  n_tuple := He.free_ok X G (c.fact 19 (f := .free "tuple") rfl)
  n_zip := He.free_ok X G (c.fact 20 (f := .free "zip") rfl)
  c_MOST_SPELLS := by
    obtain ⟨t, ht⟩ := He.int_ok X G (c.fact 21 (f := .int "MOST_SPELLS" 8) rfl)
    exact ⟨_, ht, t, rfl⟩
  c_MOST_TURNS := by
    obtain ⟨t, ht⟩ := He.int_ok X G (c.fact 22 (f := .int "MOST_TURNS" 240) rfl)
    exact ⟨_, ht, t, rfl⟩
  c_MOST_IN_SPELL := by
    obtain ⟨t, ht⟩ := He.int_ok X G (c.fact 23 (f := .int "MOST_IN_SPELL" 60) rfl)
    exact ⟨_, ht, t, rfl⟩
  c_MOST_CLAIMANTS := by
    obtain ⟨t, ht⟩ := He.int_ok X G (c.fact 24 (f := .int "MOST_CLAIMANTS" 6) rfl)
    exact ⟨_, ht, t, rfl⟩
  c_MOST_WEIGHT := by
    obtain ⟨t, ht⟩ := He.int_ok X G (c.fact 25 (f := .int "MOST_WEIGHT" 1000) rfl)
    exact ⟨_, ht, t, rfl⟩
  c_NOUGHT := ⟨_, He.glo_ok X G (c.fact 7 (f := .glo "NOUGHT") rfl), rfl⟩
  k_NOUGHT := fun H => He.tupB_ok (Bool.and_eq_true_iff.mp e).1 H
  c_ONE := ⟨_, He.glo_ok X G (c.fact 8 (f := .glo "ONE") rfl), rfl⟩
  k_ONE := fun H => He.tupB_ok (Bool.and_eq_true_iff.mp e).2 H
  m_is_whole := He.glo_ok X G (c.fact 26 (f := .glo "is_whole") rfl)
  F_is_whole := by
    obtain ⟨fd, F⟩ := c.def_ 0 (d := d_is_whole) rfl
    exact fun_of F
  m_common := He.glo_ok X G (c.fact 27 (f := .glo "common") rfl)
  F_common := by
    obtain ⟨fd, F⟩ := c.def_ 1 (d := d_common) rfl
    exact fun_of F
  m_made := He.glo_ok X G (c.fact 28 (f := .glo "made") rfl)
  F_made := by
    obtain ⟨fd, F⟩ := c.def_ 2 (d := d_made) rfl
    exact fun_of F
  m_plus := He.glo_ok X G (c.fact 29 (f := .glo "plus") rfl)
  F_plus := by
    obtain ⟨fd, F⟩ := c.def_ 3 (d := d_plus) rfl
    exact fun_of F
  m_minus := He.glo_ok X G (c.fact 30 (f := .glo "minus") rfl)
  F_minus := by
    obtain ⟨fd, F⟩ := c.def_ 4 (d := d_minus) rfl
    exact fun_of F
  m_less := He.glo_ok X G (c.fact 31 (f := .glo "less") rfl)
  F_less := by
    obtain ⟨fd, F⟩ := c.def_ 5 (d := d_less) rfl
    exact fun_of F
  m_floor_of := He.glo_ok X G (c.fact 32 (f := .glo "floor_of") rfl)
  F_floor_of := by
    obtain ⟨fd, F⟩ := c.def_ 6 (d := d_floor_of) rfl
    exact fun_of F
  m_ceiling_of := He.glo_ok X G (c.fact 33 (f := .glo "ceiling_of") rfl)
  F_ceiling_of := by
    obtain ⟨fd, F⟩ := c.def_ 7 (d := d_ceiling_of) rfl
    exact fun_of F
  m_low_of := He.glo_ok X G (c.fact 34 (f := .glo "low_of") rfl)
  F_low_of := by
    obtain ⟨fd, F⟩ := c.def_ 8 (d := d_low_of) rfl
    exact fun_of F
  m_high_of := He.glo_ok X G (c.fact 35 (f := .glo "high_of") rfl)
  F_high_of := by
    obtain ⟨fd, F⟩ := c.def_ 9 (d := d_high_of) rfl
    exact fun_of F
  m_ranges_by_turns := He.glo_ok X G (c.fact 36 (f := .glo "ranges_by_turns") rfl)
  F_ranges_by_turns := by
    obtain ⟨fd, F⟩ := c.def_ 10 (d := d_ranges_by_turns) rfl
    exact fun_of F
  m_must_by := He.glo_ok X G (c.fact 37 (f := .glo "must_by") rfl)
  F_must_by := by
    obtain ⟨fd, F⟩ := c.def_ 11 (d := d_must_by) rfl
    exact fun_of F
  m_soonest := He.glo_ok X G (c.fact 38 (f := .glo "soonest") rfl)
  F_soonest := by
    obtain ⟨fd, F⟩ := c.def_ 12 (d := d_soonest) rfl
    exact fun_of F
  m_too_far := He.glo_ok X G (c.fact 39 (f := .glo "too_far") rfl)
  F_too_far := by
    obtain ⟨fd, F⟩ := c.def_ 13 (d := d_too_far) rfl
    exact fun_of F
  m_too_few := He.glo_ok X G (c.fact 40 (f := .glo "too_few") rfl)
  F_too_few := by
    obtain ⟨fd, F⟩ := c.def_ 14 (d := d_too_few) rfl
    exact fun_of F
  m_over_from := He.glo_ok X G (c.fact 41 (f := .glo "over_from") rfl)
  F_over_from := by
    obtain ⟨fd, F⟩ := c.def_ 15 (d := d_over_from) rfl
    exact fun_of F
  m_dealt := He.glo_ok X G (c.fact 42 (f := .glo "dealt") rfl)
  F_dealt := by
    obtain ⟨fd, F⟩ := c.def_ 16 (d := d_dealt) rfl
    exact fun_of F
  m_rising := He.glo_ok X G (c.fact 43 (f := .glo "rising") rfl)
  F_rising := by
    obtain ⟨fd, F⟩ := c.def_ 17 (d := d_rising) rfl
    exact fun_of F
  m_sorted_by_worth := He.glo_ok X G (c.fact 44 (f := .glo "sorted_by_worth") rfl)
  F_sorted_by_worth := by
    obtain ⟨fd, F⟩ := c.def_ 18 (d := d_sorted_by_worth) rfl
    exact fun_of F
  m_together := He.glo_ok X G (c.fact 45 (f := .glo "together") rfl)
  F_together := by
    obtain ⟨fd, F⟩ := c.def_ 19 (d := d_together) rfl
    exact fun_of F
  m_parts_of_one := He.glo_ok X G (c.fact 46 (f := .glo "parts_of_one") rfl)
  F_parts_of_one := by
    obtain ⟨fd, F⟩ := c.def_ 20 (d := d_parts_of_one) rfl
    exact fun_of F
  m_all_in := He.glo_ok X G (c.fact 47 (f := .glo "all_in") rfl)
  F_all_in := by
    obtain ⟨fd, F⟩ := c.def_ 21 (d := d_all_in) rfl
    exact fun_of F
  m_first_kept := He.glo_ok X G (c.fact 48 (f := .glo "first_kept") rfl)
  F_first_kept := by
    obtain ⟨fd, F⟩ := c.def_ 22 (d := d_first_kept) rfl
    exact fun_of F
  m_fairest := He.glo_ok X G (c.fact 49 (f := .glo "fairest") rfl)
  F_fairest := by
    obtain ⟨fd, F⟩ := c.def_ 23 (d := d_fairest) rfl
    exact fun_of F
  m_are_weights := He.glo_ok X G (c.fact 50 (f := .glo "are_weights") rfl)
  F_are_weights := by
    obtain ⟨fd, F⟩ := c.def_ 24 (d := d_are_weights) rfl
    exact fun_of F
  m_is_spell := He.glo_ok X G (c.fact 51 (f := .glo "is_spell") rfl)
  F_is_spell := by
    obtain ⟨fd, F⟩ := c.def_ 25 (d := d_is_spell) rfl
    exact fun_of F
  m_check_spells := He.glo_ok X G (c.fact 52 (f := .glo "check_spells") rfl)
  F_check_spells := by
    obtain ⟨fd, F⟩ := c.def_ 26 (d := d_check_spells) rfl
    exact fun_of F
  F___init__ := by
    obtain ⟨fd, F⟩ := c.def_ 27 (d := d_Plan___init__) rfl
    exact fun_of F
  F_many := by
    obtain ⟨fd, F⟩ := c.def_ 28 (d := d_Plan_many) rfl
    exact fun_of F
  M_many := He.meth_ok (c.fact 4 (f := .meth "Plan" "many") rfl)
  F_dues_by_turns := by
    obtain ⟨fd, F⟩ := c.def_ 29 (d := d_Plan_dues_by_turns) rfl
    exact fun_of F
  M_dues_by_turns := He.meth_ok (c.fact 5 (f := .meth "Plan" "dues_by_turns") rfl)
  m__law_cell_at := He.glo_ok X G (c.fact 53 (f := .glo "_law_cell_at") rfl)
  F__law_cell_at := by
    obtain ⟨fd, F⟩ := c.def_ 30 (d := d__law_cell_at) rfl
    exact fun_of F
  m__law_draw := He.glo_ok X G (c.fact 54 (f := .glo "_law_draw") rfl)
  F__law_draw := by
    obtain ⟨fd, F⟩ := c.def_ 31 (d := d__law_draw) rfl
    exact fun_of F
  m__law_common := He.glo_ok X G (c.fact 55 (f := .glo "_law_common") rfl)
  F__law_common := by
    obtain ⟨fd, F⟩ := c.def_ 32 (d := d__law_common) rfl
    exact fun_of F
  m__law_lowest := He.glo_ok X G (c.fact 56 (f := .glo "_law_lowest") rfl)
  F__law_lowest := by
    obtain ⟨fd, F⟩ := c.def_ 33 (d := d__law_lowest) rfl
    exact fun_of F
  m__law_weight := He.glo_ok X G (c.fact 57 (f := .glo "_law_weight") rfl)
  F__law_weight := by
    obtain ⟨fd, F⟩ := c.def_ 34 (d := d__law_weight) rfl
    exact fun_of F
  m__law_dues := He.glo_ok X G (c.fact 58 (f := .glo "_law_dues") rfl)
  F__law_dues := by
    obtain ⟨fd, F⟩ := c.def_ 35 (d := d__law_dues) rfl
    exact fun_of F
  m__law_lags := He.glo_ok X G (c.fact 59 (f := .glo "_law_lags") rfl)
  F__law_lags := by
    obtain ⟨fd, F⟩ := c.def_ 36 (d := d__law_lags) rfl
    exact fun_of F
  m__law_longer := He.glo_ok X G (c.fact 60 (f := .glo "_law_longer") rfl)
  F__law_longer := by
    obtain ⟨fd, F⟩ := c.def_ 37 (d := d__law_longer) rfl
    exact fun_of F
  m__law_small := He.glo_ok X G (c.fact 61 (f := .glo "_law_small") rfl)
  F__law_small := by
    obtain ⟨fd, F⟩ := c.def_ 38 (d := d__law_small) rfl
    exact fun_of F
  m__law_worst := He.glo_ok X G (c.fact 62 (f := .glo "_law_worst") rfl)
  F__law_worst := by
    obtain ⟨fd, F⟩ := c.def_ 39 (d := d__law_worst) rfl
    exact fun_of F
  m__law_least := He.glo_ok X G (c.fact 63 (f := .glo "_law_least") rfl)
  F__law_least := by
    obtain ⟨fd, F⟩ := c.def_ 40 (d := d__law_least) rfl
    exact fun_of F
  m_law := He.glo_ok X G (c.fact 64 (f := .glo "law") rfl)
  F_law := by
    obtain ⟨fd, F⟩ := c.def_ 41 (d := d_law) rfl
    exact fun_of F
end
end Du

namespace Du
open PySem PySem.Spec PyProof.Rows L2
abbrev RR : PySem.W.OpenRow := PySem.W.OpenLaw.row PySem.Challenge.rw_dueturns_k22_whole_no_row_is_fairer
def tfA : List He.Defn := [("fairest", none)]
abbrev hkA : PySem.W.Hook := He.hookX 6 faA fnA [] tfA exA
def obA (s : PySem.W.SharedT) : He.AlX := He.obsX 6 faA fnA [] tfA exA (HandSHeadRun.getT s)
theorem obA_eq (s : PySem.W.SharedT) : obA s = hkA.obs s.abs := He.obsX_eq (HandSHeadRun.getT_eq s)
def lo0 : List PySem.Str := ["_wall", "__name__", "DueError", "NoFraction", "NoPlan", "NoTurns", "NoClaimant", "NOUGHT", "ONE", "is_whole", "common", "made", "plus", "minus", "times", "less", "floor_of", "ceiling_of", "low_of", "high_of", "ranges_by_turns", "must_by", "soonest", "too_far", "too_few", "over_from", "dealt", "rising", "sorted_by_worth", "together"]
def lo1 : List PySem.Str := ["parts_of_one", "all_in", "first_kept", "fairest", "MOST_SPELLS", "MOST_TURNS", "MOST_IN_SPELL", "MOST_CLAIMANTS", "MOST_WEIGHT", "are_weights", "is_spell", "check_spells", "Plan", "_law_cell_at", "_law_draw", "_law_whole", "_law_common", "_law_lowest", "_law_weight", "_law_dues", "_law_lags", "_law_longer", "_law_small", "_law_worst", "_law_least"]
def looseA : List PySem.Str := lo0 ++ lo1
theorem runA (w : World) : HandSHeadRun.RunEq RR (PySem.W.view RR.prog [61]) hkA obA 20000 looseA w := by
  intro os
  kernel_rfl
end Du

namespace Du
open PySem PySem.Spec PyProof.Rows L2
theorem ends {w : World} {K : PySem.W.Frag} {h : Heap} {mg : Str → Option Value} {fa : Addr} (X : K.In h) (G : h.Ns mainGlobals mg) (hfa : mg ("law" : Str) = some (.ref fa)) (c : He.SaysX faA fnA [] tfA exA w h K) :
    LamX.LawAtS PySem.Challenge.rw_dueturns_k22_whole_no_row_is_fairer w K CX0 15 63 "_law_script" mg fa h := by
  have T := tx_of X G c.t.d c.more
  have e := hfa.symm.trans T.m_law
  cases e
  have hm : (("fairest", none) : He.Defn) ∈ tfA := List.mem_singleton.mpr rfl
  obtain ⟨oc, od, kV, doc, pm, an, cdv, ct, osl, ef, lk, hcd⟩ := T.F_fairest.ex
  obtain ⟨cc, rfl⟩ := He.codeIn_ref hcd
  have hcode : (fdM K "fairest").code = .ref cc := by rw [ef] <;> rfl
  have ec : He.codeOf K ("fairest", none) = cc := He.codeOf_eq (p := ("fairest", none)) lk hcode
  have hcT : (He.cT K ("fairest", none)).1 = cc := ec
  refine ⟨fdM K "law", [He.cT K ("fairest", none)], spLaw K (He.cT K ("fairest", none)).2, fun p hp => ?_, fun p hp => ?_, fun p hp => ?_, fun s u => ?_, fun H a ns hl _ hH hS => ?_, fun base KB GB TB => ?_⟩
  · rw [List.mem_singleton.mp hp]
    exact c.empty _ hm
  · rw [List.mem_singleton.mp hp]
    exact c.out _ hm
  · rw [List.mem_singleton.mp hp]
    exact PySem.W.codeHd_of_K X (c.hd _ hm)
  · obtain ⟨oc, od, kV, doc, pm, an, cdv, ct, osl, el, lk, hcd⟩ := T.F_law.ex
    rw [el]
    exact .of_eq rfl
  · exact ⟨a, ns, rfl, hS, fun p hp => by
      rw [List.mem_singleton.mp hp]
      exact LamX.TabS.nil (hH _ (List.mem_singleton.mpr rfl)), fun _ => rfl⟩
  · have tb := TB _ (List.mem_singleton.mpr rfl)
    rw [hcT] at tb
    exact ok_law law_math (tx_of KB GB c.t.d c.more) tb hcode
end Du
open PySem PySem.W PySem.Calls PyProof.Rows
theorem PySem.Challenge.cw_dueturns_k22_whole_no_row_is_fairer_holds : PySem.Challenge.rw_dueturns_k22_whole_no_row_is_fairer.Holds := by
  w_on; o_law
  refine HandSHeadRun.head_any (r := OpenLaw.row PySem.Challenge.rw_dueturns_k22_whole_no_row_is_fairer) (q := view (OpenLaw.row PySem.Challenge.rw_dueturns_k22_whole_no_row_is_fairer).prog [61]) (H := Du.hkA) (ob := Du.obA) (M := 20000) (loose := Du.looseA) (d := HandSHeadRun.topDef (OpenLaw.row PySem.Challenge.rw_dueturns_k22_whole_no_row_is_fairer).prog 61) (kwd := []) Du.obA_eq
    (by kernel_rfl) (fun s => by kernel_rfl) Du.runA (by kernel_rfl) (by kernel_rfl) (by kernel_rfl) (by rfl) (by first | assumption | decide +kernel) (by decide +kernel) ⟨rfl, rfl, rfl, rfl, rfl, by decide +kernel⟩ ?hw ?hc
  case hw => w_witness2
  case hc =>
    refine LamX.walk_ofTsE (l := PySem.Challenge.rw_dueturns_k22_whole_no_row_is_fairer) (n := 63) (k := 15) (x := "_law_script") (CX := fun _ => L2.CX0) rfl (by decide) (by kernel_rfl) ⟨rfl, by decide, by decide⟩ ?F (fun _ _ _ _ _ z => z)
    intro w mg fa h Y G hmg0
    obtain ⟨K, KX, c⟩ := Y
    have hmg : mg ("law" : PySem.Str) = some (.ref fa) := by
      have e : (HandSHeadRun.topDef (OpenLaw.row PySem.Challenge.rw_dueturns_k22_whole_no_row_is_fairer).prog 61).name = ("law" : PySem.Str) := by kernel_rfl
      rw [← e]
      exact hmg0
    exact ⟨K, KX, Du.ends KX G hmg c⟩
