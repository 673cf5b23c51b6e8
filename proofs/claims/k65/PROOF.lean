import PyProof.Rows.All
import Wide.All
import OpenK.AllK
import Wide.FinOn
import HandS.ForMost
import HandS.ForExc
import HandS.HeadHook3
import PySem.Challenge.RW_sinceply_k65_whole_desks_and_texts
import PyProof.ListRange
import KE.DataMinMax
import HandS.Rev
import HandS.More
import HandS.Conv
import HandS.Deep
import HandS.TupSets
import HandS.IsInst
import HandS.Defaults
import HandS.Small
import HandS.Wide
import HandS.Walk
import HandS.Text
import HandS.WordsExc
import HandS.Iter
import HandS.TryOnly
import HandS.ExcOwn
import KE.KStateDown
import Lean
import HandS.Head0
import HandS.Head1
import HandS.Head2
import HandS.HeadEnd
import HandS.HeadHook1
import HandS.HeadHook2
set_option Elab.async false
set_option linter.all false
namespace SP
/-- a tie: its moment, its two places -/
structure T where
  m : Nat
  a : Nat
  b : Nat
  deriving DecidableEq
/-! ### marks -/
abbrev Row := List Nat
def at_ (r : Row) (i : Nat) : Nat := r.getD i 0
/-- the program's relabelling -/
def jn (r : Row) (a b : Nat) : Row :=
  r.map fun x => if x = max (at_ r a) (at_ r b) then min (at_ r a) (at_ r b) else x
/-- the law's relabelling -/
def rl (r : Row) (a b : Nat) : Row :=
  r.map fun x => if x = at_ r a then at_ r b else x
/-- the first layer (from 1) in which two places are not joined, 0 where there is none -/
def lf : List Row → Nat → Nat → Nat
  | [], _, _ => 0
  | r :: rs, a, b => if at_ r a ≠ at_ r b then 1 else (if lf rs a b = 0 then 0 else lf rs a b + 1)
/-- the marks behind a tie, by a relabelling -/
def st (f : Row → Nat → Nat → Row) (mk : List Row) (x : T) : List Row :=
  if lf mk x.a x.b = 0 then mk else mk.set (lf mk x.a x.b - 1) (f (mk.getD (lf mk x.a x.b - 1) []) x.a x.b)
/-- the layers' numbers, the youngest tie first -/
def run (f : Row → Nat → Nat → Row) : List Row → List T → List Nat
  | _, [] => []
  | mk, x :: r => lf mk x.a x.b :: run f (st f mk x) r
/-- the marks behind ties -/
def marksOf (f : Row → Nat → Nat → Row) : List Row → List T → List Row
  | mk, [] => mk
  | mk, x :: r => marksOf f (st f mk x) r
/-- the ties that are kept, the youngest first -/
def kp (f : Row → Nat → Nat → Row) : List Row → List T → List T
  | _, [] => []
  | mk, x :: r => if lf mk x.a x.b = 0 then kp f (st f mk x) r else x :: kp f (st f mk x) r
theorem at_map {r : Row} {g : Nat → Nat} {i : Nat} (h : i < r.length) : at_ (r.map g) i = g (at_ r i) := by
  unfold at_
  rw [List.getD_eq_getElem?_getD, List.getD_eq_getElem?_getD, List.getElem?_map, List.getElem?_eq_getElem h]
  rfl
theorem jn_len (r : Row) (a b : Nat) : (jn r a b).length = r.length := List.length_map ..
theorem rl_len (r : Row) (a b : Nat) : (rl r a b).length = r.length := List.length_map ..
/-- what a relabelling does: just the classes of both places become one -/
def Joins (f : Row → Nat → Nat → Row) : Prop := ∀ (r : Row) (a b : Nat), a < r.length → b < r.length →
  (f r a b).length = r.length ∧ ∀ u v, u < r.length → v < r.length →
    (at_ (f r a b) u = at_ (f r a b) v ↔ at_ r u = at_ r v ∨ (at_ r u = at_ r a ∧ at_ r v = at_ r b) ∨ (at_ r u = at_ r b ∧ at_ r v = at_ r a))
theorem joins_rl : Joins rl := fun r a b ha hb => by
  refine ⟨rl_len .., fun u v hu hv => ?_⟩
  unfold rl
  rw [at_map hu, at_map hv]
  generalize at_ r u = x
  generalize at_ r v = y
  generalize at_ r a = p
  generalize at_ r b = q
  by_cases h1 : x = p <;> by_cases h2 : y = p
  · rw [if_pos h1, if_pos h2]; constructor <;> intro _ <;> omega
  · rw [if_pos h1, if_neg h2]; constructor <;> intro _ <;> omega
  · rw [if_neg h1, if_pos h2]; constructor <;> intro _ <;> omega
  · rw [if_neg h1, if_neg h2]; constructor <;> intro _ <;> omega
theorem joins_jn : Joins jn := fun r a b ha hb => by
  refine ⟨jn_len .., fun u v hu hv => ?_⟩
  unfold jn
  rw [at_map hu, at_map hv]
  generalize at_ r u = x
  generalize at_ r v = y
  generalize at_ r a = p
  generalize at_ r b = q
  rcases Nat.le_total p q with h | h
  · rw [Nat.max_eq_right h, Nat.min_eq_left h]
    by_cases h1 : x = q <;> by_cases h2 : y = q
    · rw [if_pos h1, if_pos h2]; constructor <;> intro _ <;> omega
    · rw [if_pos h1, if_neg h2]; constructor <;> intro _ <;> omega
    · rw [if_neg h1, if_pos h2]; constructor <;> intro _ <;> omega
    · rw [if_neg h1, if_neg h2]; constructor <;> intro _ <;> omega
  · rw [Nat.max_eq_left h, Nat.min_eq_right h]
    by_cases h1 : x = p <;> by_cases h2 : y = p
    · rw [if_pos h1, if_pos h2]; constructor <;> intro _ <;> omega
    · rw [if_pos h1, if_neg h2]; constructor <;> intro _ <;> omega
    · rw [if_neg h1, if_pos h2]; constructor <;> intro _ <;> omega
    · rw [if_neg h1, if_neg h2]; constructor <;> intro _ <;> omega
/-! ### finer marks -/
def Fine (n : Nat) (r s : Row) : Prop := r.length = n ∧ s.length = n ∧ ∀ u v, u < n → v < n → at_ r u = at_ r v → at_ s u = at_ s v
inductive Fines (n : Nat) : List Row → List Row → Prop where
  | nil : Fines n [] []
  | cons {r s : Row} {rs ss : List Row} : Fine n r s → Fines n rs ss → Fines n (r :: rs) (s :: ss)
def Wide (n : Nat) (mk : List Row) : Prop := ∀ r ∈ mk, r.length = n
def Fits (n : Nat) (x : T) : Prop := x.a < n ∧ x.b < n
theorem Fines.refl {n : Nat} : ∀ {mk : List Row}, Wide n mk → Fines n mk mk
  | [], _ => .nil
  | r :: rs, h => .cons ⟨h r (.head _), h r (.head _), fun _ _ _ _ e => e⟩ (Fines.refl fun s hs => h s (.tail _ hs))
theorem Fines.trans {n : Nat} : ∀ {a b c : List Row}, Fines n a b → Fines n b c → Fines n a c
  | _, _, _, .nil, .nil => .nil
  | _, _, _, .cons p ps, .cons q qs => .cons ⟨p.1, q.2.1, fun u v hu hv e => q.2.2 u v hu hv (p.2.2 u v hu hv e)⟩ (Fines.trans ps qs)
theorem Fines.left {n : Nat} : ∀ {a b : List Row}, Fines n a b → Wide n a
  | _, _, .nil => fun _ h => nomatch h
  | _, _, .cons p ps => fun s hs => by
    cases hs with
    | head => exact p.1
    | tail _ h => exact Fines.left ps s h
theorem Fines.right {n : Nat} : ∀ {a b : List Row}, Fines n a b → Wide n b
  | _, _, .nil => fun _ h => nomatch h
  | _, _, .cons p ps => fun s hs => by
    cases hs with
    | head => exact p.2.1
    | tail _ h => exact Fines.right ps s h
theorem lf_fine {n : Nat} : ∀ {mk ms : List Row} {a b : Nat}, Fines n mk ms → a < n → b < n → lf mk a b = 0 → lf ms a b = 0
  | _, _, _, _, .nil, _, _, _ => rfl
  | _, _, a, b, .cons (r := r) (rs := rs) p ps, ha, hb, h => by
    unfold lf at h ⊢
    by_cases e : at_ r a ≠ at_ r b
    · rw [if_pos e] at h
      cases h
    · rw [if_neg e] at h
      have e' : at_ r a = at_ r b := Decidable.of_not_not e
      rw [if_neg (not_not_intro (p.2.2 a b ha hb e'))]
      by_cases z : lf rs a b = 0
      · rw [if_pos (lf_fine ps ha hb z)]
      · rw [if_neg z] at h
        cases h
theorem st_cons_join {f : Row → Nat → Nat → Row} {r : Row} {rs : List Row} {x : T} (e : at_ r x.a ≠ at_ r x.b) : st f (r :: rs) x = f r x.a x.b :: rs := by
  have l : lf (r :: rs) x.a x.b = 1 := by
    unfold lf
    rw [if_pos e]
  unfold st
  rw [l]
  rfl
theorem st_cons_pass {f : Row → Nat → Nat → Row} {r : Row} {rs : List Row} {x : T} (e : at_ r x.a = at_ r x.b) : st f (r :: rs) x = r :: st f rs x := by
  have l : lf (r :: rs) x.a x.b = if lf rs x.a x.b = 0 then 0 else lf rs x.a x.b + 1 := by
    conv => lhs; unfold lf
    rw [if_neg (not_not_intro e)]
  unfold st
  rw [l]
  by_cases z : lf rs x.a x.b = 0
  · rw [if_pos z, if_pos rfl, if_pos z]
  · rw [if_neg z, if_neg z, if_neg (Nat.succ_ne_zero _)]
    obtain ⟨j, hj⟩ := Nat.exists_eq_succ_of_ne_zero z
    rw [hj]
    rfl
/-- a tie's step makes the marks coarser -/
theorem st_fine {n : Nat} {f : Row → Nat → Nat → Row} (J : Joins f) {x : T} (hx : Fits n x) : ∀ {mk : List Row}, Wide n mk → Fines n mk (st f mk x)
  | [], _ => by
    have e : st f [] x = [] := rfl
    rw [e]
    exact .nil
  | r :: rs, h => by
    have hr : r.length = n := h r (.head _)
    have hrs : Wide n rs := fun s hs => h s (.tail _ hs)
    by_cases e : at_ r x.a = at_ r x.b
    · rw [st_cons_pass e]
      exact .cons ⟨hr, hr, fun _ _ _ _ z => z⟩ (st_fine J hx hrs)
    · rw [st_cons_join e]
      obtain ⟨h1, h2⟩ := J r x.a x.b (by rw [hr]; exact hx.1) (by rw [hr]; exact hx.2)
      exact .cons ⟨hr, h1.trans hr, fun u v hu hv z => (h2 u v (by omega) (by omega)).mpr (.inl z)⟩ (.refl hrs)
/-- finer marks stay finer by a tie's step -/
theorem st_mono {n : Nat} {f g : Row → Nat → Nat → Row} (J : Joins f) (J' : Joins g) {x : T} (hx : Fits n x) : ∀ {mk ms : List Row}, Fines n mk ms → Fines n (st f mk x) (st g ms x)
  | _, _, .nil => by
    have e : st f [] x = [] := rfl
    have e' : st g [] x = [] := rfl
    rw [e, e']
    exact .nil
  | _, _, .cons (r := r) (s := s) (rs := rs) (ss := ss) p ps => by
    obtain ⟨hr, hs, hp⟩ := p
    by_cases e : at_ r x.a = at_ r x.b
    · have e' : at_ s x.a = at_ s x.b := hp _ _ hx.1 hx.2 e
      rw [st_cons_pass e, st_cons_pass e']
      exact .cons ⟨hr, hs, hp⟩ (st_mono J J' hx ps)
    · rw [st_cons_join e]
      obtain ⟨h1, h2⟩ := J r x.a x.b (by rw [hr]; exact hx.1) (by rw [hr]; exact hx.2)
      by_cases e' : at_ s x.a = at_ s x.b
      · rw [st_cons_pass e']
        refine .cons ⟨h1.trans hr, hs, fun u v hu hv z => ?_⟩ (ps.trans (st_fine J' hx ps.right))
        rcases (h2 u v (by omega) (by omega)).mp z with z | ⟨z1, z2⟩ | ⟨z1, z2⟩
        · exact hp u v hu hv z
        · exact (hp u _ hu hx.1 z1).trans (e'.trans (hp v _ hv hx.2 z2).symm)
        · exact (hp u _ hu hx.2 z1).trans (e'.symm.trans (hp v _ hv hx.1 z2).symm)
      · rw [st_cons_join e']
        obtain ⟨k1, k2⟩ := J' s x.a x.b (by rw [hs]; exact hx.1) (by rw [hs]; exact hx.2)
        refine .cons ⟨h1.trans hr, k1.trans hs, fun u v hu hv z => ?_⟩ ps
        refine (k2 u v (by omega) (by omega)).mpr ?_
        rcases (h2 u v (by omega) (by omega)).mp z with z | ⟨z1, z2⟩ | ⟨z1, z2⟩
        · exact .inl (hp u v hu hv z)
        · exact .inr (.inl ⟨hp u _ hu hx.1 z1, hp v _ hv hx.2 z2⟩)
        · exact .inr (.inr ⟨hp u _ hu hx.2 z1, hp v _ hv hx.1 z2⟩)
theorem lf_same {n : Nat} {mk ms : List Row} {a b : Nat} : Fines n mk ms → Fines n ms mk → a < n → b < n → lf mk a b = lf ms a b
  | .nil, _, _, _ => rfl
  | .cons (r := r) (s := s) (rs := rs) (ss := ss) p ps, .cons q qs, ha, hb => by
    unfold lf
    have ih := lf_same ps qs ha hb
    by_cases e : at_ r a = at_ r b
    · rw [if_neg (not_not_intro e), if_neg (not_not_intro (p.2.2 a b ha hb e)), ih]
    · rw [if_pos e, if_pos (fun z => e (q.2.2 a b ha hb z))]
/-- two relabellings number alike -/
theorem run_same {n : Nat} {f g : Row → Nat → Nat → Row} (J : Joins f) (J' : Joins g) : ∀ {l : List T} {mk ms : List Row}, (∀ x ∈ l, Fits n x) → Fines n mk ms → Fines n ms mk → run f mk l = run g ms l
  | [], _, _, _, _, _ => rfl
  | x :: r, mk, ms, hl, h1, h2 => by
    have hx := hl x (.head _)
    unfold run
    rw [lf_same h1 h2 hx.1 hx.2, run_same J J' (fun y hy => hl y (.tail _ hy)) (st_mono J J' hx h1) (st_mono J' J hx h2)]
theorem st_zero {f : Row → Nat → Nat → Row} {mk : List Row} {x : T} (h : lf mk x.a x.b = 0) : st f mk x = mk := by
  unfold st
  rw [if_pos h]
/-- what is dropped by finer marks is dropped by coarser ones, so it may be dropped ahead -/
theorem kp_fine {n : Nat} {f : Row → Nat → Nat → Row} (J : Joins f) : ∀ {l : List T} {mk ms : List Row}, (∀ x ∈ l, Fits n x) → Fines n mk ms → kp f ms (kp f mk l) = kp f ms l
  | [], _, _, _, _ => rfl
  | x :: r, mk, ms, hl, h => by
    have hx := hl x (.head _)
    have hr : ∀ y ∈ r, Fits n y := fun y hy => hl y (.tail _ hy)
    by_cases z : lf mk x.a x.b = 0
    · have z' := lf_fine h hx.1 hx.2 z
      have e1 : kp f mk (x :: r) = kp f mk r := by
        conv => lhs; unfold kp
        rw [if_pos z, st_zero z]
      have e2 : kp f ms (x :: r) = kp f ms r := by
        conv => lhs; unfold kp
        rw [if_pos z', st_zero z']
      rw [e1, e2]
      exact kp_fine J hr h
    · have e1 : kp f mk (x :: r) = x :: kp f (st f mk x) r := by
        conv => lhs; unfold kp
        rw [if_neg z]
      rw [e1]
      have ih := kp_fine J (l := r) hr (st_mono J J hx h)
      show (if lf ms x.a x.b = 0 then kp f (st f ms x) (kp f (st f mk x) r) else x :: kp f (st f ms x) (kp f (st f mk x) r)) = (if lf ms x.a x.b = 0 then kp f (st f ms x) r else x :: kp f (st f ms x) r)
      rw [ih]
theorem kp_idem {n : Nat} {f : Row → Nat → Nat → Row} (J : Joins f) {l : List T} {mk : List Row} (hl : ∀ x ∈ l, Fits n x) (h : Wide n mk) : kp f mk (kp f mk l) = kp f mk l := kp_fine J hl (.refl h)
/-- no kept tie has the number 0 -/
theorem run_kp {f : Row → Nat → Nat → Row} : ∀ {l : List T} {mk : List Row}, 0 ∉ run f mk (kp f mk l)
  | [], _ => fun h => nomatch h
  | x :: r, mk => by
    by_cases z : lf mk x.a x.b = 0
    · have e1 : kp f mk (x :: r) = kp f mk r := by
        conv => lhs; unfold kp
        rw [if_pos z, st_zero z]
      rw [e1]
      exact run_kp
    · have e1 : kp f mk (x :: r) = x :: kp f (st f mk x) r := by
        conv => lhs; unfold kp
        rw [if_neg z]
      rw [e1]
      intro h
      unfold run at h
      rcases List.mem_cons.mp h with h | h
      · exact z h.symm
      · exact run_kp h
theorem kp_mem {f : Row → Nat → Nat → Row} : ∀ {l : List T} {mk : List Row} {y : T}, y ∈ kp f mk l → y ∈ l
  | [], _, _, h => h
  | x :: r, mk, y, h => by
    unfold kp at h
    by_cases z : lf mk x.a x.b = 0
    · rw [if_pos z] at h
      exact .tail _ (kp_mem h)
    · rw [if_neg z] at h
      rcases List.mem_cons.mp h with h | h
      · rw [h]; exact .head _
      · exact .tail _ (kp_mem h)
/-- kept ties are those whose numbers are above 0 -/
theorem kp_run {f : Row → Nat → Nat → Row} : ∀ {l : List T} {mk : List Row}, kp f mk l = ((l.zip (run f mk l)).filter fun p => decide (0 < p.2)).map (·.1)
  | [], _ => rfl
  | x :: r, mk => by
    unfold run kp
    rw [List.zip_cons_cons, List.filter_cons]
    by_cases z : lf mk x.a x.b = 0
    · rw [if_pos z, if_neg (by simp [z]), kp_run]
    · rw [if_neg z, if_pos (by simp; omega), kp_run]
      rfl
theorem run_len {f : Row → Nat → Nat → Row} : ∀ {l : List T} {mk : List Row}, (run f mk l).length = l.length
  | [], _ => rfl
  | _ :: _, _ => congrArg (· + 1) run_len
/-! ### ties in order, the youngest first -/
/-- strictly falling moments -/
def Down (l : List T) : Prop := l.Pairwise fun x y => y.m < x.m
def ins (x : T) : List T → List T
  | [] => [x]
  | y :: r => if y.m < x.m then x :: y :: r else y :: ins x r
def insAll : List T → List T → List T
  | [], l => l
  | x :: xs, l => ins x (insAll xs l)
theorem ins_mem {x z : T} : ∀ {l : List T}, z ∈ ins x l ↔ z = x ∨ z ∈ l
  | [] => by simp [ins]
  | y :: r => by
    unfold ins
    by_cases h : y.m < x.m
    · rw [if_pos h, List.mem_cons]
    · rw [if_neg h, List.mem_cons, ins_mem, List.mem_cons]
      constructor
      · rintro (h | h | h)
        · exact .inr (.inl h)
        · exact .inl h
        · exact .inr (.inr h)
      · rintro (h | h | h)
        · exact .inr (.inl h)
        · exact .inl h
        · exact .inr (.inr h)
theorem ins_down {x : T} : ∀ {l : List T}, Down l → (∀ y ∈ l, y.m ≠ x.m) → Down (ins x l)
  | [], _, _ => List.pairwise_singleton ..
  | y :: r, d, h => by
    obtain ⟨d1, d2⟩ := List.pairwise_cons.mp d
    unfold ins
    by_cases c : y.m < x.m
    · rw [if_pos c]
      refine List.pairwise_cons.mpr ⟨fun z hz => ?_, d⟩
      rcases List.mem_cons.mp hz with e | e
      · rw [e]; exact c
      · exact Nat.lt_trans (d1 z e) c
    · rw [if_neg c]
      refine List.pairwise_cons.mpr ⟨fun z hz => ?_, ins_down d2 fun z hz => h z (.tail _ hz)⟩
      rcases ins_mem.mp hz with e | e
      · rw [e]
        have := h y (.head _)
        omega
      · exact d1 z e
theorem insAll_mem {z : T} : ∀ {xs l : List T}, z ∈ insAll xs l ↔ z ∈ xs ∨ z ∈ l
  | [], l => by simp [insAll]
  | x :: xs, l => by
    unfold insAll
    rw [ins_mem, insAll_mem, List.mem_cons]
    exact or_assoc.symm
/-- two falling lists of the same ties are one -/
theorem down_eq : ∀ {l k : List T}, Down l → Down k → (∀ z, z ∈ l ↔ z ∈ k) → l = k
  | [], [], _, _, _ => rfl
  | [], y :: k, _, _, h => nomatch (h y).mpr (.head _)
  | x :: l, [], _, _, h => nomatch (h x).mp (.head _)
  | x :: l, y :: k, d, e, h => by
    obtain ⟨d1, d2⟩ := List.pairwise_cons.mp d
    obtain ⟨e1, e2⟩ := List.pairwise_cons.mp e
    have hxy : x = y := by
      rcases List.mem_cons.mp ((h x).mp (.head _)) with q | q
      · exact q
      · rcases List.mem_cons.mp ((h y).mpr (.head _)) with r | r
        · exact r.symm
        · have a := e1 x q
          have b := d1 y r
          omega
    subst hxy
    rw [down_eq d2 e2 fun z => ⟨fun q => ?_, fun q => ?_⟩]
    · rcases List.mem_cons.mp ((h z).mp (.tail _ q)) with r | r
      · rw [r] at q
        have := d1 x q
        omega
      · exact r
    · rcases List.mem_cons.mp ((h z).mpr (.tail _ q)) with r | r
      · rw [r] at q
        have := e1 x q
        omega
      · exact r
theorem kp_down {f : Row → Nat → Nat → Row} : ∀ {l : List T} {mk : List Row}, Down l → Down (kp f mk l)
  | [], _, _ => List.Pairwise.nil
  | x :: r, mk, d => by
    obtain ⟨d1, d2⟩ := List.pairwise_cons.mp d
    unfold kp
    by_cases z : lf mk x.a x.b = 0
    · rw [if_pos z]
      exact kp_down d2
    · rw [if_neg z]
      exact List.pairwise_cons.mpr ⟨fun y hy => d1 y (kp_mem hy), kp_down d2⟩
theorem ins_head {x : T} {l : List T} (h : ∀ y ∈ l, y.m < x.m) : ins x l = x :: l := by
  cases l with
  | nil => rfl
  | cons y r =>
    unfold ins
    rw [if_pos (h y (.head _))]
/-- THE LAW OF A TIE THAT COMES: what a net drops may be dropped ahead of it -/
theorem kp_ins {n : Nat} {f : Row → Nat → Nat → Row} (J : Joins f) {x : T} (hx : Fits n x) : ∀ {l : List T} {mk : List Row}, Down l → (∀ y ∈ l, y.m ≠ x.m) → (∀ y ∈ l, Fits n y) → Wide n mk → kp f mk (ins x (kp f mk l)) = kp f mk (ins x l)
  | [], _, _, _, _, _ => rfl
  | y :: r, mk, d, hne, hl, hw => by
    obtain ⟨d1, d2⟩ := List.pairwise_cons.mp d
    have hy := hl y (.head _)
    have hr : ∀ z ∈ r, Fits n z := fun z hz => hl z (.tail _ hz)
    by_cases c : y.m < x.m
    · have e1 : ins x (y :: r) = x :: y :: r := by
        unfold ins
        rw [if_pos c]
      have e2 : ins x (kp f mk (y :: r)) = x :: kp f mk (y :: r) := ins_head fun z hz => by
        rcases List.mem_cons.mp (kp_mem hz) with q | q
        · rw [q]; exact c
        · exact Nat.lt_trans (d1 z q) c
      have e3 := kp_fine J hl (st_fine J hx hw)
      rw [e1, e2]
      show (if lf mk x.a x.b = 0 then kp f (st f mk x) (kp f mk (y :: r)) else x :: kp f (st f mk x) (kp f mk (y :: r))) = (if lf mk x.a x.b = 0 then kp f (st f mk x) (y :: r) else x :: kp f (st f mk x) (y :: r))
      rw [e3]
    · have e1 : ins x (y :: r) = y :: ins x r := by
        conv => lhs; unfold ins
        rw [if_neg c]
      have hw' : Wide n (st f mk y) := (st_fine J hy hw).right
      by_cases z : lf mk y.a y.b = 0
      · have e2 : kp f mk (y :: r) = kp f mk r := by
          conv => lhs; unfold kp
          rw [if_pos z, st_zero z]
        have e3 : kp f mk (y :: ins x r) = kp f mk (ins x r) := by
          conv => lhs; unfold kp
          rw [if_pos z, st_zero z]
        rw [e1, e2, e3]
        exact kp_ins J hx d2 (fun q hq => hne q (.tail _ hq)) hr hw
      · have e2 : kp f mk (y :: r) = y :: kp f (st f mk y) r := by
          conv => lhs; unfold kp
          rw [if_neg z]
        have e3 : ∀ l, kp f mk (y :: l) = y :: kp f (st f mk y) l := fun l => by
          conv => lhs; unfold kp
          rw [if_neg z]
        have e4 : ins x (y :: kp f (st f mk y) r) = y :: ins x (kp f (st f mk y) r) := by
          conv => lhs; unfold ins
          rw [if_neg c]
        rw [e1, e2, e4, e3, e3, kp_ins J hx d2 (fun q hq => hne q (.tail _ hq)) hr hw']
/-- what came since a moment -/
def sinceD (t : Nat) (l : List T) : List T := l.filter fun x => decide (t ≤ x.m)
theorem kp_since {f : Row → Nat → Nat → Row} {t : Nat} : ∀ {l : List T} {mk : List Row}, Down l → kp f mk (sinceD t l) = sinceD t (kp f mk l)
  | [], _, _ => rfl
  | x :: r, mk, d => by
    obtain ⟨d1, d2⟩ := List.pairwise_cons.mp d
    by_cases c : t ≤ x.m
    · have e1 : sinceD t (x :: r) = x :: sinceD t r := List.filter_cons_of_pos (by simpa using c)
      rw [e1]
      have ih := kp_since (f := f) (t := t) (l := r) (mk := st f mk x) d2
      conv => lhs; unfold kp
      conv => rhs; unfold kp
      rw [ih]
      by_cases z : lf mk x.a x.b = 0
      · rw [if_pos z, if_pos z]
      · rw [if_neg z, if_neg z]
        exact (List.filter_cons_of_pos (by simpa using c)).symm
    · have none_ : ∀ l : List T, (∀ y ∈ l, y ∈ x :: r) → sinceD t l = [] := fun l hl => List.filter_eq_nil_iff.mpr fun y hy => by
        rcases List.mem_cons.mp (hl y hy) with q | q
        · rw [q]; simpa using c
        · have := d1 y q
          simp; omega
      rw [none_ _ (fun _ h => h), none_ _ (fun _ h => kp_mem h)]
      rfl
theorem sinceD_down {t : Nat} {l : List T} (d : Down l) : Down (sinceD t l) := List.Pairwise.filter _ d
/-! ### nets -/
def marks0 (n k : Nat) : List Row := List.replicate k (List.range n)
theorem marks0_wide (n k : Nat) : Wide n (marks0 n k) := fun r h => by
  rw [List.eq_of_mem_replicate h, List.length_range]
/-- the net of falling ties -/
def net (n k : Nat) (l : List T) : List T := kp jn (marks0 n k) l
/-- ties all of n places, moments apart from those of a list -/
def AllFit (n : Nat) (l : List T) : Prop := ∀ x ∈ l, Fits n x
def Apart (xs l : List T) : Prop := ∀ x ∈ xs, ∀ y ∈ l, x.m ≠ y.m
def NoTwo (l : List T) : Prop := l.Pairwise fun x y => x.m ≠ y.m
theorem insAll_down : ∀ {xs l : List T}, NoTwo xs → Down l → Apart xs l → Down (insAll xs l)
  | [], _, _, d, _ => d
  | x :: xs, l, nt, d, ap => by
    obtain ⟨n1, n2⟩ := List.pairwise_cons.mp nt
    refine ins_down (insAll_down n2 d fun y hy => ap y (.tail _ hy)) fun y hy => ?_
    rcases insAll_mem.mp hy with q | q
    · exact (n1 y q).symm
    · exact (ap x (.head _) y q).symm
/-- nets laid one tie after another (the last of the list first) -/
theorem net_insAll {n k : Nat} : ∀ {xs l : List T}, NoTwo xs → Down l → Apart xs l → AllFit n xs → AllFit n l → net n k (insAll xs (net n k l)) = net n k (insAll xs l)
  | [], l, _, d, _, _, hl => kp_idem joins_jn hl (marks0_wide n k)
  | x :: xs, l, nt, d, ap, hx, hl => by
    obtain ⟨n1, n2⟩ := List.pairwise_cons.mp nt
    have hxs : AllFit n xs := fun y hy => hx y (.tail _ hy)
    have ap' : Apart xs l := fun y hy => ap y (.tail _ hy)
    have ih := net_insAll (k := k) n2 d ap' hxs hl
    have key : ∀ l' : List T, Down l' → Apart (x :: xs) l' → AllFit n l' → net n k (ins x (net n k (insAll xs l'))) = net n k (ins x (insAll xs l')) := fun l' d' a' h' =>
      kp_ins joins_jn (hx x (.head _)) (insAll_down n2 d' fun y hy => a' y (.tail _ hy)) (fun y hy => by
        rcases insAll_mem.mp hy with q | q
        · exact (n1 y q).symm
        · exact (a' x (.head _) y q).symm) (fun y hy => by
        rcases insAll_mem.mp hy with q | q
        · exact hxs y q
        · exact h' y q) (marks0_wide n k)
    have k1 := key l d ap hl
    have k2 := key (net n k l) (kp_down d) (fun y hy z hz => ap y hy z (kp_mem hz)) (fun y hy => hl y (kp_mem hy))
    show net n k (ins x (insAll xs (net n k l))) = net n k (ins x (insAll xs l))
    rw [← k1, ← k2, ih]
end SP
namespace SP
theorem lf_none : ∀ {rows : List Row} {a b : Nat}, (∀ r ∈ rows, at_ r a = at_ r b) → lf rows a b = 0
  | [], _, _, _ => rfl
  | r :: rs, a, b, h => by
    unfold lf
    rw [if_neg (not_not_intro (h r (.head _))), lf_none fun s hs => h s (.tail _ hs), if_pos rfl]
theorem lf_hit : ∀ {rows : List Row} {a b i : Nat} {r : Row}, rows[i]? = some r → at_ r a ≠ at_ r b → (∀ (k : Nat) (s : Row), k < i → rows[k]? = some s → at_ s a = at_ s b) → lf rows a b = i + 1
  | [], _, _, _, _, h, _, _ => by simp at h
  | s :: rs, a, b, 0, r, h, hne, _ => by
    have e : s = r := by simpa using h
    subst e
    unfold lf
    rw [if_pos hne]
  | s :: rs, a, b, i + 1, r, h, hne, ha => by
    have e := ha 0 s (Nat.succ_pos _) rfl
    have ih := lf_hit (rows := rs) (i := i) (by simpa using h) hne fun k t hk ht => ha (k + 1) t (by omega) (by simpa using ht)
    unfold lf
    rw [if_neg (not_not_intro e), ih, if_neg (Nat.succ_ne_zero _)]
theorem lf_le : ∀ {rows : List Row} {a b : Nat}, lf rows a b ≤ rows.length
  | [], _, _ => Nat.le_refl _
  | r :: rs, a, b => by
    have ih := lf_le (rows := rs) (a := a) (b := b)
    unfold lf
    rw [List.length_cons]
    split
    · omega
    · split <;> omega
theorem run_snoc {f : Row → Nat → Nat → Row} : ∀ {l : List T} {mk : List Row} {x : T}, run f mk (l ++ [x]) = run f mk l ++ [lf (marksOf f mk l) x.a x.b]
  | [], _, _ => rfl
  | y :: l, mk, x => congrArg (lf mk y.a y.b :: ·) run_snoc
theorem marks_snoc {f : Row → Nat → Nat → Row} : ∀ {l : List T} {mk : List Row} {x : T}, marksOf f mk (l ++ [x]) = st f (marksOf f mk l) x
  | [], _, _ => rfl
  | y :: l, mk, x => marks_snoc (l := l) (mk := st f mk y) (x := x)
theorem marks_wide {n : Nat} {f : Row → Nat → Nat → Row} (J : Joins f) : ∀ {l : List T} {mk : List Row}, (∀ x ∈ l, Fits n x) → Wide n mk → Wide n (marksOf f mk l)
  | [], _, _, h => h
  | x :: l, mk, hl, h => marks_wide J (l := l) (mk := st f mk x) (fun y hy => hl y (.tail _ hy)) (st_fine J (hl x (.head _)) h).right
theorem st_len {f : Row → Nat → Nat → Row} {mk : List Row} {x : T} : (st f mk x).length = mk.length := by
  unfold st
  split
  · rfl
  · rw [List.length_set]
theorem marks_len {f : Row → Nat → Nat → Row} : ∀ {l : List T} {mk : List Row}, (marksOf f mk l).length = mk.length
  | [], _ => rfl
  | y :: l, mk => (marks_len (l := l) (mk := st f mk y)).trans st_len
/-- the layers' numbers, in the record's order -/
def layeredN (f : Row → Nat → Nat → Row) (n k : Nat) (ts : List T) : List Nat := (run f (marks0 n k) ts.reverse).reverse
/-- the net's ties, in the record's order -/
def netA (n k : Nat) (ts : List T) : List T := (net n k ts.reverse).reverse
theorem layeredN_len {f : Row → Nat → Nat → Row} {n k : Nat} {ts : List T} : (layeredN f n k ts).length = ts.length := by
  unfold layeredN
  rw [List.length_reverse, run_len, List.length_reverse]
theorem zip_rev {α β : Type} : ∀ {l : List α} {m : List β}, l.length = m.length → l.reverse.zip m.reverse = (l.zip m).reverse
  | [], [], _ => rfl
  | [], _ :: _, h => by simp at h
  | _ :: _, [], h => by simp at h
  | x :: l, y :: m, h => by
    have h2 : l.length = m.length := by simpa using h
    rw [List.reverse_cons, List.reverse_cons, List.zip_append (by rw [List.length_reverse, List.length_reverse]; exact h2), zip_rev h2, show (x :: l).zip (y :: m) = (x, y) :: l.zip m from rfl, List.reverse_cons]
    rfl
theorem netA_zip {n k : Nat} {ts : List T} : ((ts.zip (layeredN jn n k ts)).filter fun p => decide (0 < p.2)).map (·.1) = netA n k ts := by
  have e : ts.zip (layeredN jn n k ts) = (ts.reverse.zip (run jn (marks0 n k) ts.reverse)).reverse := by
    rw [← zip_rev (by rw [run_len]), List.reverse_reverse]
    rfl
  unfold netA net
  rw [e, List.filter_reverse, List.map_reverse, kp_run]
/-- two ways to number -/
theorem layered_rl {n k : Nat} {ts : List T} (h : ∀ x ∈ ts, Fits n x) : layeredN rl n k ts = layeredN jn n k ts := by
  unfold layeredN
  rw [run_same joins_rl joins_jn (n := n) (fun x hx => h x (List.mem_reverse.mp hx)) (.refl (marks0_wide n k)) (.refl (marks0_wide n k))]
theorem netA_layers {n k : Nat} {ts : List T} : 0 ∉ layeredN jn n k (netA n k ts) := by
  unfold layeredN netA
  rw [List.reverse_reverse]
  exact fun h => run_kp (List.mem_reverse.mp h)
theorem netA_mem {n k : Nat} {ts : List T} {x : T} (h : x ∈ netA n k ts) : x ∈ ts := List.mem_reverse.mp (kp_mem (List.mem_reverse.mp h))
theorem kp_sub {f : Row → Nat → Nat → Row} : ∀ {l : List T} {mk : List Row}, (kp f mk l).Sublist l
  | [], _ => .slnil
  | x :: r, mk => by
    unfold kp
    split
    · exact kp_sub.cons _
    · exact kp_sub.cons_cons _
theorem netA_sub {n k : Nat} {ts : List T} : (netA n k ts).Sublist ts := by
  have h := (kp_sub (f := jn) (mk := marks0 n k) (l := ts.reverse)).reverse
  rw [List.reverse_reverse] at h
  exact h
end SP
namespace SP
/-- strictly rising moments -/
def Rise (l : List T) : Prop := l.Pairwise fun x y => x.m < y.m
theorem rise_down {l : List T} : Rise l ↔ Down l.reverse := by
  unfold Rise Down
  rw [List.pairwise_reverse]
/-- a tie comes into a rising list -/
def insA (x : T) (l : List T) : List T := (ins x l.reverse).reverse
theorem insA_mem {x z : T} {l : List T} : z ∈ insA x l ↔ z = x ∨ z ∈ l := by
  unfold insA
  rw [List.mem_reverse, ins_mem, List.mem_reverse]
theorem insA_rise {x : T} {l : List T} (h : Rise l) (hn : ∀ y ∈ l, y.m ≠ x.m) : Rise (insA x l) := by
  rw [rise_down]
  unfold insA
  rw [List.reverse_reverse]
  exact ins_down (rise_down.mp h) fun y hy => hn y (List.mem_reverse.mp hy)
theorem rise_eq {l k : List T} (h1 : Rise l) (h2 : Rise k) (h : ∀ z, z ∈ l ↔ z ∈ k) : l = k := by
  have e := down_eq (rise_down.mp h1) (rise_down.mp h2) fun z => by rw [List.mem_reverse, List.mem_reverse]; exact h z
  have := congrArg List.reverse e
  rw [List.reverse_reverse, List.reverse_reverse] at this
  exact this
/-- what is sorted by the moments is the rising list -/
theorem sorted_rise {zs l : List T} (hp : zs.Perm l) (hs : zs.Pairwise fun x y => x.m ≤ y.m) (hn : NoTwo l) : Rise zs := by
  have n2 : NoTwo zs := by
    unfold NoTwo at *
    exact (hp.pairwise_iff (fun h => Ne.symm h)).mpr hn
  unfold Rise
  refine (hs.and n2).imp ?_
  intro x y ⟨h1, h2⟩
  omega
theorem rise_notwo {l : List T} (h : Rise l) : NoTwo l := h.imp fun h => Nat.ne_of_lt h
theorem sorted_ins {zs cur : List T} {x : T} (hp : zs.Perm (cur ++ [x])) (hs : zs.Pairwise fun x y => x.m ≤ y.m) (hc : Rise cur) (hn : ∀ y ∈ cur, y.m ≠ x.m) : zs = insA x cur := by
  have nt : NoTwo (cur ++ [x]) := by
    unfold NoTwo
    refine List.pairwise_append.mpr ⟨rise_notwo hc, List.pairwise_singleton _ _, fun a ha b hb => ?_⟩
    rw [List.mem_singleton.mp hb]
    exact hn a ha
  refine rise_eq (sorted_rise hp hs nt) (insA_rise hc hn) fun z => ?_
  rw [hp.mem_iff, insA_mem, List.mem_append, List.mem_singleton]
  exact or_comm
/-- ties come to a net one by one -/
def withT (n k : Nat) : List T → List T → List T
  | cur, [] => cur
  | cur, x :: r => withT n k (if x ∈ cur then cur else netA n k (insA x cur)) r
theorem withT_snoc {n k : Nat} : ∀ {us cur : List T} {x : T}, withT n k cur (us ++ [x]) = (if x ∈ withT n k cur us then withT n k cur us else netA n k (insA x (withT n k cur us)))
  | [], _, _ => rfl
  | y :: us, cur, x => withT_snoc (us := us)
/-- one moment, one tie -/
def OneTie (l : List T) : Prop := ∀ x ∈ l, ∀ y ∈ l, x.m = y.m → x = y
theorem withT_mem {n k : Nat} : ∀ {us cur : List T} {z : T}, z ∈ withT n k cur us → z ∈ cur ∨ z ∈ us
  | [], _, _, h => .inl h
  | x :: us, cur, z, h => by
    rcases withT_mem (us := us) h with h | h
    · split at h
      · exact .inl h
      · rcases insA_mem.mp (netA_mem h) with h | h
        · rw [h]; exact .inr (.head _)
        · exact .inl h
    · exact .inr (.tail _ h)
theorem netA_rise {n k : Nat} {l : List T} (h : Rise l) : Rise (netA n k l) := by
  unfold Rise at *
  exact h.sublist netA_sub
theorem withT_rise {n k : Nat} : ∀ {us cur : List T}, OneTie (cur ++ us) → Rise cur → Rise (withT n k cur us)
  | [], _, _, h => h
  | x :: us, cur, o, h => by
    have hne : x ∉ cur → ∀ y ∈ cur, y.m ≠ x.m := fun hx y hy e => hx (by
      have := o y (List.mem_append.mpr (.inl hy)) x (List.mem_append.mpr (.inr (.head _))) e
      rw [← this]
      exact hy)
    refine withT_rise (us := us) ?_ ?_
    · intro a ha b hb e
      have key : ∀ c, c ∈ (if x ∈ cur then cur else netA n k (insA x cur)) ++ us → c ∈ cur ++ x :: us := fun c hc => by
        rcases List.mem_append.mp hc with hc | hc
        · split at hc
          · exact List.mem_append.mpr (.inl hc)
          · rcases insA_mem.mp (netA_mem hc) with z | z
            · rw [z]; exact List.mem_append.mpr (.inr (.head _))
            · exact List.mem_append.mpr (.inl z)
        · exact List.mem_append.mpr (.inr (.tail _ hc))
      exact o a (key a ha) b (key b hb) e
    · by_cases hx : x ∈ cur
      · rw [if_pos hx]; exact h
      · rw [if_neg hx]
        exact netA_rise (insA_rise h (hne hx))
theorem ins_len {x : T} : ∀ {l : List T}, (ins x l).length = l.length + 1
  | [] => rfl
  | y :: r => by
    unfold ins
    split
    · rfl
    · rw [List.length_cons, ins_len, List.length_cons]
theorem insA_len {x : T} {l : List T} : (insA x l).length = l.length + 1 := by
  unfold insA
  rw [List.length_reverse, ins_len, List.length_reverse]
theorem netA_len {n k : Nat} {l : List T} : (netA n k l).length ≤ l.length := netA_sub.length_le
theorem withT_len {n k : Nat} : ∀ {us cur : List T}, (withT n k cur us).length ≤ cur.length + us.length
  | [], _ => Nat.le_refl _
  | x :: us, cur => by
    have ih := withT_len (n := n) (k := k) (us := us) (cur := if x ∈ cur then cur else netA n k (insA x cur))
    have e : (if x ∈ cur then cur else netA n k (insA x cur)).length ≤ cur.length + 1 := by
      split
      · omega
      · have := netA_len (n := n) (k := k) (l := insA x cur)
        rw [insA_len] at this
        exact this
    unfold withT
    rw [List.length_cons]
    omega
/-- such a list has no tie left out -/
theorem withT_layers {n k : Nat} : ∀ {us cur : List T}, 0 ∉ layeredN jn n k cur → 0 ∉ layeredN jn n k (withT n k cur us)
  | [], _, h => h
  | x :: us, cur, h => withT_layers (us := us) (by
    split
    · exact h
    · exact netA_layers)
theorem kp_all {f : Row → Nat → Nat → Row} : ∀ {l : List T} {mk : List Row}, 0 ∉ run f mk l → kp f mk l = l
  | [], _, _ => rfl
  | x :: r, mk, h => by
    have h1 : lf mk x.a x.b ≠ 0 := fun z => h (by unfold run; rw [z]; exact .head _)
    have h2 : 0 ∉ run f (st f mk x) r := fun z => h (by unfold run; exact .tail _ z)
    unfold kp
    rw [if_neg h1, kp_all h2]
theorem since_rev {t : Nat} {l : List T} : (sinceD t l).reverse = sinceD t l.reverse := by
  unfold sinceD
  rw [List.filter_reverse]
/-- a net since a moment is one -/
theorem since_layers {n k t : Nat} {l : List T} (h : Rise l) (h0 : 0 ∉ layeredN jn n k l) : 0 ∉ layeredN jn n k (sinceD t l) := by
  have e : kp jn (marks0 n k) l.reverse = l.reverse := kp_all fun z => h0 (by unfold layeredN; exact List.mem_reverse.mpr z)
  have e2 : kp jn (marks0 n k) (sinceD t l.reverse) = sinceD t l.reverse := by
    rw [kp_since (rise_down.mp h), e]
  unfold layeredN
  intro z
  rw [since_rev] at z
  have z2 := List.mem_reverse.mp z
  rw [← e2] at z2
  exact run_kp z2
theorem netA_since {n k t : Nat} {l : List T} (h : Rise l) : netA n k (sinceD t l) = sinceD t (netA n k l) := by
  unfold netA net
  rw [since_rev, kp_since (rise_down.mp h), since_rev]
theorem since_rise {t : Nat} {l : List T} (h : Rise l) : Rise (sinceD t l) := List.Pairwise.filter _ h
theorem since_len {t : Nat} {l : List T} : (sinceD t l).length ≤ l.length := List.length_filter_le _ _
theorem since_mem {t : Nat} {l : List T} {x : T} : x ∈ sinceD t l ↔ x ∈ l ∧ t ≤ x.m := by
  unfold sinceD
  rw [List.mem_filter, decide_eq_true_eq]
end SP
namespace SP
theorem netA_ins {n k : Nat} {C : List T} {x : T} (hx : Fits n x) (hC : Rise C) (hn : ∀ y ∈ C, y.m ≠ x.m) (hf : AllFit n C) : netA n k (insA x (netA n k C)) = netA n k (insA x C) := by
  unfold netA insA net
  rw [List.reverse_reverse, List.reverse_reverse, List.reverse_reverse]
  rw [kp_ins joins_jn hx (rise_down.mp hC) (fun y hy => hn y (List.mem_reverse.mp hy)) (fun y hy => hf y (List.mem_reverse.mp hy)) (marks0_wide n k)]
/-- ties come one by one -/
def foldC (n k : Nat) (cur us : List T) : List T := us.foldl (fun c x => netA n k (insA x c)) cur
theorem foldC_net {n k : Nat} : ∀ {us C : List T}, Rise C → NoTwo us → Apart us C → AllFit n us → AllFit n C → ∃ S, Rise S ∧ (∀ z, z ∈ S ↔ z ∈ us ∨ z ∈ C) ∧ foldC n k (netA n k C) us = netA n k S
  | [], C, h, _, _, _, _ => ⟨C, h, fun z => by simp, rfl⟩
  | x :: us, C, h, nt, ap, hu, hC => by
    obtain ⟨n1, n2⟩ := List.pairwise_cons.mp nt
    have hx : ∀ y ∈ C, y.m ≠ x.m := fun y hy => (ap x (.head _) y hy).symm
    have ap' : Apart us (insA x C) := fun u hu2 y hy => by
      rcases insA_mem.mp hy with z | z
      · rw [z]; exact (n1 u hu2).symm
      · exact ap u (.tail _ hu2) y z
    have hf' : AllFit n (insA x C) := fun y hy => by
      rcases insA_mem.mp hy with z | z
      · rw [z]; exact hu x (.head _)
      · exact hC y z
    obtain ⟨S, s1, s2, s3⟩ := foldC_net (k := k) (us := us) (insA_rise h hx) n2 ap' (fun y hy => hu y (.tail _ hy)) hf'
    refine ⟨S, s1, fun z => ?_, ?_⟩
    · rw [s2, insA_mem, List.mem_cons]
      constructor
      · rintro (q | q | q)
        · exact .inl (.inr q)
        · exact .inl (.inl q)
        · exact .inr q
      · rintro ((q | q) | q)
        · exact .inr (.inl q)
        · exact .inl q
        · exact .inr (.inr q)
    · show foldC n k (netA n k (insA x (netA n k C))) us = _
      rw [netA_ins (hu x (.head _)) h hx hC]
      exact s3
theorem foldC_mem {n k : Nat} : ∀ {us cur : List T} {z : T}, z ∈ foldC n k cur us → z ∈ us ∨ z ∈ cur
  | [], _, _, h => .inr h
  | x :: us, cur, z, h => by
    rcases foldC_mem (us := us) (cur := netA n k (insA x cur)) h with q | q
    · exact .inl (.tail _ q)
    · rcases insA_mem.mp (netA_mem q) with y | y
      · rw [y]; exact .inl (.head _)
      · exact .inr y
theorem withT_fold {n k : Nat} : ∀ {us cur : List T}, NoTwo us → Apart us cur → withT n k cur us = foldC n k cur us
  | [], _, _, _ => rfl
  | x :: us, cur, nt, ap => by
    obtain ⟨n1, n2⟩ := List.pairwise_cons.mp nt
    show withT n k (if x ∈ cur then cur else netA n k (insA x cur)) us = foldC n k (netA n k (insA x cur)) us
    rw [if_neg fun z => ap x (.head _) x z rfl]
    refine withT_fold n2 fun u hu y hy => ?_
    rcases insA_mem.mp (netA_mem hy) with z | z
    · rw [z]; exact (n1 u hu).symm
    · exact ap u (.tail _ hu) y z
theorem withT_sub {n k : Nat} : ∀ {us cur : List T}, (∀ u ∈ us, u ∈ cur) → withT n k cur us = cur
  | [], _, _ => rfl
  | x :: us, cur, h => by
    show withT n k (if x ∈ cur then cur else netA n k (insA x cur)) us = cur
    rw [if_pos (h x (.head _))]
    exact withT_sub fun u hu => h u (.tail _ hu)
theorem netA_self {n k : Nat} {D : List T} (h : 0 ∉ layeredN jn n k D) : netA n k D = D := by
  unfold netA net
  rw [kp_all fun z => h (List.mem_reverse.mpr z), List.reverse_reverse]
theorem law_first {n k : Nat} {ts S : List T} (hS : Rise S) (hm : ∀ z, z ∈ S ↔ z ∈ ts) (nt : NoTwo ts) (hf : AllFit n ts) : foldC n k [] ts = netA n k S := by
  obtain ⟨S', s1, s2, s3⟩ := foldC_net (n := n) (k := k) (us := ts) (C := []) List.Pairwise.nil nt (fun _ _ _ h => nomatch h) hf (fun _ h => nomatch h)
  have e : S' = S := rise_eq s1 hS fun z => by rw [s2, hm]; simp
  rw [← e]
  exact s3
theorem netA_fit {n k : Nat} {l : List T} (h : AllFit n l) : AllFit n (netA n k l) := fun x hx => h x (netA_mem hx)
theorem law_second {n k : Nat} {P R S : List T} (hP : Rise P) (hR : Rise R) (hS : Rise S) (hm : ∀ z, z ∈ S ↔ z ∈ P ∨ z ∈ R) (ap : Apart P R) (fP : AllFit n P) (fR : AllFit n R) :
    withT n k (netA n k P) (netA n k R) = netA n k S := by
  have hR' : Rise (netA n k R) := netA_rise hR
  have ap2 : Apart (netA n k R) (netA n k P) := fun x hx y hy e => ap y (netA_mem hy) x (netA_mem hx) e.symm
  rw [withT_fold (rise_notwo hR') ap2]
  obtain ⟨S', s1, s2, s3⟩ := foldC_net (n := n) (k := k) (us := netA n k R) (C := P) hP (rise_notwo hR') (fun x hx y hy e => ap y hy x (netA_mem hx) e.symm) (netA_fit fR) fP
  rw [s3]
  have dR : Down R.reverse := rise_down.mp hR
  have ap3 : Apart P R.reverse := fun x hx y hy => ap x hx y (List.mem_reverse.mp hy)
  have fR3 : AllFit n R.reverse := fun x hx => fR x (List.mem_reverse.mp hx)
  have e1 : S'.reverse = insAll P (net n k R.reverse) := down_eq (rise_down.mp s1) (insAll_down (rise_notwo hP) (kp_down dR) fun x hx y hy => ap3 x hx y (kp_mem hy)) fun z => by
    rw [List.mem_reverse, s2, insAll_mem]
    show (z ∈ (net n k R.reverse).reverse ∨ z ∈ P) ↔ _
    rw [List.mem_reverse]
    exact or_comm
  have e2 : S.reverse = insAll P R.reverse := down_eq (rise_down.mp hS) (insAll_down (rise_notwo hP) dR ap3) fun z => by
    rw [List.mem_reverse, hm, insAll_mem, List.mem_reverse]
  show (net n k S'.reverse).reverse = (net n k S.reverse).reverse
  rw [e1, e2, net_insAll (rise_notwo hP) dR ap3 fP fR3]
theorem law_fourth {n k : Nat} {D : List T} (hD : Rise D) (h0 : 0 ∉ layeredN jn n k D) (hf : AllFit n D) : withT n k [] D = D := by
  rw [withT_fold (us := D) (cur := []) (rise_notwo hD) (fun _ _ _ h => nomatch h), law_first hD (fun _ => Iff.rfl) (rise_notwo hD) hf, netA_self h0]
theorem since0 {l : List T} : sinceD 0 l = l := by
  unfold sinceD
  exact List.filter_eq_self.mpr fun x _ => by simp
theorem since_sub {t : Nat} {l : List T} : ∀ u ∈ sinceD t l, u ∈ l := fun u h => (since_mem.mp h).1
/-- the rising list of some ties -/
def srt (ts : List T) : List T := (insAll ts []).reverse
theorem srt_rise {ts : List T} (h : NoTwo ts) : Rise (srt ts) := by
  rw [rise_down]
  unfold srt
  rw [List.reverse_reverse]
  exact insAll_down h List.Pairwise.nil fun _ _ _ z => nomatch z
theorem srt_mem {ts : List T} {z : T} : z ∈ srt ts ↔ z ∈ ts := by
  unfold srt
  rw [List.mem_reverse, insAll_mem]
  simp
theorem notwo_of {ts : List T} (h : (ts.map (·.m)).Nodup) : NoTwo ts := by
  unfold NoTwo
  exact List.pairwise_map.mp h
end SP
set_option maxRecDepth 100000
set_option maxHeartbeats 4000000
/-! the text by places; what the head tells of it -/
namespace SP
open PySem PySem.Spec PyProof.Rows L2
def top (i : Nat) : Stmt := PySem.Challenge.pw_sinceply_k65_whole_desks_and_texts.main.body.getD i (.Pass ⟨0, 0, 0, 0⟩)
abbrev s_is_whole : Stmt := top 23
abbrev s_is_many : Stmt := top 24
abbrev s_is_place_records : Stmt := top 25
abbrev s_is_moment_records : Stmt := top 27
abbrev s_is_meeting : Stmt := top 29
abbrev s_is_tie : Stmt := top 30
abbrev s_record_of : Stmt := top 31
abbrev s_is_record : Stmt := top 32
abbrev s_since : Stmt := top 33
abbrev s_joined : Stmt := top 36
abbrev s_is_depth : Stmt := top 39
abbrev s_look_at_layers : Stmt := top 40
abbrev s_layer_for : Stmt := top 41
abbrev s_layered : Stmt := top 42
abbrev s_is_count : Stmt := top 46
abbrev s_is_net : Stmt := top 47
abbrev s_look_at_net_nets : Stmt := top 48
abbrev s_net_of : Stmt := top 50
abbrev s_net_since : Stmt := top 51
abbrev s_look_for_clash : Stmt := top 67
abbrev s_with_ties : Stmt := top 68
abbrev s_laid : Stmt := top 69
abbrev s_net_come : Stmt := top 70
abbrev s_come_to : Stmt := top 72
abbrev s_ring_with : Stmt := top 73
abbrev s_moves : Stmt := top 74
abbrev s_is_moment_keeper : Stmt := top 77
abbrev s_KeeperInit : Stmt := inClass (top 79) 0
abbrev s_Keeper_turn : Stmt := inClass (top 79) 1
abbrev s_Keeper_come : Stmt := inClass (top 79) 2
abbrev s_Keeper_forget : Stmt := inClass (top 79) 3
abbrev s_Keeper_lay : Stmt := inClass (top 79) 4
abbrev s_Keeper_back : Stmt := inClass (top 79) 5
abbrev s_Keeper_net : Stmt := inClass (top 79) 6
abbrev s_tie_text : Stmt := top 84
abbrev s_record_text : Stmt := top 85
abbrev s_net_text : Stmt := top 86
abbrev s_number_in_texts : Stmt := top 87
abbrev s_tie_in : Stmt := top 89
abbrev s_read_record : Stmt := top 90
abbrev s_read_net : Stmt := top 91
abbrev s_number_in_desk : Stmt := top 102
abbrev s_words_of : Stmt := top 104
abbrev s_numbers_of : Stmt := top 105
abbrev s_places_shown : Stmt := top 106
abbrev s_moves_shown : Stmt := top 107
abbrev s_DeskInit : Stmt := inClass (top 110) 0
abbrev s_Desk_say : Stmt := inClass (top 110) 1
abbrev s_Desk_look_for_keeper : Stmt := inClass (top 110) 2
abbrev s_Desk_laid_on : Stmt := inClass (top 110) 3
abbrev s_Desk_deed_told : Stmt := inClass (top 110) 4
abbrev s_Desk_answered : Stmt := inClass (top 110) 5
abbrev s__law_folded : Stmt := top 112
abbrev s__law_begun : Stmt := top 113
abbrev s__law_take : Stmt := top 114
abbrev s__law_wide : Stmt := top 115
abbrev s__law_layers_of : Stmt := top 116
abbrev s__law_net_of : Stmt := top 117
abbrev s__law_since : Stmt := top 118
abbrev s__law_few_places : Stmt := top 119
abbrev s__law_some_ties : Stmt := top 120
abbrev s__law_text : Stmt := top 121
abbrev s__law_told : Stmt := top 122
abbrev s__law_done : Stmt := top 123
abbrev s__law_back_to_none : Stmt := top 124
abbrev s__law_no_deed : Stmt := top 125
abbrev s__law_right : Stmt := top 126
abbrev s_law : Stmt := top 127
def d_is_whole : He.DefD := ⟨("is_whole", none), "is_whole", "is_whole", defArgs s_is_whole, defBody s_is_whole, defScope s_is_whole, [], []⟩
def d_is_many : He.DefD := ⟨("is_many", none), "is_many", "is_many", defArgs s_is_many, defBody s_is_many, defScope s_is_many, [], []⟩
def d_is_place_records : He.DefD := ⟨("is_place_records", none), "is_place", "is_place", defArgs s_is_place_records, defBody s_is_place_records, defScope s_is_place_records, [], []⟩
def d_is_moment_records : He.DefD := ⟨("is_moment_records", none), "is_moment", "is_moment", defArgs s_is_moment_records, defBody s_is_moment_records, defScope s_is_moment_records, [], []⟩
def d_is_meeting : He.DefD := ⟨("is_meeting", none), "is_meeting", "is_meeting", defArgs s_is_meeting, defBody s_is_meeting, defScope s_is_meeting, [], []⟩
def d_is_tie : He.DefD := ⟨("is_tie", none), "is_tie", "is_tie", defArgs s_is_tie, defBody s_is_tie, defScope s_is_tie, [], []⟩
def d_record_of : He.DefD := ⟨("record_of", none), "record_of", "record_of", defArgs s_record_of, defBody s_record_of, defScope s_record_of, [], []⟩
def d_is_record : He.DefD := ⟨("is_record", none), "is_record", "is_record", defArgs s_is_record, defBody s_is_record, defScope s_is_record, [], []⟩
def d_since : He.DefD := ⟨("since", none), "since", "since", defArgs s_since, defBody s_since, defScope s_since, [], []⟩
def d_joined : He.DefD := ⟨("joined", none), "joined", "joined", defArgs s_joined, defBody s_joined, defScope s_joined, [], []⟩
def d_is_depth : He.DefD := ⟨("is_depth", none), "is_depth", "is_depth", defArgs s_is_depth, defBody s_is_depth, defScope s_is_depth, [], []⟩
def d_look_at_layers : He.DefD := ⟨("look_at_layers", none), "look_at_layers", "look_at_layers", defArgs s_look_at_layers, defBody s_look_at_layers, defScope s_look_at_layers, [], []⟩
def d_layer_for : He.DefD := ⟨("layer_for", none), "layer_for", "layer_for", defArgs s_layer_for, defBody s_layer_for, defScope s_layer_for, [], []⟩
def d_layered : He.DefD := ⟨("layered", none), "layered", "layered", defArgs s_layered, defBody s_layered, defScope s_layered, [], []⟩
def d_is_count : He.DefD := ⟨("is_count", none), "is_count", "is_count", defArgs s_is_count, defBody s_is_count, defScope s_is_count, [], []⟩
def d_is_net : He.DefD := ⟨("is_net", none), "is_net", "is_net", defArgs s_is_net, defBody s_is_net, defScope s_is_net, [], []⟩
def d_look_at_net_nets : He.DefD := ⟨("look_at_net_nets", none), "look_at_net", "look_at_net", defArgs s_look_at_net_nets, defBody s_look_at_net_nets, defScope s_look_at_net_nets, [], []⟩
def d_net_of : He.DefD := ⟨("net_of", none), "net_of", "net_of", defArgs s_net_of, defBody s_net_of, defScope s_net_of, [], []⟩
def d_net_since : He.DefD := ⟨("net_since", none), "net_since", "net_since", defArgs s_net_since, defBody s_net_since, defScope s_net_since, [], []⟩
def d_look_for_clash : He.DefD := ⟨("look_for_clash", none), "look_for_clash", "look_for_clash", defArgs s_look_for_clash, defBody s_look_for_clash, defScope s_look_for_clash, [], []⟩
def d_with_ties : He.DefD := ⟨("with_ties", none), "with_ties", "with_ties", defArgs s_with_ties, defBody s_with_ties, defScope s_with_ties, [], []⟩
def d_laid : He.DefD := ⟨("laid", none), "laid", "laid", defArgs s_laid, defBody s_laid, defScope s_laid, [], []⟩
def d_net_come : He.DefD := ⟨("net_come", none), "net_come", "net_come", defArgs s_net_come, defBody s_net_come, defScope s_net_come, [], []⟩
def d_come_to : He.DefD := ⟨("come_to", none), "come_to", "come_to", defArgs s_come_to, defBody s_come_to, defScope s_come_to, [], []⟩
def d_ring_with : He.DefD := ⟨("ring_with", none), "ring_with", "ring_with", defArgs s_ring_with, defBody s_ring_with, defScope s_ring_with, [], []⟩
def d_moves : He.DefD := ⟨("moves", none), "moves", "moves", defArgs s_moves, defBody s_moves, defScope s_moves, [], []⟩
def d_is_moment_keeper : He.DefD := ⟨("is_moment_keeper", none), "is_moment", "is_moment", defArgs s_is_moment_keeper, defBody s_is_moment_keeper, defScope s_is_moment_keeper, [], []⟩
def d_KeeperInit : He.DefD := ⟨("Keeper", some "__init__"), "__init__", "Keeper.__init__", defArgs s_KeeperInit, defBody s_KeeperInit, defScope s_KeeperInit, [], []⟩
def d_Keeper_turn : He.DefD := ⟨("Keeper", some "turn"), "turn", "Keeper.turn", defArgs s_Keeper_turn, defBody s_Keeper_turn, defScope s_Keeper_turn, [], []⟩
def d_Keeper_come : He.DefD := ⟨("Keeper", some "come"), "come", "Keeper.come", defArgs s_Keeper_come, defBody s_Keeper_come, defScope s_Keeper_come, [], []⟩
def d_Keeper_forget : He.DefD := ⟨("Keeper", some "forget"), "forget", "Keeper.forget", defArgs s_Keeper_forget, defBody s_Keeper_forget, defScope s_Keeper_forget, [], []⟩
def d_Keeper_lay : He.DefD := ⟨("Keeper", some "lay"), "lay", "Keeper.lay", defArgs s_Keeper_lay, defBody s_Keeper_lay, defScope s_Keeper_lay, [], []⟩
def d_Keeper_back : He.DefD := ⟨("Keeper", some "back"), "back", "Keeper.back", defArgs s_Keeper_back, defBody s_Keeper_back, defScope s_Keeper_back, [], []⟩
def d_Keeper_net : He.DefD := ⟨("Keeper", some "net"), "net", "Keeper.net", defArgs s_Keeper_net, defBody s_Keeper_net, defScope s_Keeper_net, [], []⟩
def d_tie_text : He.DefD := ⟨("tie_text", none), "tie_text", "tie_text", defArgs s_tie_text, defBody s_tie_text, defScope s_tie_text, [], []⟩
def d_record_text : He.DefD := ⟨("record_text", none), "record_text", "record_text", defArgs s_record_text, defBody s_record_text, defScope s_record_text, [], []⟩
def d_net_text : He.DefD := ⟨("net_text", none), "net_text", "net_text", defArgs s_net_text, defBody s_net_text, defScope s_net_text, [], []⟩
def d_number_in_texts : He.DefD := ⟨("number_in_texts", none), "number_in", "number_in", defArgs s_number_in_texts, defBody s_number_in_texts, defScope s_number_in_texts, [], []⟩
def d_tie_in : He.DefD := ⟨("tie_in", none), "tie_in", "tie_in", defArgs s_tie_in, defBody s_tie_in, defScope s_tie_in, [], []⟩
def d_read_record : He.DefD := ⟨("read_record", none), "read_record", "read_record", defArgs s_read_record, defBody s_read_record, defScope s_read_record, [], []⟩
def d_read_net : He.DefD := ⟨("read_net", none), "read_net", "read_net", defArgs s_read_net, defBody s_read_net, defScope s_read_net, [], []⟩
def d_number_in_desk : He.DefD := ⟨("number_in_desk", none), "number_in", "number_in", defArgs s_number_in_desk, defBody s_number_in_desk, defScope s_number_in_desk, [], []⟩
def d_words_of : He.DefD := ⟨("words_of", none), "words_of", "words_of", defArgs s_words_of, defBody s_words_of, defScope s_words_of, [], []⟩
def d_numbers_of : He.DefD := ⟨("numbers_of", none), "numbers_of", "numbers_of", defArgs s_numbers_of, defBody s_numbers_of, defScope s_numbers_of, [], []⟩
def d_places_shown : He.DefD := ⟨("places_shown", none), "places_shown", "places_shown", defArgs s_places_shown, defBody s_places_shown, defScope s_places_shown, [], []⟩
def d_moves_shown : He.DefD := ⟨("moves_shown", none), "moves_shown", "moves_shown", defArgs s_moves_shown, defBody s_moves_shown, defScope s_moves_shown, [], []⟩
def d_DeskInit : He.DefD := ⟨("Desk", some "__init__"), "__init__", "Desk.__init__", defArgs s_DeskInit, defBody s_DeskInit, defScope s_DeskInit, [], []⟩
def d_Desk_say : He.DefD := ⟨("Desk", some "say"), "say", "Desk.say", defArgs s_Desk_say, defBody s_Desk_say, defScope s_Desk_say, [], []⟩
def d_Desk_look_for_keeper : He.DefD := ⟨("Desk", some "look_for_keeper"), "look_for_keeper", "Desk.look_for_keeper", defArgs s_Desk_look_for_keeper, defBody s_Desk_look_for_keeper, defScope s_Desk_look_for_keeper, [], []⟩
def d_Desk_laid_on : He.DefD := ⟨("Desk", some "laid_on"), "laid_on", "Desk.laid_on", defArgs s_Desk_laid_on, defBody s_Desk_laid_on, defScope s_Desk_laid_on, [], []⟩
def d_Desk_deed_told : He.DefD := ⟨("Desk", some "deed_told"), "deed_told", "Desk.deed_told", defArgs s_Desk_deed_told, defBody s_Desk_deed_told, defScope s_Desk_deed_told, [], []⟩
def d_Desk_answered : He.DefD := ⟨("Desk", some "answered"), "answered", "Desk.answered", defArgs s_Desk_answered, defBody s_Desk_answered, defScope s_Desk_answered, [], []⟩
def d__law_folded : He.DefD := ⟨("_law_folded", none), "_law_folded", "_law_folded", defArgs s__law_folded, defBody s__law_folded, defScope s__law_folded, [], []⟩
def d__law_begun : He.DefD := ⟨("_law_begun", none), "_law_begun", "_law_begun", defArgs s__law_begun, defBody s__law_begun, defScope s__law_begun, [], []⟩
def d__law_take : He.DefD := ⟨("_law_take", none), "_law_take", "_law_take", defArgs s__law_take, defBody s__law_take, defScope s__law_take, [], []⟩
def d__law_wide : He.DefD := ⟨("_law_wide", none), "_law_wide", "_law_wide", defArgs s__law_wide, defBody s__law_wide, defScope s__law_wide, [], []⟩
def d__law_layers_of : He.DefD := ⟨("_law_layers_of", none), "_law_layers_of", "_law_layers_of", defArgs s__law_layers_of, defBody s__law_layers_of, defScope s__law_layers_of, [], []⟩
def d__law_net_of : He.DefD := ⟨("_law_net_of", none), "_law_net_of", "_law_net_of", defArgs s__law_net_of, defBody s__law_net_of, defScope s__law_net_of, [], []⟩
def d__law_since : He.DefD := ⟨("_law_since", none), "_law_since", "_law_since", defArgs s__law_since, defBody s__law_since, defScope s__law_since, [], []⟩
def d__law_few_places : He.DefD := ⟨("_law_few_places", none), "_law_few_places", "_law_few_places", defArgs s__law_few_places, defBody s__law_few_places, defScope s__law_few_places, [], []⟩
def d__law_some_ties : He.DefD := ⟨("_law_some_ties", none), "_law_some_ties", "_law_some_ties", defArgs s__law_some_ties, defBody s__law_some_ties, defScope s__law_some_ties, [], []⟩
def d__law_text : He.DefD := ⟨("_law_text", none), "_law_text", "_law_text", defArgs s__law_text, defBody s__law_text, defScope s__law_text, [], []⟩
def d__law_told : He.DefD := ⟨("_law_told", none), "_law_told", "_law_told", defArgs s__law_told, defBody s__law_told, defScope s__law_told, [], []⟩
def d__law_done : He.DefD := ⟨("_law_done", none), "_law_done", "_law_done", defArgs s__law_done, defBody s__law_done, defScope s__law_done, [], []⟩
def d__law_back_to_none : He.DefD := ⟨("_law_back_to_none", none), "_law_back_to_none", "_law_back_to_none", defArgs s__law_back_to_none, defBody s__law_back_to_none, defScope s__law_back_to_none, [], []⟩
def d__law_no_deed : He.DefD := ⟨("_law_no_deed", none), "_law_no_deed", "_law_no_deed", defArgs s__law_no_deed, defBody s__law_no_deed, defScope s__law_no_deed, [], []⟩
def d__law_right : He.DefD := ⟨("_law_right", none), "_law_right", "_law_right", defArgs s__law_right, defBody s__law_right, defScope s__law_right, [], []⟩
def d_law : He.DefD := ⟨("law", none), "law", "law", defArgs s_law, defBody s_law, defScope s_law, [], []⟩
def fn0 : List He.DefD := [d_is_whole, d_is_many, d_is_place_records, d_is_moment_records, d_is_meeting, d_is_tie, d_record_of, d_is_record, d_since, d_joined, d_is_depth, d_look_at_layers, d_layer_for, d_layered, d_is_count, d_is_net, d_look_at_net_nets, d_net_of, d_net_since, d_look_for_clash]
def fn1 : List He.DefD := [d_with_ties, d_laid, d_net_come, d_come_to, d_ring_with, d_moves, d_is_moment_keeper, d_KeeperInit, d_Keeper_turn, d_Keeper_come, d_Keeper_forget, d_Keeper_lay, d_Keeper_back, d_Keeper_net, d_tie_text, d_record_text, d_net_text, d_number_in_texts, d_tie_in, d_read_record]
def fn2 : List He.DefD := [d_read_net, d_number_in_desk, d_words_of, d_numbers_of, d_places_shown, d_moves_shown, d_DeskInit, d_Desk_say, d_Desk_look_for_keeper, d_Desk_laid_on, d_Desk_deed_told, d_Desk_answered, d__law_folded, d__law_begun, d__law_take, d__law_wide, d__law_layers_of, d__law_net_of, d__law_since, d__law_few_places]
def fn3 : List He.DefD := [d__law_some_ties, d__law_text, d__law_told, d__law_done, d__law_back_to_none, d__law_no_deed, d__law_right, d_law]
def fn : List He.DefD := fn0 ++ fn1 ++ fn2 ++ fn3
def fa0 : List He.Fa := [.glo "is_whole", .glo "is_many", .glo "is_place_records", .glo "is_moment_records", .glo "is_meeting", .glo "is_tie", .glo "record_of", .glo "is_record", .glo "since", .glo "joined", .glo "is_depth", .glo "look_at_layers", .glo "layer_for", .glo "layered", .glo "is_count", .glo "is_net", .glo "look_at_net_nets", .glo "net_of", .glo "net_since", .glo "look_for_clash", .glo "with_ties", .glo "laid", .glo "net_come", .glo "come_to", .glo "ring_with", .glo "moves", .glo "is_moment_keeper", .glo "tie_text", .glo "record_text", .glo "net_text"]
def fa1 : List He.Fa := [.glo "number_in_texts", .glo "tie_in", .glo "read_record", .glo "read_net", .glo "number_in_desk", .glo "words_of", .glo "numbers_of", .glo "places_shown", .glo "moves_shown", .glo "_law_folded", .glo "_law_begun", .glo "_law_take", .glo "_law_wide", .glo "_law_layers_of", .glo "_law_net_of", .glo "_law_since", .glo "_law_few_places", .glo "_law_some_ties", .glo "_law_text", .glo "_law_told", .glo "_law_done", .glo "_law_back_to_none", .glo "_law_no_deed", .glo "_law_right", .glo "law", .free "isinstance", .free "int", .free "bool", .free "tuple", .free "list"]
def fa2 : List He.Fa := [.free "len", .free "all", .free "sorted", .free "min", .free "max", .free "range", .free "reversed", .free "enumerate", .free "zip", .free "str", .free "abs", .int "MOST_PLACES_records" 10, .int "MOST_TIES" 60, .int "LAST_MOMENT" 1000000000000000000000000000000, .int "MOST_LAYERS_layers" 6, .int "MOST_PLACES_nets" 10, .int "MOST_LAYERS_nets" 6, .int "LAST" 1000000000000000000000000000000, .int "MOST_FIGURES_texts" 60, .int "MOST_FIGURES_desk" 60, .str "FIGURES_texts" "0123456789", .str "NOTHING" "none", .str "FIGURES_desk" "0123456789", .glo "Keeper", .glo "Desk", .glo "NoDeed", .glo "COUNTS", .cls "Keeper", .cls "Desk", .mkr "Keeper"]
def fa3 : List He.Fa := [.mkr "Desk", .noat "Keeper" "kept", .noat "Keeper" "first", .noat "Keeper" "past", .noat "Desk" "keeper", .meth "Keeper" "turn", .meth "Keeper" "come", .meth "Keeper" "forget", .meth "Keeper" "lay", .meth "Keeper" "back", .meth "Keeper" "net", .meth "Desk" "say", .meth "Desk" "look_for_keeper", .meth "Desk" "laid_on", .meth "Desk" "deed_told", .meth "Desk" "answered", .exm "NoDeed" "NoDeed" true, .exc "NoDeed"]
def fa : List He.Fa := fa0 ++ fa1 ++ fa2 ++ fa3
def tabC : He.Tab := (fun K => He.ga K "COUNTS", ["web", "tie", "forget", "back", "net", "hang", "cuts", "least", "when", "classes"])
def ts : List He.Tab := [tabC]
end SP
set_option maxRecDepth 100000
set_option maxHeartbeats 4000000
/-! own rules of the layer: calls by names, list(reversed(xs)), d.get(k, x) of a written dict, min of a list of tuples, an own exception made with nothing -/
namespace SP
open PySem PySem.Spec PyProof.Rows L2
/-! ### calls by names -/
structure Cal (P : Program) (w : World) (K : PySem.W.Frag) (mg : Str → Option Value) (base : Heap) (CX : CXT) (x : Str) (k : Nat) (ps : List Str) (sp : Sp) : Prop where
  ex : ∃ f fd, FnOk P w K mg base CX k f fd ps sp ∧ mg x = some (.ref f) ∧ PySem.W.keepIn K (.ref f) = true ∧ Binds K fd ps []
structure CalM (P : Program) (w : World) (K : PySem.W.Frag) (mg : Str → Option Value) (base : Heap) (CX : CXT) (C : Addr) (m : Str) (k : Nat) (ps : List Str) (sp : Sp) : Prop where
  ex : ∃ f fd, FnOk P w K mg base CX k f fd ps sp ∧ Meth K C m f ∧ Binds K fd ps []
structure CalI (P : Program) (w : World) (K : PySem.W.Frag) (mg : Str → Option Value) (base : Heap) (CX : CXT) (C : Addr) (k : Nat) (ps : List Str) (sp : Sp) : Prop where
  ex : ∃ f fd, FnOk P w K mg base CX k f fd ps sp ∧ Mk K C f ∧ Binds K fd ps []
structure Glo (mg : Str → Option Value) (x : Str) (v : V) : Prop where
  ex : ∃ u, mg x = some u ∧ RelV v u
section
variable {X : Cx} {CX : CXT} {x m : Str} {k : Nat} {ps : List Str} {sp : Sp} {E : XK} {e o : Expr} {es : List Expr} {t : TA} {ta : TE} {p apos pos : Pos} {C : Addr}
theorem pe_cal (F : Cal X.prog X.w X.K X.mg X.base CX x k ps sp) (hr : Room k X.A) (hx : Passes CX X E) (ha : PA X (e :: es) t) (hg : Gl X x := by rfl) (hdb : (x == ("__debug__" : Str)) = false := by decide)
    (he : starEach (e :: es) X.env = (false, eval e X.env) :: starEach es X.env := by rfl) (hpl : (backTo pos (starEach es X.env)).any (·.1) = false := by rfl) : PE X (.Call (.Name x p) (e :: es) [] pos) (tCall sp [] E t) := by
  obtain ⟨f, fd, G, hm, hk, hb⟩ := F.ex
  exact pe_call G hr hg hm hk hb .nil hx ha hdb he hpl
theorem pe_g {v : V} (F : Glo X.mg x v) (hg : Gl X x := by rfl) (hd : (x == ("__debug__" : Str)) = false := by decide) : PE X (.Name x pos) (tC v) := by
  obtain ⟨u, hm, r⟩ := F.ex
  exact pe_glob hg hm r hd
end
section
variable {X : Cx} {CX : CXT} {m x : Str} {k : Nat} {ps : List Str} {sp : Sp} {E : XK} {e o : Expr} {es : List Expr} {t : TA} {ta : TE} {p apos pos : Pos} {C : Addr}
theorem pe_calm {pl : Sem Bool} (F : CalM X.prog X.w X.K X.mg X.base CX C m k ps sp) (c : Cls X.K C) (hr : Room k X.A) (hx : Passes CX X E) (he : PE X o ta) (ha : PA X (e :: es) t)
    (hst : starEach (e :: es) X.env = (false, eval e X.env) :: starEach es X.env := by rfl) (hpl : (backTo pos (starEach es X.env)).any (·.1) = false := by rfl)
    (ht : eval (.Call (.Attribute o m apos) (e :: es) [] pos) X.env = (do
      let ov ← eval o X.env
      standAt apos.atName
      let (f, first) ← holding [ov] (getMethod ov m pl)
      callWith pos f first (backTo pos (starEach (e :: es) X.env)) (backToKw pos (keywordEach [] X.env))) := by rfl) :
    PE X (.Call (.Attribute o m apos) (e :: es) [] pos) (tMeth C m sp [] E ta t) := by
  obtain ⟨f, fd, G, hm, hb⟩ := F.ex
  exact pe_meth he c hm G hr hb .nil hx ha hst hpl ht
theorem pe_calm0 {pl : Sem Bool} (F : CalM X.prog X.w X.K X.mg X.base CX C m k ps sp) (c : Cls X.K C) (hr : Room k X.A) (hx : Passes CX X E) (he : PE X o ta)
    (ht : eval (.Call (.Attribute o m apos) [] [] pos) X.env = (do
      let ov ← eval o X.env
      standAt apos.atName
      let (f, first) ← holding [ov] (getMethod ov m pl)
      callWith pos f first (backTo pos (starEach [] X.env)) (backToKw pos (keywordEach [] X.env))) := by rfl) :
    PE X (.Call (.Attribute o m apos) [] [] pos) (tMeth C m sp [] E ta tNil) := by
  obtain ⟨f, fd, G, hm, hb⟩ := F.ex
  exact pe_meth0 he c hm G hr hb .nil hx ht
theorem pe_cali (F : CalI X.prog X.w X.K X.mg X.base CX C k ps sp) (hm : X.mg x = some (.ref C)) (hr : Room (k + 1) X.A) (hx : Passes CX X E) (ha : PA X (e :: es) t) (hg : Gl X x := by rfl) (hdb : (x == ("__debug__" : Str)) = false := by decide)
    (he : starEach (e :: es) X.env = (false, eval e X.env) :: starEach es X.env := by rfl) (hpl : (backTo pos (starEach es X.env)).any (·.1) = false := by rfl) : PE X (.Call (.Name x p) (e :: es) [] pos) (tMake C sp [] E t) := by
  obtain ⟨f, fd, G, M, hb⟩ := F.ex
  exact pe_make M G hr hg hm hb .nil hx ha hdb he hpl
theorem pe_cali0 (F : CalI X.prog X.w X.K X.mg X.base CX C k ps sp) (hm : X.mg x = some (.ref C)) (hr : Room (k + 1) X.A) (hx : Passes CX X E) (hg : Gl X x := by rfl) (hdb : (x == ("__debug__" : Str)) = false := by decide) :
    PE X (.Call (.Name x p) [] [] pos) (tMake C sp [] E tNil) := by
  obtain ⟨f, fd, G, M, hb⟩ := F.ex
  exact pe_make0 M G hr hg hm hb .nil hx hdb
end
/-! ### list(reversed(xs)), xs a list -/
section
variable {prog : Program} {w : World} {A : Around} {E : Value → Shared → Prop} {s : Shared}
theorem list_init_rev {R : Result → Shared → Prop} {it l : Addr} {items : Array Value} (hh : A.handled = none) (hit : s.heap.IsRevIter it l ((items.size : Int) - 1)) (hl : s.heap.IsList l items) (hne : l ≠ it) (hn : items.size ≤ sizeLine)
    (S : Addr) (hS : s.heap.get? S = some { cls := .type "list", data := .seq #[] }) (hSl : S ≠ l)
    (hR : ∀ h' tk acc' c', (∀ b o, b ≠ S → b ≠ it → s.heap.get? b = some o → h'.get? b = some o) → h'.get? S = some { cls := .type "list", dict := none, data := .seq acc' c', slots := #[] } →
      ItemsOf (fun i v => items[items.size - 1 - i]? = some v) acc' items.size → R (.ok (.ret .none)) { s with heap := h', toks := tk }) :
    wpAny (model prog w) A.in1 (Builtin.«list.__init__» ⟨[.ref S, .ref it], []⟩)
      (fun fin s' => match fin with | .done f => R (.ok f) s' | .again c' => c'.quiet = true ∧ codeAny (model prog w) A c' R s') (fun e s' => R (.error e) s') s := by
  have hSi : S ≠ it := fun e => by
    obtain ⟨o, ho, hc, hd⟩ := hit
    rw [e, ho] at hS
    cases hS
    cases hd
  show wpAny _ _ (do let old ← Builtin.List.listItems (.ref S); Builtin.List.listUpdate (.ref S) (fun _ => #[]); letGo old.toList.reverse; Builtin.List.listExtendWith (.ref S) (.ref it) .none) _ _ s
  refine wpAny_bind ?_
  unfold Builtin.List.listItems
  refine wpAny_bind (wpAny_seqItems hS rfl (wpAny_pure ?_))
  show wpAny _ _ (updateSeq S (fun _ => #[]) >>= fun _ => letGo (#[] : Array Value).toList.reverse >>= fun _ => Builtin.List.listExtendWith (.ref S) (.ref it) .none) _ _ s
  refine wpAny_bind (wpAny_updateSeq hS rfl ?_)
  have hS₂ := Heap.get?_update_self (Obj.mapSeq (fun _ => (#[] : Array Value))) hS rfl
  have oth : ∀ b o, b ≠ S → s.heap.get? b = some o → (s.heap.update S (Obj.mapSeq (fun _ => (#[] : Array Value)))).get? b = some o :=
    fun b o hb e => (Heap.get?_update_other _ _ (Ne.symm hb)).trans e
  refine wpAny_bind (wpAny_letGo ?_)
  have hit1 : (s.heap.update S (Obj.mapSeq (fun _ => (#[] : Array Value)))).IsRevIter it l ((items.size : Int) - 1) := hit.at fun o e => oth it o (Ne.symm hSi) e
  have hl1 : (s.heap.update S (Obj.mapSeq (fun _ => (#[] : Array Value)))).IsList l items := by
    obtain ⟨o, ho, r⟩ := hl
    exact ⟨o, oth l o (Ne.symm hSl) ho, r⟩
  have W := (Walks.listRev (prog := prog) (w := w) (A := A.in1) hh it l hne items).toS
  have hSf : S ∉ [it, l] := by simp only [List.mem_cons, List.not_mem_nil, or_false, not_or]; exact ⟨hSi, hSl⟩
  have hT : ({ s with heap := s.heap.update S (Obj.mapSeq (fun _ => (#[] : Array Value))) } : Shared).TypeIs (.ref it) "list_reverseiterator" := Heap.IsRevIter.typeIs (s := { s with heap := s.heap.update S (Obj.mapSeq (fun _ => (#[] : Array Value))) }) hit1
  have h1 : Builtin.List.listSameRef (.ref S) (.ref it) = false := by simp [Builtin.List.listSameRef, hSi]
  unfold Builtin.List.listExtendWith
  refine wpAny_bind (wpAny_typeOf hT ?_)
  rw [if_neg (by rw [h1]; decide)]
  refine wpAny_bind (wpAny_pyIter_revIter (s := { s with heap := s.heap.update S (Obj.mapSeq (fun _ => (#[] : Array Value))) }) hit1 ?_)
  refine wpAny_bind (wpAny_holding ?_)
  unfold Builtin.List.listLengthHint
  refine wpAny_bind (wpAny_specialOf hT RT.nolen_lri ?_)
  show wpAny _ A.in1 (specialOf (Value.ref it) (Str.ofString "__length_hint__") >>= _) _ _ _
  refine wpAny_bind (wpAny_specialOf hT RT.hint_lri ?_)
  generalize hid : ("list_reverseiterator.__length_hint__" : String) = id0
  wp_delta
  rw [show splitId id0 = some ("list_reverseiterator", "__length_hint__") from by subst hid; decide +kernel]
  subst hid
  refine wpAny_bind (wpAny_isInstance (b := true) hT (by rw [isSubtype_type]; kernel_rfl) ?_)
  refine wpAny_pure ?_
  rw [if_neg (by decide)]
  have e0 : ((items.size : Nat) : Int) - 1 - ((0 : Nat) : Int) = (items.size : Int) - 1 := by omega
  refine wpAny_pure ⟨plainId_quiet F.plain_extend_loop _, codeAny_extend_loopS W hn _ hSf _ items.size 0 _ _ _ rfl (Nat.zero_le _) ⟨Nat.zero_le _, by rw [e0]; exact hit1, hl1⟩ hS₂ (ItemsOf.nil _) fun s' acc' c' hm hS' hacc => ?_⟩
  rw [Moved.eq_with hm]
  refine hR s'.heap s'.toks acc' c' (fun b o hb hb2 e => hm.heap b o (fun hmem => ?_) (oth b o hb e)) hS' hacc
  rcases List.mem_cons.mp hmem with e' | hmem
  · exact hb e'
  · exact hb2 (List.mem_singleton.mp hmem)
theorem call_list_rev {it l : Addr} {items : Array Value} {Q : Value → Shared → Prop} (hh : A.handled = none) (hit : s.heap.IsRevIter it l ((items.size : Int) - 1)) (hl : s.heap.IsList l items) (hne : l ≠ it) (hn : items.size ≤ sizeLine)
    (hQ : ∀ h' tk acc' c', (∀ b o, b ≠ it → s.heap.get? b = some o → h'.get? b = some o) →
      h'.get? s.heap.objs.size = some { cls := .type "list", dict := none, data := .seq acc' c', slots := #[] } → ItemsOf (fun i v => items[items.size - 1 - i]? = some v) acc' items.size → Q (.ref s.heap.objs.size) { s with heap := h', toks := tk }) :
    wpAny (model prog w) A (call (.type "list") [.ref it]) Q E s := by
  refine callType_codes (Q₁ := fun obj s₁ => obj = .ref s.heap.objs.size ∧ s₁ = { s with heap := s.heap.push { cls := .type "list", data := .seq #[] } }) F.called_list (F.typeCall_list_1 _) F.entry_list_init
    (code_list_new _ ⟨rfl, rfl⟩) fun obj s₁ h₁ => ?_
  obtain ⟨rfl, rfl⟩ := h₁
  have hS : (s.heap.push { cls := .type "list", data := .seq #[] }).get? s.heap.objs.size = some { cls := .type "list", data := .seq #[] } := Heap.get?_push_size _ rfl
  obtain ⟨ol, hol, _⟩ := id hl
  refine ⟨⟨_, hS, rfl⟩, F.args_list_init_2 _ _, list_init_rev (A := A.in1) hh (hit.at fun o e => Heap.get?_push_of_some _ e) (hl.push _) hne hn _ hS (Nat.ne_of_gt (Heap.lt_size hol)) fun h' tk acc' c' hk hS' hacc => ?_⟩
  exact ⟨rfl, hQ h' tk acc' c' (fun b o hb e => hk b o (Nat.ne_of_lt (Heap.lt_size e)) hb (Heap.get?_push_of_some _ e)) hS' hacc⟩
end
section
variable {X : Cx}
def tLstRev (K : PySem.W.Frag) (te : TE) : TE := fun σ H Q => te σ H fun v H1 => ∃ (a : Addr) (xs : List V), v = .ref a ∧ SqL K H1 a xs ∧ ∀ q, H1 q = none → Q (.ref q) (upd H1 q (.lst xs.reverse))
theorem pe_lstRev {e : Expr} {te : TE} {p p2 pos pos2 : Pos} (hm : X.mg "list" = none) (hm2 : X.mg "reversed" = none) (he : PE X e te) (hc : X.calm = true := by rfl) (hg : Gl X "list" := by rfl) (hg2 : Gl X "reversed" := by rfl)
    (hs : starEach [e] X.env = (false, eval e X.env) :: starEach [] X.env := by rfl)
    (hs2 : starEach [.Call (.Name "reversed" p2) [e] [] pos2] X.env = (false, eval (.Call (.Name "reversed" p2) [e] [] pos2) X.env) :: starEach [] X.env := by rfl) :
    PE X (.Call (.Name "list" p) [.Call (.Name "reversed" p2) [e] [] pos2] [] pos) (tLstRev X.K te) := by
  refine ⟨fun pins s σ H Q I h => ?_⟩
  refine Call_ (ld_blt I hg hm (by decide +kernel : bootBuiltins "list" = some (.type "list")) (PyProof.Rows.callWith_type1 (args_cons (Call_ (ld_blt I hg2 hm2 PyProof.Rows.boot_reversed (PyProof.Rows.callWith_type1 (args_cons (thn (he.run pins s σ H _ I h) fun u s1 ⟨v, H1, I1, r1, q1⟩ => args_nil ?_) hs) hs rfl))) hs2) hs2 rfl))
  obtain ⟨a, xs, ev, hq, q⟩ := q1
  subst ev
  obtain rfl : u = Value.ref a := r1
  obtain ⟨its, rv, p', hz⟩ := I1.list hq
  refine call_reversed_list p'.isList (args_nil ?_)
  have k0 : ∀ b o, s1.heap.get? b = some o → (s1.heap.push (revObj a ((its.toArray.size : Int) - 1))).get? b = some o := fun b o e => Heap.get?_push_of_some _ e
  have I2 : Inv X pins σ H1 { s1 with heap := s1.heap.push (revObj a ((its.toArray.size : Int) - 1)) } := I1.kept (t' := s1.toks) k0
  obtain ⟨f0, f1, f2, f3, f4, f5⟩ := I1.fpOk (H' := H1) (b := s1.heap.objs.size) (Nat.le_refl _) (I1.hok.fresh (Nat.le_refl _))
  have hl := p'.isList
  obtain ⟨ol, hol, _⟩ := id hl
  have hne : a ≠ s1.heap.objs.size := Nat.ne_of_lt (Heap.lt_size hol)
  have hn : its.toArray.size ≤ sizeLine := by rw [List.size_toArray, ← rv.length]; exact hz
  refine call_list_rev (s := { s1 with heap := s1.heap.push (revObj a ((its.toArray.size : Int) - 1)) }) (I1.ok.hd hc) ⟨_, Heap.get?_push_size _ rfl, rfl, rfl⟩ (hl.push _) hne hn fun h' tk acc c' hk hS hi => ?_
  have e1 : (s1.heap.push (revObj a ((its.toArray.size : Int) - 1))).objs.size = s1.heap.objs.size + 1 := Heap.size_push _ _
  have hfr : H1 (s1.heap.push (revObj a ((its.toArray.size : Int) - 1))).objs.size = none := I2.hok.fresh (Nat.le_refl _)
  refine ⟨.ref (s1.heap.push (revObj a ((its.toArray.size : Int) - 1))).objs.size, upd H1 (s1.heap.push (revObj a ((its.toArray.size : Int) - 1))).objs.size (.lst xs.reverse),
    I1.laid (t' := tk) (fun c o e => hk c o (Nat.ne_of_lt (Heap.lt_size e)) (k0 c o e)) (by rw [e1]; exact Nat.le_succ _) (show ObjOk X.prog X.w _ _ _ (.lst xs.reverse) from ⟨by rw [List.length_reverse]; exact hz, acc.toList, c', RT.vals_rev rv hi, by rw [Array.toArray_toList]; exact hS⟩), rfl, q _ hfr⟩
end
/-! ### d.get(k, x), d a written dict of the module with text keys -/
section
variable {X : Cx} {d : Addr} {es : Array DictEntry} {n : Nat} {o e f : Expr} {td ty tx : TE} {apos cpos : Pos}
def tKGet2 (K : PySem.W.Frag) (d : Addr) (td ty tx : TE) : TE := fun σ H Q => td σ H fun x H1 => x = .ref d ∧ ty σ H1 fun y H2 => tx σ H2 fun z H3 => ∃ (k : Str) (r : Option Value) (v : V), y = .str k ∧ PySem.W.nsIn K d k = some r ∧ (∀ u, r = some u → RelV v u) ∧ (r = none → v = z) ∧ Q v H3
theorem pe_kget2 (D : KDict X.K X.w d es n) (ho : PE X o td) (he : PE X e ty) (hf : PE X f tx) (m : M2 X o "get" apos e f cpos) : PE X (.Call (.Attribute o "get" apos) [e, f] [] cpos) (tKGet2 X.K d td ty tx) := by
  refine ⟨fun pins s σ H Q I h => ?_⟩
  refine wpAny_Call_method m.base m.few m.line PySem.F.plainAttrs_dict PySem.F.slot_dict_get PySem.F.type_dict_get (thn (ho.run pins s σ H _ I h) fun u s1 ⟨x, H1, I1, rx, ex, q1⟩ => ?_)
  subst ex
  obtain rfl : u = Value.ref d := rx
  have hmap1 := PySem.W.mapOf_K (prog := X.prog) I1.kIn D.at_ D.lit
  refine ⟨hmap1.typeIs, fun b q => ?_, ?_⟩
  · cases q
    exact ⟨_, I1.kIn _ _ D.at_, rfl⟩
  rw [m.trees]
  refine Calls.callWith_builtin rfl (Calls.evalArgs_plain (Calls.spliced_cons (thn (he.run pins s1 σ H1 _ I1 q1) fun iv s2 ⟨y, H2, I2, ry, q2⟩ =>
    Calls.spliced_cons (thn (hf.run pins s2 σ H2 _ I2 q2) fun fv s3 ⟨z, H3, I3, rz, q3⟩ => Calls.spliced_nil ?_))))
  obtain ⟨k, r, v, ey, hns, h1, h2, q⟩ := q3
  subst ey
  obtain ⟨t, rfl⟩ := ry
  have hmap := PySem.W.mapOf_K (prog := X.prog) I3.kIn D.at_ D.lit
  refine call_meetsIn PySem.F.slot_dict_get hmap.typeIs PySem.F.entry_dict_get (PySem.F.args_dict_get_3 _ _ _) (meets_dict_get_default _ d (PySem.strKind_is X.prog X.w k t) D.low fv) ⟨_, hmap, ?_⟩
  rw [PySem.W.find_K D.at_ hns]
  cases r with
  | none =>
    refine ⟨v, H3, I3.tok _, ?_, q⟩
    rw [h2 rfl]
    exact rz
  | some u => exact ⟨v, H3, I3.tok _, h1 u rfl, q⟩
end
/-! ### min of a list of tuples of ints -/
section
variable {X : Cx}
def rMinD (K : PySem.W.Frag) : List V → Hp → VK → Prop := fun vs H Q => ∃ (a : Addr) (xs : List V) (d : PyData) (ds : List PyData), vs = [V.ref a] ∧ SqL K H a xs ∧ DpAll K H xs (d :: ds) ∧ SeqAt.shaped (.list (d :: ds)) = true ∧ PySem.W.AlikeAll (d :: ds) ∧ PyData.depthAll (d :: ds) ≤ 4 ∧
  ∀ x, x ∈ xs → Q x H
theorem cr_minD (hu : X.A.units + 64 < cLine) (hc : X.calm = true) : CallR X (.builtin "min") (rMinD X.K) := by
  intro pins s σ H vs us Q I r h
  obtain ⟨a, xs, d, ds, rfl, hs, hd, hsh, ha, hdp, q⟩ := h
  obtain ⟨its, rv, hl, _⟩ := I.list hs
  rw [Vals.ref1 r]
  obtain ⟨as, hr⟩ := Dp.readsAll I (d :: ds) xs its hd rv
  refine PySem.W.min_list_data (I.ok.hd hc) hl.isList (by simpa using hr) ha (by omega) fun i v h' tk bs hv hrd hk => ?_
  have hv2 : its[i]? = some v := by simpa using hv
  obtain ⟨x, hx, rx⟩ : ∃ x, xs[i]? = some x ∧ RelV x v := by
    cases e : xs[i]? with
    | none =>
      have := rv.none_of e
      rw [this] at hv2
      cases hv2
    | some x =>
      obtain ⟨u, hu2, ru⟩ := rv.get e
      rw [hu2] at hv2
      cases hv2
      exact ⟨x, rfl, ru⟩
  exact ⟨x, H, I.kept hk, rx, q x (List.mem_of_getElem? hx)⟩
end
/-! ### X(), X an own exception class without own __init__ -/
section
variable {X : Cx} {C : Addr} {bmB : List Value} {B newId initId : String}
theorem pmk_own0 {x : Str} {p pos : Pos} (F : ExcBaseFacts B newId initId bmB) (q : PySem.W.excIn X.K C bmB newId = true) (gC : X.mg x = some (.ref C)) (kC : PySem.W.keepIn X.K (.ref C) = true) (r : Raises X (.ref C)) (hg : Gl X x := by rfl)
    (hdb : (x == ("__debug__" : Str)) = false := by decide) : PMk X (.Call (.Name x p) [] [] pos) (fun _ H Q => Q (.ref C) none H) := by
  intro pins s σ H Q I h
  refine wpAny_Call_Name_kw (ld_glob I hg gC ?_ hdb)
  refine PySem.W.callWith_K0 I.kIn kC ?_
  show wpAny _ _ (call (.ref C) []) _ _ _
  obtain ⟨bm, N, nm, qn, bs, hdct, sn, sub, ab, col, dd, k0, k1, k2, k3, k5, mN, hC, hN, hni, T⟩ := exc_obj I.kIn q
  refine wpAny_call_exc_subT F T hC hN hni (fun h' e hm => ?_) (by show 0 ≤ sizeLine; rw [sizeLine_eq]; omega)
  exact mk_of I hm r h (I.hok.gone hm.new)
end
/-! ### the same rules in a block, the written part named -/
section
variable {X : Cx}
theorem ix_tupK (K : PySem.W.Frag) (h : X.K = K := by rfl) : IxR X (rIxT K) := by
  subst h
  exact ix_tup
theorem ix_listK (K : PySem.W.Frag) (h : X.K = K := by rfl) : IxR X (rIxL K) := by
  subst h
  exact ix_list
theorem op_notInDK (K : PySem.W.Frag) (hu : X.A.units + 65 < cLine) (h : X.K = K := by rfl) : OpR X (compareOp .NotIn) (rNotInD K) := by
  subst h
  exact op_notInD hu
theorem pg_tupK (K : PySem.W.Frag) {es : List Expr} {k : Nat} {t : TGs} {n : Nat} {pos : Pos} (hc : X.calm = true) (h : PGs X es t)
    (hn : (assignEach es X.env).length = n := by rfl) (hst : (assignEach es X.env).findIdx? (·.1) = none := by rfl) (hK : X.K = K := by rfl) : PG X (.Tuple es k pos) (gTup K n t) := by
  subst hK
  exact pg_tup hc h hn hst
end
end SP
set_option maxRecDepth 100000
set_option maxHeartbeats 4000000
namespace SP
open PySem PySem.Spec PyProof.Rows L2
abbrev Tie := T
/-- above all moments -/
def BB : Int := 10 ^ 30 + 1
/-! ### what the head tells, by names -/
structure Txt (K : PySem.W.Frag) (mg : Str → Option Value) : Prop where
  isinstance : mg "isinstance" = none
  int : mg "int" = none
  bool : mg "bool" = none
  tuple : mg "tuple" = none
  list : mg "list" = none
  len : mg "len" = none
  all : mg "all" = none
  sorted : mg "sorted" = none
  min : mg "min" = none
  max : mg "max" = none
  range : mg "range" = none
  reversed : mg "reversed" = none
  enumerate : mg "enumerate" = none
  zip : mg "zip" = none
  str : mg "str" = none
  abs : mg "abs" = none
  MOST_PLACES_records : Glo mg "MOST_PLACES_records" (.int 10)
  MOST_TIES : Glo mg "MOST_TIES" (.int 60)
  LAST_MOMENT : Glo mg "LAST_MOMENT" (.int (10 ^ 30))
  MOST_LAYERS_layers : Glo mg "MOST_LAYERS_layers" (.int 6)
  MOST_PLACES_nets : Glo mg "MOST_PLACES_nets" (.int 10)
  MOST_LAYERS_nets : Glo mg "MOST_LAYERS_nets" (.int 6)
  LAST : Glo mg "LAST" (.int (10 ^ 30))
  MOST_FIGURES_texts : Glo mg "MOST_FIGURES_texts" (.int 60)
  MOST_FIGURES_desk : Glo mg "MOST_FIGURES_desk" (.int 60)
  FIGURES_texts : Glo mg "FIGURES_texts" (.str "0123456789")
  NOTHING : Glo mg "NOTHING" (.str "none")
  FIGURES_desk : Glo mg "FIGURES_desk" (.str "0123456789")
/-! ### what stands in the heap -/
def nV (n : Nat) : V := .int (n : Int)
def tieO (x : T) : HO := .tup [nV x.m, nV x.a, nV x.b]
inductive TsAt (H : Hp) : List V → List T → Prop where
  | nil : TsAt H [] []
  | cons {p : Addr} {x : T} {vs : List V} {ts : List T} : H p = some (tieO x) → TsAt H vs ts → TsAt H (.ref p :: vs) (x :: ts)
def RecAt (H : Hp) (l : Addr) (ts : List T) : Prop := ∃ vs, H l = some (.lst vs) ∧ TsAt H vs ts
theorem TsAt.same {H H' : Hp} (s : Same H H') : ∀ {vs : List V} {ts : List T}, TsAt H vs ts → TsAt H' vs ts
  | _, _, .nil => .nil
  | _, _, .cons h t => .cons (s _ _ h) (TsAt.same s t)
theorem RecAt.same {H H' : Hp} {l : Addr} {ts : List T} (s : Same H H') (r : RecAt H l ts) : RecAt H' l ts := let ⟨vs, h, t⟩ := r; ⟨vs, s _ _ h, t.same s⟩
theorem TsAt.len {H : Hp} : ∀ {vs : List V} {ts : List T}, TsAt H vs ts → vs.length = ts.length
  | _, _, .nil => rfl
  | _, _, .cons _ t => congrArg (· + 1) t.len
theorem TsAt.get {H : Hp} : ∀ {vs : List V} {ts : List T} {i : Nat} {v : V}, TsAt H vs ts → vs[i]? = some v → ∃ p x, v = .ref p ∧ ts[i]? = some x ∧ H p = some (tieO x)
  | _, _, _, _, .nil, e => by simp at e
  | _, _, 0, _, .cons h _, e => by
    simp at e
    exact ⟨_, _, e.symm, rfl, h⟩
  | _, _, i + 1, v, .cons h t, e => by
    obtain ⟨p, x, e1, e2, e3⟩ := TsAt.get (i := i) (v := v) t (by simpa using e)
    exact ⟨p, x, e1, by simpa using e2, e3⟩
theorem TsAt.gett {H : Hp} : ∀ {vs : List V} {ts : List T} {i : Nat} {x : T}, TsAt H vs ts → ts[i]? = some x → ∃ p, vs[i]? = some (.ref p) ∧ H p = some (tieO x)
  | _, _, _, _, .nil, e => by simp at e
  | _, _, 0, _, .cons (p := p) h _, e => by
    simp at e
    subst e
    exact ⟨p, rfl, h⟩
  | _, _, i + 1, x, .cons h t, e => by
    obtain ⟨p, e1, e3⟩ := TsAt.gett (i := i) (x := x) t (by simpa using e)
    exact ⟨p, by simpa using e1, e3⟩
theorem TsAt.app {H : Hp} : ∀ {vs ws : List V} {ts us : List T}, TsAt H vs ts → TsAt H ws us → TsAt H (vs ++ ws) (ts ++ us)
  | _, _, _, _, .nil, h => h
  | _, _, _, _, .cons a t, h => .cons a (t.app h)
theorem TsAt.one {H : Hp} {p : Addr} {x : T} (h : H p = some (tieO x)) : TsAt H [.ref p] [x] := .cons h .nil
theorem same_new {H : Hp} {p : Addr} {o : HO} (h : H p = none) : Same H (upd H p o) := fun b u e => by
  rw [upd_ne (ne_of_none e h)]
  exact e
/-- the heap is as it was but at an address that was free ahead -/
theorem same_upd {H H1 : Hp} {p : Addr} {o : HO} (s : Same H H1) (h : H p = none) : Same H (upd H1 p o) := fun b u e => by
  rw [upd_ne (ne_of_none e h)]
  exact s b u e
theorem take_succ {α : Type} {l : List α} {i : Nat} {x : α} (h : l[i]? = some x) : l.take (i + 1) = l.take i ++ [x] := by
  rw [List.take_add_one, h]
  rfl
theorem len63 {n : Nat} (h : n ≤ 1000) : n < sizeLine := small1000 h
/-- a tie of n places, as the program takes it -/
structure Ok (n : Nat) (x : T) : Prop where
  a : x.a < n
  b : x.b < n
  ab : x.a ≤ x.b
  m : x.m ≤ 10 ^ 30
def Up (ts : List T) : Prop := ts.Pairwise fun x y => x.m < y.m
/-! ### records.py -/
def spWhole : Sp := fun vs H Q _ => ∃ i : Int, vs = [.int i] ∧ Q (.bl true) H
def spMany : Sp := fun vs H Q _ => ∃ i : Int, vs = [.int i] ∧ Q (.bl (decide (1 ≤ i) && decide (i ≤ 10))) H
def spPlace : Sp := fun vs H Q _ => ∃ n i : Int, vs = [.int n, .int i] ∧ Q (.bl (decide (0 ≤ i) && decide (i < n))) H
def spMoment : Sp := fun vs H Q _ => ∃ i : Int, vs = [.int i] ∧ Q (.bl (decide (0 ≤ i) && decide (i ≤ 10 ^ 30))) H
/-- of a tie that is one: True -/
def spMeeting : Sp := fun vs H Q _ => ∃ (n : Nat) (p : Addr) (x : T), vs = [nV n, .ref p] ∧ H p = some (tieO x) ∧ Ok n x ∧ Q (.bl true) H
def spSince : Sp := fun vs H Q _ => ∃ (l : Addr) (ts : List T) (t : Nat), vs = [.ref l, nV t] ∧ RecAt H l ts ∧ ts.length ≤ 1000 ∧ ∀ H' p, Same H H' → H p = none → RecAt H' p (sinceD t ts) → Q (.ref p) H'
def spRow : Sp := fun vs H Q _ => ∃ (p : Addr) (r : Row) (a b : Nat), vs = [.ref p, nV a, nV b] ∧ H p = some (.lst (r.map nV)) ∧ a < r.length ∧ b < r.length ∧ r.length ≤ 1000 ∧
  ∀ H' q, Same H H' → H q = none → H' q = some (.lst ((jn r a b).map nV)) → Q (.ref q) H'
section
variable {P : Program} {w : World} {K : PySem.W.Frag} {mg : Str → Option Value} {base : Heap} {f : Addr} {fd : FuncData}
abbrev N_is_whole : List Str := ["thing"]
theorem sc_is_whole : FnScope N_is_whole ["thing"] (defScope s_is_whole) := ⟨rfl, rfl, rfl, by decide +kernel, rfl, by decide +kernel, by decide +kernel⟩
theorem ok_is_whole (T : Txt K mg) (F : FunD K "is_whole" "is_whole" (defArgs s_is_whole) (defBody s_is_whole) (defScope s_is_whole) [] [] f fd) : FnOk P w K mg base CX0 1 f fd ["thing"] spWhole := by
  refine F.ok sc_is_whole (fun vs H Q E h => ?_) (fun cdv A outer s H vs Q E hr h => ?_)
  · obtain ⟨_, rfl, _⟩ := h
    rfl
  obtain ⟨i, rfl, q⟩ := h
  refine ⟨_, PSs.nox (pss_one (ps_ret (pe_and (pe_callB call_isi (by rfl) T.isinstance (by decide +kernel) (pa_cons (pv 0) (pa_cons (pe_bltn (v := .ty "int") (by rfl) T.int (by decide +kernel) rfl) pa_nil))) (pe_one (pe_not (pe_callB call_isi (by rfl) T.isinstance (by decide +kernel) (pa_cons (pv 0) (pa_cons (pe_bltn (v := .ty "bool") (by rfl) T.bool (by decide +kernel) rfl) pa_nil)))))))), ?_⟩
  refine ⟨_, rfl, _, _, _, _, true, rfl, .ty _, .base (.int _), kit_ty (by decide +kernel), _, rfl, ?_⟩
  refine iteT ⟨_, rfl, _, _, _, _, false, rfl, .ty _, .base (.int _), kit_ty (by decide +kernel), _, rfl, q⟩
abbrev N_is_many : List Str := ["thing"]
theorem sc_is_many : FnScope N_is_many ["thing"] (defScope s_is_many) := ⟨rfl, rfl, rfl, by decide +kernel, rfl, by decide +kernel, by decide +kernel⟩
theorem ok_is_many (T : Txt K mg) (C_is_whole : Cal P w K mg base CX0 "is_whole" 1 ["thing"] spWhole) (F : FunD K "is_many" "is_many" (defArgs s_is_many) (defBody s_is_many) (defScope s_is_many) [] [] f fd) : FnOk P w K mg base CX0 2 f fd ["thing"] spMany := by
  refine F.ok sc_is_many (fun vs H Q E h => ?_) (fun cdv A outer s H vs Q E hr h => ?_)
  · obtain ⟨_, rfl, _⟩ := h
    rfl
  obtain ⟨i, rfl, q⟩ := h
  refine ⟨_, PSs.nox (pss_one (ps_ret (pe_and (pe_cal C_is_whole (hr.mono (by decide)) pass0 (pa_cons (pv 0) pa_nil)) (pe_one (pe_chain op_le op_le pe_int (pv 0) (pe_g T.MOST_PLACES_records)))))), ?_⟩
  refine ⟨_, rfl, _, rfl, true, rfl, iteT ⟨_, rfl, _, _, rfl, rfl, _, rfl, ite2 (fun c => ?_) (fun c => ?_)⟩⟩
  · refine ⟨_, _, rfl, rfl, ?_⟩
    rw [c] at q
    exact q
  · have c2 : decide (1 ≤ i) = false := eq_false_of_ne_true c
    rw [c2] at q
    exact q
abbrev N_is_place_records : List Str := ["n", "thing"]
theorem sc_is_place_records : FnScope N_is_place_records ["n", "thing"] (defScope s_is_place_records) := ⟨rfl, rfl, rfl, by decide +kernel, rfl, by decide +kernel, by decide +kernel⟩
theorem ok_is_place_records (T : Txt K mg) (C_is_whole : Cal P w K mg base CX0 "is_whole" 1 ["thing"] spWhole) (F : FunD K "is_place" "is_place" (defArgs s_is_place_records) (defBody s_is_place_records) (defScope s_is_place_records) [] [] f fd) : FnOk P w K mg base CX0 2 f fd ["n", "thing"] spPlace := by
  refine F.ok sc_is_place_records (fun vs H Q E h => ?_) (fun cdv A outer s H vs Q E hr h => ?_)
  · obtain ⟨_, _, rfl, _⟩ := h
    rfl
  obtain ⟨n, i, rfl, q⟩ := h
  refine ⟨_, PSs.nox (pss_one (ps_ret (pe_and (pe_cal C_is_whole (hr.mono (by decide)) pass0 (pa_cons (pv 1) pa_nil)) (pe_one (pe_chain op_le op_lt pe_int (pv 1) (pv 0)))))), ?_⟩
  refine ⟨_, rfl, _, rfl, true, rfl, iteT ⟨_, rfl, _, _, rfl, rfl, _, rfl, ite2 (fun c => ?_) (fun c => ?_)⟩⟩
  · refine ⟨_, rfl, _, _, rfl, rfl, ?_⟩
    rw [c] at q
    exact q
  · have c2 : decide (0 ≤ i) = false := eq_false_of_ne_true c
    rw [c2] at q
    exact q
abbrev N_is_moment_records : List Str := ["thing"]
theorem sc_is_moment_records : FnScope N_is_moment_records ["thing"] (defScope s_is_moment_records) := ⟨rfl, rfl, rfl, by decide +kernel, rfl, by decide +kernel, by decide +kernel⟩
theorem ok_is_moment_records (T : Txt K mg) (C_is_whole : Cal P w K mg base CX0 "is_whole" 1 ["thing"] spWhole) (F : FunD K "is_moment" "is_moment" (defArgs s_is_moment_records) (defBody s_is_moment_records) (defScope s_is_moment_records) [] [] f fd) : FnOk P w K mg base CX0 2 f fd ["thing"] spMoment := by
  refine F.ok sc_is_moment_records (fun vs H Q E h => ?_) (fun cdv A outer s H vs Q E hr h => ?_)
  · obtain ⟨_, rfl, _⟩ := h
    rfl
  obtain ⟨i, rfl, q⟩ := h
  refine ⟨_, PSs.nox (pss_one (ps_ret (pe_and (pe_cal C_is_whole (hr.mono (by decide)) pass0 (pa_cons (pv 0) pa_nil)) (pe_one (pe_chain op_le op_le pe_int (pv 0) (pe_g T.LAST_MOMENT)))))), ?_⟩
  refine ⟨_, rfl, _, rfl, true, rfl, iteT ⟨_, rfl, _, _, rfl, rfl, _, rfl, ite2 (fun c => ?_) (fun c => ?_)⟩⟩
  · refine ⟨_, _, rfl, rfl, ?_⟩
    rw [c] at q
    exact q
  · have c2 : decide (0 ≤ i) = false := eq_false_of_ne_true c
    rw [c2] at q
    exact q
theorem dT {p : Prop} [Decidable p] (h : p) : decide p = true := decide_eq_true h
theorem and_tt {a b : Bool} (h1 : a = true) (h2 : b = true) : (a && b) = true := by rw [h1, h2]; rfl
/-- a truth that is known, put in its place -/
theorem blT {Q : VK} {H : Hp} {c : Bool} (h : c = true) (q : Q (.bl true) H) : Q (.bl c) H := by rw [h]; exact q
theorem blF {Q : VK} {H : Hp} {c : Bool} (h : c = false) (q : Q (.bl false) H) : Q (.bl c) H := by rw [h]; exact q
abbrev N_is_meeting : List Str := ["n", "thing"]
theorem sc_is_meeting : FnScope N_is_meeting ["n", "thing"] (defScope s_is_meeting) := ⟨rfl, rfl, rfl, by decide +kernel, rfl, by decide +kernel, by decide +kernel⟩
theorem ok_is_meeting (T : Txt K mg) (C_is_place_records : Cal P w K mg base CX0 "is_place_records" 2 ["n", "thing"] spPlace) (C_is_moment_records : Cal P w K mg base CX0 "is_moment_records" 2 ["thing"] spMoment)
    (F : FunD K "is_meeting" "is_meeting" (defArgs s_is_meeting) (defBody s_is_meeting) (defScope s_is_meeting) [] [] f fd) : FnOk P w K mg base CX0 3 f fd ["n", "thing"] spMeeting := by
  refine F.ok sc_is_meeting (fun vs H Q E h => ?_) (fun cdv A outer s H vs Q E hr h => ?_)
  · obtain ⟨_, _, _, rfl, _⟩ := h
    rfl
  obtain ⟨n, p, x, rfl, hp, o, q⟩ := h
  have hS : SqT K H p [nV x.m, nV x.a, nV x.b] := SqT.of hp
  have hm := o.m
  have ha := o.a
  have hb := o.b
  refine ⟨_, PSs.nox (pss_cons (ps_if (PW.pt (pw_or (pt_not (pt_val (pe_callB call_isi (by rfl) T.isinstance (by decide +kernel) (pa_cons (pv 1) (pa_cons (pe_bltn (v := .ty "tuple") (by rfl) T.tuple (by decide +kernel) rfl) pa_nil))))) (pw_or (pt_cmpR op_ne (pe_callB call_len_seq (by rfl) T.len (by decide +kernel) (pa_cons (pv 1) pa_nil)) pe_int (nomark _)) (pw_or1 (pt_not (pt_val (pe_cal C_is_moment_records (hr.mono (by decide)) pass0 (pa_cons (pe_ix ix_tup (pv 1) pe_int (fun _ _ => rfl)) pa_nil)))))))) (pss_one (ps_ret pe_bl)) pss_nil)
      (pss_one (ps_ret (pe_and (pe_cal C_is_place_records (hr.mono (by decide)) pass0 (pa_cons (pv 0) (pa_cons (pe_ix ix_tup (pv 1) pe_int (fun _ _ => rfl)) pa_nil))) (pe_one (pe_cal C_is_place_records (hr.mono (by decide)) pass0 (pa_cons (pv 0) (pa_cons (pe_ix ix_tup (pv 1) pe_int (fun _ _ => rfl)) pa_nil)))))))), ?_⟩
  -- isinstance(thing, tuple), len(thing) == 3, the moment
  refine ⟨_, rfl, _, _, _, _, true, rfl, .ty _, .base (.tup hp), kit_ty (by decide +kernel), true, rfl, iteF ?_⟩
  refine ⟨_, rfl, p, _, rfl, .inr hS, rfl, false, rfl, iteF ?_⟩
  refine ⟨_, rfl, p, _, _, _, rfl, rfl, hS, atI_nat (j := 0) rfl, _, rfl, ?_⟩
  refine ⟨true, congrArg V.bl (and_tt (dT (by omega)) (dT (by omega))), ?_⟩
  refine iteF ?_
  refine ⟨_, rfl, _, rfl, p, _, _, _, rfl, rfl, hS, atI_nat (j := 1) rfl, _, _, rfl, ?_⟩
  refine ⟨true, congrArg V.bl (and_tt (dT (by omega)) (dT (by omega))), iteT ?_⟩
  refine ⟨_, rfl, _, rfl, p, _, _, _, rfl, rfl, hS, atI_nat (j := 2) rfl, _, _, rfl, ?_⟩
  exact blT (and_tt (dT (by omega)) (dT (by omega))) q
def spRecord : Sp := fun vs H Q _ => ∃ (n : Nat) (l : Addr) (ts : List T), vs = [nV n, .ref l] ∧ RecAt H l ts ∧ (∀ x ∈ ts, Ok n x) ∧ Up ts ∧ ts.length ≤ 60 ∧ ∀ H', Same H H' → Q (.bl true) H'
def spRecordOf : Sp := fun vs H Q _ => ∃ (n : Nat) (l : Addr), vs = [nV n, .ref l] ∧ 1 ≤ n ∧ n ≤ 10 ∧ H l = some (.lst []) ∧ ∀ H' v, Same H H' → Q v H'
abbrev N_is_tie : List Str := ["n", "thing"]
theorem sc_is_tie : FnScope N_is_tie ["n", "thing"] (defScope s_is_tie) := ⟨rfl, rfl, rfl, by decide +kernel, rfl, by decide +kernel, by decide +kernel⟩
theorem ok_is_tie (T : Txt K mg) (C_is_meeting : Cal P w K mg base CX0 "is_meeting" 3 ["n", "thing"] spMeeting) (F : FunD K "is_tie" "is_tie" (defArgs s_is_tie) (defBody s_is_tie) (defScope s_is_tie) [] [] f fd) : FnOk P w K mg base CX0 4 f fd ["n", "thing"] spMeeting := by
  refine F.ok sc_is_tie (fun vs H Q E h => ?_) (fun cdv A outer s H vs Q E hr h => ?_)
  · obtain ⟨_, _, _, rfl, _⟩ := h
    rfl
  obtain ⟨n, p, x, rfl, hp, o, q⟩ := h
  have hS : SqT K H p [nV x.m, nV x.a, nV x.b] := SqT.of hp
  refine ⟨_, PSs.nox (pss_one (ps_ret (pe_and (pe_cal C_is_meeting (hr.mono (by decide)) pass0 (pa_cons (pv 0) (pa_cons (pv 1) pa_nil))) (pe_one (pe_cmpR op_le (pe_ix ix_tup (pv 1) pe_int (fun _ _ => rfl)) (pe_ix ix_tup (pv 1) pe_int (fun _ _ => rfl)) (nomark _)))))), ?_⟩
  refine ⟨_, rfl, _, rfl, n, p, x, rfl, hp, o, true, rfl, iteT ?_⟩
  refine ⟨_, rfl, p, _, _, _, rfl, rfl, hS, atI_nat (j := 1) rfl, _, rfl, p, _, _, _, rfl, rfl, hS, atI_nat (j := 2) rfl, _, _, rfl, rfl, ?_⟩
  have := o.ab
  exact blT (dT (by omega)) q
abbrev N_since : List Str := ["record", "t", "tie"]
theorem sc_since : FnScope N_since ["record", "t"] (defScope s_since) := ⟨rfl, rfl, rfl, by decide +kernel, rfl, by decide +kernel, by decide +kernel⟩
theorem ok_since (T : Txt K mg) (F : FunD K "since" "since" (defArgs s_since) (defBody s_since) (defScope s_since) [] [] f fd) : FnOk P w K mg base CX0 1 f fd ["record", "t"] spSince := by
  refine F.ok sc_since (fun vs H Q E h => ?_) (fun cdv A outer s H vs Q E hr h => ?_)
  · obtain ⟨_, _, _, rfl, _⟩ := h
    rfl
  obtain ⟨l, ts, t, rfl, ⟨us, hl, ht⟩, hlen, q⟩ := h
  refine ⟨_, PSs.nox (pss_one (ps_ret (pe_lc (own := [("tie", 2)]) rfl sc_since.nd (pi_list (pv 0)) (blkOk_by (own := [("tie", 2)]) (N := N_since) (sc := defScope s_since) (by decide +kernel)) (fun _ _ _ _ _ => (pg_name (i := 2) sc_since.nd rfl (Or.inl rfl))) (fun _ _ _ _ _ => pts_one (pt_cmpR op_ge (pe_ix (ix_tupK K) (pv 2) pe_int (fun _ _ => rfl)) (pv 1) (nomark _))) (fun _ _ _ _ _ => (pv 2))))), ?_⟩
  refine ⟨_, rfl, l, rfl, ⟨_, SqL.of hl⟩, fun D hD => lc_list (K := K) (a := l) (xs := us) (fun i H' => Same H H' ∧ ∃ acc, H' D = some (.lst acc) ∧ TsAt H' acc (sinceD t (ts.take i)) ∧ acc.length ≤ i) ?_ ?_ ?_ ?_⟩
  · exact ⟨same_new hD, [], upd_same, by rw [List.take_zero]; exact .nil, Nat.le_refl _⟩
  · exact fun i H' _ ⟨sm, _⟩ => SqL.of (sm _ _ hl)
  · rintro i v H' hi ⟨sm, acc, hacc, ta, hal⟩
    obtain ⟨p, x, rfl, hx, hp⟩ := ht.get hi
    have hp' := sm _ _ hp
    have hi2 : i < us.length := (List.getElem?_eq_some_iff.mp hi).1
    have hul := ht.len
    refine ⟨rfl, _, rfl, p, _, _, _, rfl, rfl, SqT.of hp', atI_nat (j := 0) rfl, _, rfl, _, _, rfl, rfl, _, rfl, ite2 (fun c => ?_) (fun c => ?_)⟩
    · have c2 : (t : Int) ≤ (x.m : Int) := of_decide_eq_true c
      refine ⟨_, rfl, acc, hacc, small1000 (by omega), same_upd sm hD, _, upd_same, ?_, by rw [List.length_append, List.length_singleton]; omega⟩
      rw [take_succ hx]
      unfold sinceD
      rw [List.filter_append, List.filter_cons_of_pos (by simp; omega), List.filter_nil]
      have keep : ∀ {vs : List V} {us : List Tie}, TsAt H' vs us → TsAt (upd H' D (.lst (acc ++ [.ref p]))) vs us := by
        intro vs us h
        induction h with
        | nil => exact .nil
        | cons h _ ih => exact .cons (by rw [upd_ne (ne_of h hacc (by intro z; cases z))]; exact h) ih
      exact (keep ta).app (.one (by rw [upd_ne (ne_of hp' hacc (by intro z; cases z))]; exact hp'))
    · have c2 : ¬ (t : Int) ≤ (x.m : Int) := fun z => c (decide_eq_true z)
      refine ⟨sm, acc, hacc, ?_, by omega⟩
      rw [take_succ hx]
      unfold sinceD
      rw [List.filter_append, List.filter_cons_of_neg (by simp; omega), List.filter_nil, List.append_nil]
      exact ta
  · rintro H' ⟨sm, acc, hacc, ta, _⟩
    refine q H' D sm hD ⟨acc, hacc, ?_⟩
    rw [List.take_of_length_le (by rw [ht.len]; exact Nat.le_refl _)] at ta
    exact ta
theorem TsAt.put {H : Hp} {D : Addr} {a : List V} {o : HO} (hD : H D = some (.lst a)) : ∀ {vs : List V} {ts : List Tie}, TsAt H vs ts → TsAt (upd H D o) vs ts
  | _, _, .nil => .nil
  | _, _, .cons h t => .cons (by rw [upd_ne (ne_of h hD (by intro z; cases z))]; exact h) (TsAt.put hD t)
/-- all items True -/
theorem all_bl {n : Nat} : (List.replicate n true).all id = true := by
  rw [List.all_eq_true]
  intro x hx
  rw [List.eq_of_mem_replicate hx]
  rfl
theorem rep_snoc {n : Nat} : (List.replicate n true).map V.bl ++ [V.bl true] = (List.replicate (n + 1) true).map V.bl := by
  rw [List.replicate_succ', List.map_append]
  rfl
abbrev N_is_record : List Str := ["n", "thing", "at", "tie"]
theorem sc_is_record : FnScope N_is_record ["n", "thing"] (defScope s_is_record) := ⟨rfl, rfl, rfl, by decide +kernel, rfl, by decide +kernel, by decide +kernel⟩
theorem ok_is_record (T : Txt K mg) (C_is_tie : Cal P w K mg base CX0 "is_tie" 4 ["n", "thing"] spMeeting) (F : FunD K "is_record" "is_record" (defArgs s_is_record) (defBody s_is_record) (defScope s_is_record) [] [] f fd) : FnOk P w K mg base CX0 5 f fd ["n", "thing"] spRecord := by
  refine F.ok sc_is_record (fun vs H Q E h => ?_) (fun cdv A outer s H vs Q E hr h => ?_)
  · obtain ⟨_, _, _, rfl, _⟩ := h
    rfl
  obtain ⟨n, l, ts, rfl, ⟨us, hl, ht⟩, hok, hup, hlen, q⟩ := h
  have hul := ht.len
  refine ⟨_, PSs.nox (pss_cons (ps_if (PW.pt (pw_or (pt_not (pt_val (pe_callB call_isi (by rfl) T.isinstance (by decide +kernel) (pa_cons (pv 1) (pa_cons (pe_bltn (v := .ty "list") (by rfl) T.list (by decide +kernel) rfl) pa_nil))))) (pw_or1 (pt_cmpR op_gt (pe_callB call_len_seq (by rfl) T.len (by decide +kernel) (pa_cons (pv 1) pa_nil)) (pe_g T.MOST_TIES) (nomark _))))) (pss_one (ps_ret pe_bl)) pss_nil)
      (pss_cons (ps_if (pt_not (pt_val (pe_callB (cr_all rfl) (by rfl) T.all (by decide +kernel) (pa_cons (pe_lc (own := [("tie", 3)]) rfl sc_is_record.nd (pi_list (pv 1)) (blkOk_by (own := [("tie", 3)]) (N := N_is_record) (sc := defScope s_is_record) (by decide +kernel)) (fun _ _ _ _ _ => (pg_name (i := 3) sc_is_record.nd rfl (Or.inl rfl))) (fun _ _ _ _ _ => pts_nil) (fun _ _ _ _ _ => (pe_cal C_is_tie (hr.mono (by decide)) pass0 (pa_cons (pv 0) (pa_cons (pv 3) pa_nil))))) pa_nil)))) (pss_one (ps_ret pe_bl)) pss_nil)
      (pss_one (ps_ret (pe_callB (cr_all rfl) (by rfl) T.all (by decide +kernel) (pa_cons (pe_lc (own := [("at", 2)]) rfl sc_is_record.nd (pi_range2 (by rfl) T.range (pa_cons pe_int (pa_cons (pe_callB call_len_seq (by rfl) T.len (by decide +kernel) (pa_cons (pv 1) pa_nil)) pa_nil))) (blkOk_by (own := [("at", 2)]) (N := N_is_record) (sc := defScope s_is_record) (by decide +kernel)) (fun _ _ _ _ _ => (pg_name (i := 2) sc_is_record.nd rfl (Or.inl rfl))) (fun _ _ _ _ _ => pts_nil) (fun _ _ _ _ _ => (pe_cmpR op_lt (pe_ix (ix_tupK K) (pe_ix (ix_listK K) (pv 1) (pe_op op_sub (pv 2) pe_int) (fun _ _ => rfl)) pe_int (fun _ _ => rfl)) (pe_ix (ix_tupK K) (pe_ix (ix_listK K) (pv 1) (pv 2) (fun _ _ => rfl)) pe_int (fun _ _ => rfl)) (nomark _)))) pa_nil)))))), ?_⟩
  -- isinstance(thing, list), len(thing) > MOST_TIES
  refine ⟨_, rfl, _, _, _, _, true, rfl, .ty _, .base (.lst hl), kit_ty (by decide +kernel), true, rfl, iteF ?_⟩
  refine ⟨_, rfl, l, _, rfl, .inl (SqL.of hl), _, _, rfl, rfl, _, rfl, ?_⟩
  rw [show decide (((60 : Int)) < ((us.length : Nat) : Int)) = false from decide_eq_false (by omega)]
  refine iteF ?_
  -- all is_tie
  refine ⟨_, rfl, l, rfl, ⟨_, SqL.of hl⟩, fun D hD => lc_list (K := K) (a := l) (xs := us) (fun i H' => Same H H' ∧ H' D = some (.lst ((List.replicate i true).map V.bl))) ?_ ?_ ?_ ?_⟩
  · exact ⟨same_new hD, upd_same⟩
  · exact fun i H' _ ⟨sm, _⟩ => SqL.of (sm _ _ hl)
  · rintro i v H' hi ⟨sm, hacc⟩
    obtain ⟨p, x, rfl, hx, hp⟩ := ht.get hi
    have hi2 : i < us.length := (List.getElem?_eq_some_iff.mp hi).1
    refine ⟨rfl, _, rfl, _, rfl, n, p, x, rfl, sm _ _ hp, hok x (List.mem_of_getElem? hx), _, hacc, small1000 (by rw [List.length_map, List.length_replicate]; omega), same_upd sm hD, ?_⟩
    rw [rep_snoc]
    exact upd_same
  rintro H1 ⟨s1, hacc⟩
  refine ⟨D, _, rfl, SqL.of hacc, _, rfl, ?_⟩
  rw [all_bl]
  refine iteF ?_
  -- the moments rise
  have hl1 := s1 _ _ hl
  refine ⟨_, rfl, l, _, rfl, .inl (SqL.of hl1), 1, _, rfl, ⟨by decide, by decide, by omega, by omega⟩, fun D2 hD2 => ?_⟩
  refine lc_range (lo := 1) (n := (((us.length : Nat) : Int) - 1).toNat) (fun i H' => Same H1 H' ∧ H' D2 = some (.lst ((List.replicate i true).map V.bl))) ?_ ?_ ?_
  · exact ⟨same_new hD2, upd_same⟩
  · rintro i H' hi ⟨sm, hacc2⟩
    have hl2 := sm _ _ hl1
    have i1 : i < ts.length := by omega
    have i2 : i + 1 < ts.length := by omega
    obtain ⟨p, hp1, hp2⟩ := ht.gett (List.getElem?_eq_getElem i1)
    obtain ⟨p', hp1', hp2'⟩ := ht.gett (List.getElem?_eq_getElem i2)
    have lt : ts[i].m < ts[i + 1].m := (List.pairwise_iff_getElem.mp hup) i (i + 1) i1 i2 (Nat.lt_succ_self i)
    have e1 : (1 : Int) + (i : Nat) - 1 = ((i : Nat) : Int) := by omega
    have e2 : (1 : Int) + (i : Nat) = ((i + 1 : Nat) : Int) := by omega
    refine ⟨rfl, _, rfl, _, rfl, _, _, rfl, rfl, l, _, _, _, rfl, rfl, SqL.of hl2, at_of e1 hp1, p, _, _, _, rfl, rfl, SqT.of (sm _ _ (s1 _ _ hp2)), atI_nat (j := 0) rfl, ?_⟩
    refine ⟨_, rfl, _, rfl, l, _, _, _, rfl, rfl, SqL.of hl2, at_of e2 hp1', p', _, _, _, rfl, rfl, SqT.of (sm _ _ (s1 _ _ hp2')), atI_nat (j := 0) rfl, _, _, rfl, rfl, ?_⟩
    refine ⟨_, hacc2, small1000 (by rw [List.length_map, List.length_replicate]; omega), same_upd sm hD2, ?_⟩
    show upd H' D2 (.lst (_ ++ [V.bl (decide ((ts[i].m : Int) < (ts[i + 1].m : Int)))])) D2 = _
    rw [show decide ((ts[i].m : Int) < (ts[i + 1].m : Int)) = true from dT (by omega), rep_snoc]
    exact upd_same
  · rintro H2 ⟨s2, hacc2⟩
    refine ⟨D2, _, rfl, SqL.of hacc2, ?_⟩
    rw [all_bl]
    exact q H2 (s1.trans s2)
abbrev N_record_of : List Str := ["n", "things", "found", "moment", "a", "b", "ties", "at", "thing"]
theorem sc_record_of : FnScope N_record_of ["n", "things"] (defScope s_record_of) := ⟨rfl, rfl, rfl, by decide +kernel, rfl, by decide +kernel, by decide +kernel⟩
theorem ok_record_of (T : Txt K mg) (C_is_many : Cal P w K mg base CX0 "is_many" 2 ["thing"] spMany) (C_is_meeting : Cal P w K mg base CX0 "is_meeting" 3 ["n", "thing"] spMeeting) (F : FunD K "record_of" "record_of" (defArgs s_record_of) (defBody s_record_of) (defScope s_record_of) [] [] f fd) : FnOk P w K mg base CX0 4 f fd ["n", "things"] spRecordOf := by
  refine F.ok sc_record_of (fun vs H Q E h => ?_) (fun cdv A outer s H vs Q E hr h => ?_)
  · obtain ⟨_, _, rfl, _⟩ := h
    rfl
  obtain ⟨n, l, rfl, n1, n2, hl, q⟩ := h
  refine ⟨_, PSs.nox (pss_cons (ps_if (pt_not (pt_val (pe_cal C_is_many (hr.mono (by decide)) pass0 (pa_cons (pv 0) pa_nil)))) pss_never pss_nil)
      (pss_cons (ps_if (PW.pt (pw_or (pt_not (pt_val (pe_callB call_isi (by rfl) T.isinstance (by decide +kernel) (pa_cons (pv 1) (pa_cons (pe_bltn (v := .ty "list") (by rfl) T.list (by decide +kernel) rfl) pa_nil))))) (pw_or1 (pt_not (pt_val (pe_callB (cr_all rfl) (by rfl) T.all (by decide +kernel) (pa_cons (pe_lc (own := [("thing", 8)]) rfl sc_record_of.nd (pi_list (pv 1)) (blkOk_by (own := [("thing", 8)]) (N := N_record_of) (sc := defScope s_record_of) (by decide +kernel)) (fun _ _ _ _ _ => (pg_name (i := 8) sc_record_of.nd rfl (Or.inl rfl))) (fun _ _ _ _ _ => pts_nil) (fun _ _ _ _ _ => (pe_cal C_is_meeting (hr.mono (by decide)) pass0 (pa_cons (pv 0) (pa_cons (pv 8) pa_nil))))) pa_nil))))))) pss_never pss_nil)
      (pss_cons (ps_set (i := 2) sc_record_of.nd rfl (Or.inl rfl) pe_dnewT)
      (pss_cons (ps_for PassesOwn.never rfl (pi_list (pv 1)) (pg_tup rfl (pgs_cons (pg_name (i := 3) sc_record_of.nd rfl (Or.inl rfl)) (pgs_cons (pg_name (i := 4) sc_record_of.nd rfl (Or.inl rfl)) (pgs_cons (pg_name (i := 5) sc_record_of.nd rfl (Or.inl rfl)) pgs_nil))))
      pss_never)
      (pss_cons (ps_set (i := 6) sc_record_of.nd rfl (Or.inl rfl) (pe_callB (cr_sortT (d := 3) (B := BB) (by decide)) (by rfl) T.sorted (by decide +kernel) (pa_cons (pe_callTy (call_list_dT rfl) (by rfl) T.list (by decide +kernel) (pa_cons (pv 2) pa_nil)) pa_nil)))
      (pss_cons (ps_if (pt_cmpR op_gt (pe_callB call_len_seq (by rfl) T.len (by decide +kernel) (pa_cons (pv 6) pa_nil)) (pe_g T.MOST_TIES) (nomark _)) pss_never pss_nil)
      (pss_cons (ps_for PassesOwn.never rfl (pi_range2 (by rfl) T.range (pa_cons pe_int (pa_cons (pe_callB call_len_seq (by rfl) T.len (by decide +kernel) (pa_cons (pv 6) pa_nil)) pa_nil))) (pg_name (i := 7) sc_record_of.nd rfl (Or.inl rfl))
      pss_never)
      (pss_one (ps_ret (pv 6)))))))))), ?_⟩
  refine ⟨_, rfl, n, rfl, true, congrArg V.bl (and_tt (dT (by omega)) (dT (by omega))), iteF ?_⟩
  refine ⟨_, rfl, _, _, _, _, true, rfl, .ty _, .base (.lst hl), kit_ty (by decide +kernel), true, rfl, iteF ?_⟩
  refine ⟨_, rfl, l, rfl, ⟨_, SqL.of hl⟩, fun D hD => lc_list (K := K) (a := l) (xs := []) (fun i H' => Same H H' ∧ H' D = some (.lst [])) ⟨same_new hD, upd_same⟩ (fun i H' _ ⟨sm, _⟩ => SqL.of (sm _ _ hl)) (fun i v H' hi => by simp at hi) ?_⟩
  rintro H1 ⟨s1, hacc⟩
  refine ⟨D, [], rfl, SqL.of hacc, true, rfl, iteF ?_⟩
  -- found = {}; for ..
  refine fun d hd => ?_
  refine ⟨_, rfl, l, rfl, ⟨_, SqL.of (same_new hd _ _ (s1 _ _ hl))⟩, for_list (K := K) (a := l) (xs := []) (fun i σ H' => σ = [some (nV n), some (.ref l), some (.ref d), none, none, none, none, none, none] ∧ H' = upd H1 d (.dT [])) ⟨rfl, rfl⟩ (fun i σ H' _ ⟨_, e⟩ => by rw [e]; exact SqL.of (same_new hd _ _ (s1 _ _ hl))) (fun i v σ H' hi => by simp at hi) ?_⟩
  rintro σ H' ⟨rfl, rfl⟩
  -- ties = sorted(list(found))
  refine ⟨_, rfl, d, [], rfl, .of upd_same, fun p bs hp hb => ?_⟩
  cases hb
  refine ⟨p, [], rfl, SqL.of upd_same, by decide, (fun x hx => by cases hx), fun ys p2 hperm _ hp2 => ?_⟩
  have e0 : ys = [] := hperm.eq_nil
  subst e0
  refine ⟨_, rfl, p2, [], rfl, .inl (SqL.of upd_same), _, _, rfl, rfl, _, rfl, iteF ?_⟩
  refine ⟨_, rfl, p2, [], rfl, .inl (SqL.of upd_same), 1, _, rfl, ⟨by decide, by decide, by decide, by decide⟩, for_range (lo := 1) (n := 0) (fun i σ H' => σ = [some (nV n), some (.ref l), some (.ref d), none, none, none, some (.ref p2), none, none] ∧ H' = upd (upd (upd H1 d (.dT [])) p (.lst [])) p2 (.lst [])) ⟨rfl, rfl⟩ (fun i σ H' hi => absurd hi (Nat.not_lt_zero _)) ?_⟩
  rintro σ H' ⟨rfl, rfl⟩
  exact ⟨_, rfl, q _ _ (s1.trans (same_upd (same_upd (same_new hd) (by
    cases e : H1 p with
    | none => rfl
    | some o => rw [same_new hd _ _ e] at hp; cases hp)) (by
    cases e : H1 p2 with
    | none => rfl
    | some o =>
      rw [upd_ne (ne_of_none (same_new hd _ _ e) hp), same_new hd _ _ e] at hp2
      cases hp2)))⟩
abbrev N_joined : List Str := ["marks", "a", "b", "low", "high", "mark"]
theorem sc_joined : FnScope N_joined ["marks", "a", "b"] (defScope s_joined) := ⟨rfl, rfl, rfl, by decide +kernel, rfl, by decide +kernel, by decide +kernel⟩
theorem ok_joined (T : Txt K mg) (F : FunD K "joined" "joined" (defArgs s_joined) (defBody s_joined) (defScope s_joined) [] [] f fd) : FnOk P w K mg base CX0 1 f fd ["marks", "a", "b"] spRow := by
  refine F.ok sc_joined (fun vs H Q E h => ?_) (fun cdv A outer s H vs Q E hr h => ?_)
  · obtain ⟨_, _, _, _, rfl, _⟩ := h
    rfl
  obtain ⟨p, r, a, b, rfl, hp, ha, hb, hlen, q⟩ := h
  have ga : ∀ i, i < r.length → (r.map nV)[i]? = some (nV (at_ r i)) := fun i hi => by
    rw [List.getElem?_map, List.getElem?_eq_getElem hi]
    unfold at_
    rw [List.getD_eq_getElem?_getD, List.getElem?_eq_getElem hi]
    rfl
  refine ⟨_, PSs.nox (pss_cons (ps_set (i := 3) sc_joined.nd rfl (Or.inr rfl) (pe_callB (call_min2 rfl) (by rfl) T.min (by decide +kernel) (pa_cons (pe_ix ix_list (pv 0) (pv 1) (fun _ _ => rfl)) (pa_cons (pe_ix ix_list (pv 0) (pv 2) (fun _ _ => rfl)) pa_nil))))
      (pss_cons (ps_set (i := 4) sc_joined.nd rfl (Or.inr rfl) (pe_callB (call_max2 rfl) (by rfl) T.max (by decide +kernel) (pa_cons (pe_ix ix_list (pv 0) (pv 1) (fun _ _ => rfl)) (pa_cons (pe_ix ix_list (pv 0) (pv 2) (fun _ _ => rfl)) pa_nil))))
      (pss_one (ps_ret (pe_lc (own := [("mark", 5)]) rfl sc_joined.nd (pi_list (pv 0)) (blkOk_by (own := [("mark", 5)]) (N := N_joined) (sc := defScope s_joined) (by decide +kernel)) (fun _ _ _ _ _ => (pg_name (i := 5) sc_joined.nd rfl (Or.inl rfl))) (fun _ _ _ _ _ => pts_nil) (fun _ _ _ _ _ => (pe_ifExp (pt_cmpR op_eq (pv 5) (pv 4) (nomark _)) (pv 3) (pv 5)))))))), ?_⟩
  refine ⟨_, rfl, _, rfl, p, _, _, _, rfl, rfl, SqL.of hp, atI_nat (ga a ha), _, rfl, _, rfl, p, _, _, _, rfl, rfl, SqL.of hp, atI_nat (ga b hb), _, _, rfl, ?_⟩
  have emin : (if ((at_ r b : Nat) : Int) < ((at_ r a : Nat) : Int) then ((at_ r b : Nat) : Int) else ((at_ r a : Nat) : Int)) = ((min (at_ r a) (at_ r b) : Nat) : Int) := by
    split <;> omega
  have emax : (if ((at_ r a : Nat) : Int) < ((at_ r b : Nat) : Int) then ((at_ r b : Nat) : Int) else ((at_ r a : Nat) : Int)) = ((max (at_ r a) (at_ r b) : Nat) : Int) := by
    split <;> omega
  rw [emin]
  refine ⟨_, rfl, _, rfl, p, _, _, _, rfl, rfl, SqL.of hp, atI_nat (ga a ha), _, rfl, _, rfl, p, _, _, _, rfl, rfl, SqL.of hp, atI_nat (ga b hb), _, _, rfl, ?_⟩
  rw [emax]
  refine ⟨_, rfl, p, rfl, ⟨_, SqL.of hp⟩, fun D hD => lc_list (K := K) (a := p) (xs := r.map nV) (fun i H' => Same H H' ∧ H' D = some (.lst ((r.take i).map fun x => nV (if x = max (at_ r a) (at_ r b) then min (at_ r a) (at_ r b) else x)))) ⟨same_new hD, upd_same⟩ (fun i H' _ ⟨sm, _⟩ => SqL.of (sm _ _ hp)) ?_ ?_⟩
  · rintro i v H' hi ⟨sm, hacc⟩
    rw [List.getElem?_map] at hi
    cases hx : r[i]? with
    | none => rw [hx] at hi; cases hi
    | some x =>
    rw [hx] at hi
    have ev : nV x = v := Option.some.inj hi
    subst ev
    have hi2 : i < r.length := (List.getElem?_eq_some_iff.mp hx).1
    have fin : ∀ y : Nat, y = (if x = max (at_ r a) (at_ r b) then min (at_ r a) (at_ r b) else x) → Same H (upd H' D (.lst ((r.take i).map (fun x => nV (if x = max (at_ r a) (at_ r b) then min (at_ r a) (at_ r b) else x)) ++ [nV y]))) ∧
        upd H' D (.lst ((r.take i).map (fun x => nV (if x = max (at_ r a) (at_ r b) then min (at_ r a) (at_ r b) else x)) ++ [nV y])) D = some (.lst ((r.take (i + 1)).map fun x => nV (if x = max (at_ r a) (at_ r b) then min (at_ r a) (at_ r b) else x))) := fun y e => by
      refine ⟨same_upd sm hD, ?_⟩
      rw [upd_same, take_succ hx, List.map_append, e]
      rfl
    have hz : ((r.take i).map fun x => nV (if x = max (at_ r a) (at_ r b) then min (at_ r a) (at_ r b) else x)).length < sizeLine := small1000 (by rw [List.length_map, List.length_take]; omega)
    refine ⟨rfl, _, rfl, _, rfl, rfl, _, rfl, ite2 (fun c => ?_) (fun c => ?_)⟩
    · have c2 : V.int (x : Int) = V.int ((max (at_ r a) (at_ r b) : Nat) : Int) := of_decide_eq_true c
      have c3 : x = max (at_ r a) (at_ r b) := by
        have := V.int.inj c2
        omega
      refine ⟨_, rfl, _, hacc, hz, fin _ ?_⟩
      rw [if_pos c3]
    · have c3 : ¬ x = max (at_ r a) (at_ r b) := fun z => c (by rw [z]; exact dT rfl)
      refine ⟨_, rfl, _, hacc, hz, fin _ ?_⟩
      rw [if_neg c3]
  · rintro H' ⟨sm, hacc⟩
    refine q H' D sm hD ?_
    rw [hacc, List.length_map, List.take_length]
    show some (HO.lst (r.map fun x => nV (if x = max (at_ r a) (at_ r b) then min (at_ r a) (at_ r b) else x))) = some (.lst ((r.map fun x => if x = max (at_ r a) (at_ r b) then min (at_ r a) (at_ r b) else x).map nV))
    rw [List.map_map]
    rfl
end
end SP
set_option maxRecDepth 100000
set_option maxHeartbeats 4000000
namespace SP
open PySem PySem.Spec PyProof.Rows L2
theorem ixN_nat {n j : Nat} (hj : j < n) : ixN n (j : Int) = some j := by
  unfold ixN
  rw [if_pos (by omega), if_pos (by omega)]
  simp
/-- rows of marks, none of them the list at D -/
inductive RowsAt (H : Hp) (D : Addr) : List V → List Row → Prop where
  | nil : RowsAt H D [] []
  | cons {p : Addr} {r : Row} {vs : List V} {rs : List Row} : H p = some (.lst (r.map nV)) → p ≠ D → RowsAt H D vs rs → RowsAt H D (.ref p :: vs) (r :: rs)
theorem RowsAt.same {H H' : Hp} {D : Addr} (s : Same H H') : ∀ {vs : List V} {rs : List Row}, RowsAt H D vs rs → RowsAt H' D vs rs
  | _, _, .nil => .nil
  | _, _, .cons h n t => .cons (s _ _ h) n (t.same s)
/-- the list itself may change -/
theorem RowsAt.upd {H : Hp} {D : Addr} {o : HO} : ∀ {vs : List V} {rs : List Row}, RowsAt H D vs rs → RowsAt (upd H D o) D vs rs
  | _, _, .nil => .nil
  | _, _, .cons h n t => .cons (by rw [upd_ne n]; exact h) n t.upd
/-- another list that is no row may change -/
theorem RowsAt.upd' {H : Hp} {D N : Addr} {o : HO} : ∀ {vs : List V} {rs : List Row}, (∀ v ∈ vs, v ≠ .ref N) → RowsAt H D vs rs → RowsAt (L2.upd H N o) D vs rs
  | _, _, _, .nil => .nil
  | _, _, hn, .cons h n t => .cons (by rw [upd_ne (fun z => hn _ (.head _) (by rw [z]))]; exact h) n (t.upd' fun v hv => hn v (.tail _ hv))
theorem RowsAt.len {H : Hp} {D : Addr} : ∀ {vs : List V} {rs : List Row}, RowsAt H D vs rs → vs.length = rs.length
  | _, _, .nil => rfl
  | _, _, .cons _ _ t => congrArg (· + 1) t.len
theorem RowsAt.get {H : Hp} {D : Addr} : ∀ {vs : List V} {rs : List Row} {i : Nat} {v : V}, RowsAt H D vs rs → vs[i]? = some v → ∃ p r, v = .ref p ∧ rs[i]? = some r ∧ H p = some (.lst (r.map nV)) ∧ p ≠ D
  | _, _, _, _, .nil, e => by simp at e
  | _, _, 0, _, .cons h n _, e => by
    simp at e
    exact ⟨_, _, e.symm, rfl, h, n⟩
  | _, _, i + 1, v, .cons h _ t, e => by
    obtain ⟨p, x, e1, e2, e3⟩ := RowsAt.get (i := i) (v := v) t (by simpa using e)
    exact ⟨p, x, e1, by simpa using e2, e3⟩
theorem RowsAt.set {H : Hp} {D q : Addr} {r : Row} (hq : H q = some (.lst (r.map nV))) (hn : q ≠ D) : ∀ {vs : List V} {rs : List Row} (j : Nat), RowsAt H D vs rs → RowsAt H D (vs.set j (.ref q)) (rs.set j r)
  | _, _, _, .nil => .nil
  | _, _, 0, .cons _ _ t => .cons hq hn t
  | _, _, j + 1, .cons h n t => .cons h n (t.set hq hn j)
theorem RowsAt.app {H : Hp} {D q : Addr} {r : Row} (hq : H q = some (.lst (r.map nV))) (hn : q ≠ D) : ∀ {vs : List V} {rs : List Row}, RowsAt H D vs rs → RowsAt H D (vs ++ [.ref q]) (rs ++ [r])
  | _, _, .nil => .cons hq hn .nil
  | _, _, .cons h n t => .cons h n (t.app hq hn)
def MkAt (H : Hp) (D : Addr) (rs : List Row) : Prop := ∃ vs, H D = some (.lst vs) ∧ RowsAt H D vs rs
/-! ### layers.py -/
def spDepth : Sp := fun vs H Q _ => ∃ i : Int, vs = [.int i] ∧ Q (.bl (decide (1 ≤ i) && decide (i ≤ 6))) H
def spLookLayers : Sp := fun vs H Q _ => ∃ k : Nat, vs = [nV k] ∧ 1 ≤ k ∧ k ≤ 6 ∧ Q .non H
def spLayerFor : Sp := fun vs H Q _ => ∃ (m : Addr) (rs : List Row) (n a b : Nat), vs = [.ref m, nV a, nV b] ∧ MkAt H m rs ∧ Wide n rs ∧ a < n ∧ b < n ∧ ∀ H', Same H H' → Q (nV (lf rs a b)) H'
def spLayered : Sp := fun vs H Q _ => ∃ (n k : Nat) (l : Addr) (ts : List T), vs = [nV n, .ref l, nV k] ∧ n ≤ 1000 ∧ 1 ≤ k ∧ k ≤ 6 ∧ RecAt H l ts ∧ ts.length ≤ 1000 ∧ (∀ x ∈ ts, Fits n x) ∧
  ∀ H' p, Same H H' → H p = none → H' p = some (.lst ((layeredN jn n k ts).map nV)) → Q (.ref p) H'
section
variable {P : Program} {w : World} {K : PySem.W.Frag} {mg : Str → Option Value} {base : Heap} {f : Addr} {fd : FuncData}
abbrev N_is_depth : List Str := ["thing"]
theorem sc_is_depth : FnScope N_is_depth ["thing"] (defScope s_is_depth) := ⟨rfl, rfl, rfl, by decide +kernel, rfl, by decide +kernel, by decide +kernel⟩
theorem ok_is_depth (T : Txt K mg) (C_is_whole : Cal P w K mg base CX0 "is_whole" 1 ["thing"] spWhole) (F : FunD K "is_depth" "is_depth" (defArgs s_is_depth) (defBody s_is_depth) (defScope s_is_depth) [] [] f fd) : FnOk P w K mg base CX0 2 f fd ["thing"] spDepth := by
  refine F.ok sc_is_depth (fun vs H Q E h => ?_) (fun cdv A outer s H vs Q E hr h => ?_)
  · obtain ⟨_, rfl, _⟩ := h
    rfl
  obtain ⟨i, rfl, q⟩ := h
  refine ⟨_, PSs.nox (pss_one (ps_ret (pe_and (pe_cal C_is_whole (hr.mono (by decide)) pass0 (pa_cons (pv 0) pa_nil)) (pe_one (pe_chain op_le op_le pe_int (pv 0) (pe_g T.MOST_LAYERS_layers)))))), ?_⟩
  refine ⟨_, rfl, _, rfl, true, rfl, iteT ⟨_, rfl, _, _, rfl, rfl, _, rfl, ite2 (fun c => ?_) (fun c => ?_)⟩⟩
  · refine ⟨_, _, rfl, rfl, ?_⟩
    rw [c] at q
    exact q
  · have c2 : decide (1 ≤ i) = false := eq_false_of_ne_true c
    rw [c2] at q
    exact q
abbrev N_look_at_layers : List Str := ["k"]
theorem sc_look_at_layers : FnScope N_look_at_layers ["k"] (defScope s_look_at_layers) := ⟨rfl, rfl, rfl, by decide +kernel, rfl, by decide +kernel, by decide +kernel⟩
theorem ok_look_at_layers (T : Txt K mg) (C_is_depth : Cal P w K mg base CX0 "is_depth" 2 ["thing"] spDepth) (F : FunD K "look_at_layers" "look_at_layers" (defArgs s_look_at_layers) (defBody s_look_at_layers) (defScope s_look_at_layers) [] [] f fd) : FnOk P w K mg base CX0 3 f fd ["k"] spLookLayers := by
  refine F.ok sc_look_at_layers (fun vs H Q E h => ?_) (fun cdv A outer s H vs Q E hr h => ?_)
  · obtain ⟨_, rfl, _⟩ := h
    rfl
  obtain ⟨k, rfl, h1, h2, q⟩ := h
  refine ⟨_, PSs.nox (pss_one (ps_if (pt_not (pt_val (pe_cal C_is_depth (hr.mono (by decide)) pass0 (pa_cons (pv 0) pa_nil)))) pss_never pss_nil)), ?_⟩
  exact ⟨_, rfl, _, rfl, true, congrArg V.bl (and_tt (dT (by omega)) (dT (by omega))), iteF q⟩
theorem row_at {r : Row} {i : Nat} (hi : i < r.length) : (r.map nV)[i]? = some (nV (at_ r i)) := by
  rw [List.getElem?_map, List.getElem?_eq_getElem hi]
  unfold at_
  rw [List.getD_eq_getElem?_getD, List.getElem?_eq_getElem hi]
  rfl
abbrev N_layer_for : List Str := ["marks", "a", "b", "j", "row"]
theorem sc_layer_for : FnScope N_layer_for ["marks", "a", "b"] (defScope s_layer_for) := ⟨rfl, rfl, rfl, by decide +kernel, rfl, by decide +kernel, by decide +kernel⟩
theorem ok_layer_for (T : Txt K mg) (F : FunD K "layer_for" "layer_for" (defArgs s_layer_for) (defBody s_layer_for) (defScope s_layer_for) [] [] f fd) : FnOk P w K mg base CX0 1 f fd ["marks", "a", "b"] spLayerFor := by
  refine F.ok sc_layer_for (fun vs H Q E h => ?_) (fun cdv A outer s H vs Q E hr h => ?_)
  · obtain ⟨_, _, _, _, _, rfl, _⟩ := h
    rfl
  obtain ⟨m, rs, n, a, b, rfl, ⟨us, hm, hrs⟩, hw, ha, hb, q⟩ := h
  have hul := hrs.len
  refine ⟨_, PSs.nox (pss_cons (ps_for PassesOwn.never rfl (pi_enum (by rfl) T.enumerate (pa_cons (pv 0) pa_nil)) (pg_tup rfl (pgs_cons (pg_name (i := 3) sc_layer_for.nd rfl (Or.inl rfl)) (pgs_cons (pg_name (i := 4) sc_layer_for.nd rfl (Or.inl rfl)) pgs_nil)))
      (pss_one (ps_if (pt_cmpR op_ne (pe_ix ix_list (pv 4) (pv 1) (fun _ _ => rfl)) (pe_ix ix_list (pv 4) (pv 2) (fun _ _ => rfl)) (nomark _)) (pss_one (ps_ret (pe_op op_add (pv 3) pe_int))) pss_nil)))
      (pss_one (ps_ret pe_int))), ?_⟩
  refine ⟨_, rfl, m, us, rfl, SqL.of hm, for_it (walk_enum (K := K) (a := m) (xs := us)) (fun i σ H' => (∃ v1 v2, σ = [some (.ref m), some (nV a), some (nV b), v1, v2]) ∧ Same H H' ∧ ∀ k r, k < i → rs[k]? = some r → at_ r a = at_ r b) ?_ ?_ ?_ ?_⟩
  · exact ⟨⟨_, _, rfl⟩, Same.refl H, fun k r hk => absurd hk (Nat.not_lt_zero _)⟩
  · exact fun i σ H' _ ⟨_, sm, _⟩ => SqL.of (sm _ _ hm)
  · rintro i v σ H1 H2 hi ⟨⟨v1, v2, rfl⟩, sm, hall⟩ ⟨t, x, y, rfl, hn, rfl, hx, hy⟩
    have ex : V.int (i : Nat) = x := Option.some.inj hx
    subst ex
    obtain ⟨p, r, rfl, hr2, hp, _⟩ := hrs.get hy
    have hrl := hw r (List.mem_of_getElem? hr2)
    have sm2 : Same H (upd H1 t (.tup [.int (i : Nat), .ref p])) := fun b o e => by
      rw [upd_ne (ne_of_none (sm _ _ e) hn)]
      exact sm _ _ e
    have hp2 := sm2 _ _ hp
    refine ⟨t, _, rfl, SqT.of upd_same, rfl, _, _, rfl, _, _, rfl, rfl, ?_⟩
    refine ⟨_, rfl, _, rfl, p, _, _, _, rfl, rfl, SqL.of hp2, atI_nat (row_at (by omega)), _, rfl, _, rfl, p, _, _, _, rfl, rfl, SqL.of hp2, atI_nat (row_at (by omega)), rfl, _, rfl, ite2 (fun c => ?_) (fun c => ?_)⟩
    · have c2 : at_ r a ≠ at_ r b := fun z => by
        rw [z] at c
        simp at c
      refine ⟨_, rfl, _, _, rfl, rfl, ?_⟩
      have e := lf_hit hr2 c2 hall
      have q2 := q _ sm2
      rw [e] at q2
      exact q2
    · have c2 : at_ r a = at_ r b := by
        by_cases z : at_ r a = at_ r b
        · exact z
        · exfalso
          refine c ?_
          have : ¬ V.int (at_ r a : Int) = V.int (at_ r b : Int) := fun y => z (by have := V.int.inj y; omega)
          show (!decide (V.int (at_ r a : Int) = V.int (at_ r b : Int))) = true
          rw [decide_eq_false this]
          rfl
      refine ⟨⟨_, _, rfl⟩, sm2, fun k s hk hs => ?_⟩
      by_cases e : k = i
      · subst e
        rw [hr2] at hs
        cases hs
        exact c2
      · exact hall k s (by omega) hs
  · rintro σ H' ⟨⟨v1, v2, rfl⟩, sm, hall⟩
    have e : lf rs a b = 0 := lf_none fun r hr2 => by
      obtain ⟨k, hk, e⟩ := List.mem_iff_getElem.mp hr2
      exact hall k r (by omega) (by rw [List.getElem?_eq_getElem hk, e])
    have q2 := q _ sm
    rw [e] at q2
    exact q2
theorem getD_of {α : Type} {l : List α} {i : Nat} {x d : α} (h : l[i]? = some x) : l.getD i d = x := by
  rw [List.getD_eq_getElem?_getD, h]
  rfl
abbrev N_layered : List Str := ["n", "record", "k", "j", "marks", "numbers", "moment", "a", "b"]
theorem sc_layered : FnScope N_layered ["n", "record", "k"] (defScope s_layered) := ⟨rfl, rfl, rfl, by decide +kernel, rfl, by decide +kernel, by decide +kernel⟩
theorem ok_layered (T : Txt K mg) (C_look_at_layers : Cal P w K mg base CX0 "look_at_layers" 3 ["k"] spLookLayers) (C_layer_for : Cal P w K mg base CX0 "layer_for" 1 ["marks", "a", "b"] spLayerFor)
    (C_joined : Cal P w K mg base CX0 "joined" 1 ["marks", "a", "b"] spRow) (F : FunD K "layered" "layered" (defArgs s_layered) (defBody s_layered) (defScope s_layered) [] [] f fd) : FnOk P w K mg base CX0 4 f fd ["n", "record", "k"] spLayered := by
  refine F.ok sc_layered (fun vs H Q E h => ?_) (fun cdv A outer s H vs Q E hr h => ?_)
  · obtain ⟨_, _, _, _, rfl, _⟩ := h
    rfl
  obtain ⟨n, k, l, ts, rfl, hn, k1, k2, ⟨us, hl, ht⟩, hlen, hfit, q⟩ := h
  have hul := ht.len
  refine ⟨_, PSs.nox (pss_cons (ps_expr (pe_cal C_look_at_layers (hr.mono (by decide)) pass0 (pa_cons (pv 2) pa_nil)))
      (pss_cons (ps_setLc (i := 4) (own := [("j", 3)]) rfl sc_layered.nd rfl rfl (sw_true rfl rfl rfl (by decide +kernel)) (pi_range1 (by rfl) T.range (pa_cons (pv 2) pa_nil)) (blkOk_by (own := [("j", 3)]) (N := N_layered) (sc := defScope s_layered) (by decide +kernel)) (fun _ _ _ _ _ => (pg_name (i := 3) sc_layered.nd rfl (Or.inl rfl))) (fun _ _ _ _ _ => pts_nil) (fun _ _ _ _ _ => (pe_listRg rfl (by rfl) T.list (prg_1 (by rfl) T.range (pv 0)))))
      (pss_cons (ps_set (i := 5) sc_layered.nd rfl (Or.inl rfl) (pe_lst pa_nil))
      (pss_cons (ps_for PassesOwn.never rfl (pi_reversed (by rfl) T.reversed (pa_cons (pv 1) pa_nil)) (pg_tup rfl (pgs_cons (pg_name (i := 6) sc_layered.nd rfl (Or.inl rfl)) (pgs_cons (pg_name (i := 7) sc_layered.nd rfl (Or.inl rfl)) (pgs_cons (pg_name (i := 8) sc_layered.nd rfl (Or.inl rfl)) pgs_nil))))
      (pss_cons (ps_set (i := 3) sc_layered.nd rfl (Or.inl rfl) (pe_cal C_layer_for (hr.mono (by decide)) pass0 (pa_cons (pv 4) (pa_cons (pv 7) (pa_cons (pv 8) pa_nil)))))
      (pss_cons (ps_if (pt_cmpR op_gt (pv 3) pe_int (nomark _)) (pss_one (ps_asg (pe_cal C_joined (hr.mono (by decide)) pass0 (pa_cons (pe_ix ix_list (pv 4) (pe_op op_sub (pv 3) pe_int) (fun _ _ => rfl)) (pa_cons (pv 7) (pa_cons (pv 8) pa_nil)))) (pg_sub (pv 4) (pe_op op_sub (pv 3) pe_int) set_list))) pss_nil)
      (pss_one (ps_expr (pe_bm PySem.F.plainAttrs_list PySem.F.slot_list_append PySem.F.type_list_append mt_append (pv 5) (pa_cons (pv 3) pa_nil)))))))
      (pss_one (ps_ret (pe_lstRev T.list T.reversed (pv 5)))))))), ?_⟩
  refine ⟨_, rfl, k, rfl, k1, k2, ?_⟩
  -- marks
  refine ⟨_, rfl, (k : Int), rfl, by omega, by omega, fun M hM => lc_range (lo := 0) (n := k) (fun i H' => Same H H' ∧ ∃ vs, H' M = some (.lst vs) ∧ RowsAt H' M vs (List.replicate i (List.range n)) ∧ vs.length = i) ?_ ?_ ?_⟩
  · exact ⟨same_new hM, [], upd_same, .nil, rfl⟩
  · rintro i H' hi ⟨sm, vs, hv, hrs, hvl⟩
    refine ⟨rfl, _, rfl, (n : Int), rfl, RgOk.of_le (by omega) (by omega) (by omega) (by omega), fun r hr2 => ?_⟩
    have nrM : r ≠ M := (ne_of_none hv hr2).symm
    have er : rgV 0 (n : Int) = (List.range n).map nV := by
      unfold rgV
      rw [show (((n : Int) - 0).toNat) = n by omega]
      exact List.map_congr_left fun x _ => by
        show V.int (0 + (x : Int)) = V.int (x : Int)
        rw [Int.zero_add]
    have hv2 : upd H' r (.lst (rgV 0 (n : Int))) M = some (.lst vs) := by rw [upd_ne nrM.symm]; exact hv
    refine ⟨vs, hv2, small1000 (by omega), same_upd (same_upd sm (by
      cases e : H r with
      | none => rfl
      | some o => rw [sm _ _ e] at hr2; cases hr2)) hM, _, upd_same, ?_, by rw [List.length_append, List.length_singleton, hvl]⟩
    rw [List.replicate_succ']
    refine RowsAt.upd (RowsAt.app ?_ nrM (hrs.same (same_new hr2)))
    rw [upd_same, er]
  rintro H1 ⟨s1, vs1, hv1, hrs1, _⟩
  -- numbers
  refine ⟨Nat.zero_le _, fun N hN => ?_⟩
  have nNM : N ≠ M := (ne_of_none hv1 hN).symm
  have hN0 : H N = none := by
    cases e : H N with
    | none => rfl
    | some o => rw [s1 _ _ e] at hN; cases hN
  have nolst : ∀ {H' : Hp} {vs : List V} {rs : List Row}, RowsAt H' M vs rs → H' N = none → ∀ v ∈ vs, v ≠ .ref N := by
    intro H' vs rs h hN2
    induction h with
    | nil => exact fun v hv => nomatch hv
    | cons hp _ _ ih =>
      intro v hv e
      rcases List.mem_cons.mp hv with z | z
      · rw [z] at e
        cases e
        rw [hN2] at hp
        cases hp
      · exact ih v z e
  refine ⟨_, rfl, l, us, rfl, SqL.of (same_new hN _ _ (s1 _ _ hl)), for_it (walk_rev (K := K) (a := l) (xs := us)) (fun i σ H' => (∃ v1 v2 v3 v4, σ = [some (nV n), some (.ref l), some (nV k), v1, some (.ref M), some (.ref N), v2, v3, v4]) ∧ Same H H' ∧
    (∃ vs, H' M = some (.lst vs) ∧ RowsAt H' M vs (marksOf jn (marks0 n k) (ts.reverse.take i)) ∧ ∀ v ∈ vs, v ≠ .ref N) ∧ H' N = some (.lst ((run jn (marks0 n k) (ts.reverse.take i)).map nV))) ?_ ?_ ?_ ?_⟩
  · refine ⟨⟨_, _, _, _, rfl⟩, same_upd s1 hN0, ⟨vs1, ?_, ?_, nolst hrs1 hN⟩, ?_⟩
    · rw [upd_ne nNM.symm]
      exact hv1
    · rw [List.take_zero]
      exact hrs1.same (same_new hN)
    · rw [List.take_zero]
      exact upd_same
  · exact fun i σ H' _ ⟨_, sm, _⟩ => SqL.of (sm _ _ hl)
  · rintro i v σ H2 H3 hi ⟨⟨v1, v2, v3, v4, rfl⟩, sm, ⟨vs, hv, hrs, hnv⟩, hnum⟩ ⟨rfl, hx⟩
    obtain ⟨p, x, rfl, hx2, hp⟩ := ht.get hx
    have hil : i < ts.reverse.length := by rw [List.length_reverse]; omega
    have hxr : ts.reverse[i]? = some x := by
      rw [List.getElem?_reverse (by rw [List.length_reverse] at hil; exact hil)]
      rw [hul] at hx2
      exact hx2
    have hfx := hfit x (List.mem_of_getElem? hx2)
    have wd : Wide n (marksOf jn (marks0 n k) (ts.reverse.take i)) := marks_wide joins_jn (fun y hy => hfit y (List.mem_reverse.mp (List.mem_of_mem_take hy))) (marks0_wide n k)
    -- moment, a, b
    refine ⟨p, _, rfl, SqT.of (sm _ _ hp), rfl, _, _, rfl, _, _, rfl, _, _, rfl, rfl, ?_⟩
    -- j = layer_for(marks, a, b)
    refine ⟨_, rfl, _, rfl, _, rfl, M, _, n, x.a, x.b, rfl, ⟨vs, hv, hrs⟩, wd, hfx.1, hfx.2, fun H4 s4 => ?_⟩
    have hv4 := s4 _ _ hv
    have hrs4 := hrs.same s4
    have hnum4 := s4 _ _ hnum
    have sm4 : Same H H4 := sm.trans s4
    rw [take_succ hxr, marks_snoc, run_snoc]
    generalize hmk : marksOf jn (marks0 n k) (ts.reverse.take i) = mk at *
    have hnl : ((run jn (marks0 n k) (ts.reverse.take i)).map nV).length < sizeLine := small1000 (by rw [List.length_map, run_len, List.length_take]; omega)
    -- if j > 0
    refine ⟨_, rfl, _, _, rfl, rfl, _, rfl, ite2 (fun c => ?_) (fun c => ?_)⟩
    · have c2 : (0 : Int) < (lf mk x.a x.b : Int) := of_decide_eq_true c
      have hj : lf mk x.a x.b - 1 < mk.length := by
        have := lf_le (rows := mk) (a := x.a) (b := x.b)
        omega
      have hjv : lf mk x.a x.b - 1 < vs.length := by rw [hrs4.len]; exact hj
      obtain ⟨q0, r, er, hr2, hq0, hqM⟩ := hrs4.get (List.getElem?_eq_getElem hjv)
      have hget : vs[lf mk x.a x.b - 1]? = some (.ref q0) := by rw [List.getElem?_eq_getElem hjv, er]
      have hrl : r.length = n := wd r (List.mem_of_getElem? hr2)
      have ej : (lf mk x.a x.b : Int) - 1 = ((lf mk x.a x.b - 1 : Nat) : Int) := by omega
      refine ⟨_, rfl, _, rfl, _, _, rfl, rfl, M, _, _, _, rfl, rfl, SqL.of hv4, at_of ej hget, _, rfl, _, rfl, q0, r, x.a, x.b, rfl, hq0, by rw [hrl]; exact hfx.1, by rw [hrl]; exact hfx.2, by omega, fun H5 q5 s5 hq5n hq5 => ?_⟩
      have hv5 := s5 _ _ hv4
      have hnum5 := s5 _ _ hnum4
      have nqM : q5 ≠ M := (ne_of_none hv4 hq5n).symm
      have nqN : q5 ≠ N := (ne_of_none hnum4 hq5n).symm
      refine ⟨_, rfl, _, rfl, _, _, rfl, rfl, M, vs, _, _, rfl, rfl, hv5, by rw [ej]; exact ixN_nat hjv, ?_⟩
      have hM0 : H M = none := hM
      refine ⟨_, rfl, .inl ⟨rfl, _, SqL.of (xs := (run jn (marks0 n k) (ts.reverse.take i)).map nV) (by rw [upd_ne nNM]; exact hnum5)⟩, _, rfl, N, _, _, rfl, rfl, (by rw [upd_ne nNM]; exact hnum5), hnl, ?_⟩
      refine ⟨⟨_, _, _, _, rfl⟩, same_upd (same_upd (sm4.trans s5) hM0) hN0, ⟨_, by rw [upd_ne nNM.symm]; exact upd_same, ?_, ?_⟩, ?_⟩
      · unfold st
        rw [if_neg (by omega), getD_of hr2]
        refine RowsAt.upd' ?_ (RowsAt.upd ((hrs4.same s5).set hq5 nqM _))
        intro v hv6 e
        rcases List.mem_or_eq_of_mem_set hv6 with z | z
        · exact hnv v z e
        · rw [z] at e
          cases e
          exact nqN rfl
      · intro v hv6 e
        rcases List.mem_or_eq_of_mem_set hv6 with z | z
        · exact hnv v z e
        · rw [z] at e
          cases e
          exact nqN rfl
      · rw [upd_same, List.map_append]
        rfl
    · have c2 : lf mk x.a x.b = 0 := by
        have : ¬ (0 : Int) < (lf mk x.a x.b : Int) := fun z => c (decide_eq_true z)
        omega
      refine ⟨_, rfl, .inl ⟨rfl, _, SqL.of hnum4⟩, _, rfl, N, _, _, rfl, rfl, hnum4, hnl, ?_⟩
      refine ⟨⟨_, _, _, _, rfl⟩, same_upd sm4 hN0, ⟨vs, by rw [upd_ne nNM.symm]; exact hv4, ?_, hnv⟩, ?_⟩
      · rw [st_zero c2]
        exact hrs4.upd' hnv
      · rw [upd_same, List.map_append]
        rfl
  · rintro σ H2 ⟨⟨v1, v2, v3, v4, rfl⟩, sm, _, hnum⟩
    rw [List.take_of_length_le (by rw [List.length_reverse, hul]; exact Nat.le_refl _)] at hnum
    refine ⟨_, rfl, N, _, rfl, SqL.of hnum, fun p hp => q _ p (same_upd sm ?_) ?_ ?_⟩
    · cases e : H p with
      | none => rfl
      | some o => rw [sm _ _ e] at hp; cases hp
    · cases e : H p with
      | none => rfl
      | some o => rw [sm _ _ e] at hp; cases hp
    · rw [upd_same, ← List.map_reverse]
      rfl
/-! ### nets.py -/
structure NetOk (n k : Nat) (ts : List Tie) : Prop where
  n1 : 1 ≤ n
  n2 : n ≤ 10
  k1 : 1 ≤ k
  k2 : k ≤ 6
  ok : ∀ x ∈ ts, Ok n x
  up : Up ts
  len : ts.length ≤ 60
  all : 0 ∉ layeredN jn n k ts
theorem NetOk.fit {n k : Nat} {ts : List Tie} (o : NetOk n k ts) : ∀ x ∈ ts, Fits n x := fun x hx => ⟨(o.ok x hx).a, (o.ok x hx).b⟩
def netO (n k : Nat) (l : Addr) : HO := .tup [nV n, nV k, .ref l]
def spCount : Sp := fun vs H Q _ => ∃ i m : Int, vs = [.int i, .int m] ∧ Q (.bl (decide (1 ≤ i) && decide (i ≤ m))) H
def spIsNet : Sp := fun vs H Q _ => ∃ (n k : Nat) (a l : Addr) (ts : List Tie), vs = [.ref a] ∧ H a = some (netO n k l) ∧ RecAt H l ts ∧ NetOk n k ts ∧ ∀ H', Same H H' → Q (.bl true) H'
def spLookNet : Sp := fun vs H Q _ => ∃ (n k : Nat) (a l : Addr) (ts : List Tie), vs = [.ref a] ∧ H a = some (netO n k l) ∧ RecAt H l ts ∧ NetOk n k ts ∧ ∀ H', Same H H' → Q .non H'
def spNetOf : Sp := fun vs H Q _ => ∃ (n k : Nat) (l : Addr) (ts : List Tie), vs = [nV n, .ref l, nV k] ∧ n ≤ 1000 ∧ 1 ≤ k ∧ k ≤ 6 ∧ RecAt H l ts ∧ ts.length ≤ 1000 ∧ (∀ x ∈ ts, Fits n x) ∧
  ∀ H' p l', Same H H' → H p = none → H l' = none → H' p = some (netO n k l') → RecAt H' l' (netA n k ts) → Q (.ref p) H'
def spNetSince : Sp := fun vs H Q _ => ∃ (n k t : Nat) (a l : Addr) (ts : List Tie), vs = [.ref a, nV t] ∧ H a = some (netO n k l) ∧ RecAt H l ts ∧ NetOk n k ts ∧
  ∀ H' p l', Same H H' → H p = none → H l' = none → H' p = some (netO n k l') → RecAt H' l' (sinceD t ts) → Q (.ref p) H'
abbrev N_is_count : List Str := ["thing", "most"]
theorem sc_is_count : FnScope N_is_count ["thing", "most"] (defScope s_is_count) := ⟨rfl, rfl, rfl, by decide +kernel, rfl, by decide +kernel, by decide +kernel⟩
theorem ok_is_count (T : Txt K mg) (F : FunD K "is_count" "is_count" (defArgs s_is_count) (defBody s_is_count) (defScope s_is_count) [] [] f fd) : FnOk P w K mg base CX0 1 f fd ["thing", "most"] spCount := by
  refine F.ok sc_is_count (fun vs H Q E h => ?_) (fun cdv A outer s H vs Q E hr h => ?_)
  · obtain ⟨_, _, rfl, _⟩ := h
    rfl
  obtain ⟨i, m, rfl, q⟩ := h
  refine ⟨_, PSs.nox (pss_one (ps_ret (pe_and (pe_callB call_isi (by rfl) T.isinstance (by decide +kernel) (pa_cons (pv 0) (pa_cons (pe_bltn (v := .ty "int") (by rfl) T.int (by decide +kernel) rfl) pa_nil))) (pe_and (pe_not (pe_callB call_isi (by rfl) T.isinstance (by decide +kernel) (pa_cons (pv 0) (pa_cons (pe_bltn (v := .ty "bool") (by rfl) T.bool (by decide +kernel) rfl) pa_nil)))) (pe_one (pe_chain op_le op_le pe_int (pv 0) (pv 1))))))), ?_⟩
  refine ⟨_, rfl, _, _, _, _, true, rfl, .ty _, .base (.int _), kit_ty (by decide +kernel), _, rfl, iteT ?_⟩
  refine ⟨_, rfl, _, _, _, _, false, rfl, .ty _, .base (.int _), kit_ty (by decide +kernel), _, rfl, _, rfl, iteT ?_⟩
  refine ⟨_, rfl, _, _, rfl, rfl, _, rfl, ite2 (fun c => ?_) (fun c => ?_)⟩
  · refine ⟨_, rfl, _, _, rfl, rfl, ?_⟩
    rw [c] at q
    exact q
  · have c2 : decide (1 ≤ i) = false := eq_false_of_ne_true c
    rw [c2] at q
    exact q
theorem inV_nats {ns : List Nat} (h : 0 ∉ ns) : inV (.int 0) (ns.map nV) = false := by
  unfold inV
  rw [List.any_eq_false]
  intro y hy
  obtain ⟨m, hm, rfl⟩ := List.mem_map.mp hy
  have hm0 : m ≠ 0 := fun z => h (z ▸ hm)
  intro e
  have e2 : ((m : Int) == 0) = true := e
  have := eq_of_beq e2
  omega
theorem flat_nats {ns : List Nat} : (ns.map nV).all flatV = true := by
  rw [List.all_eq_true]
  intro y hy
  obtain ⟨m, _, rfl⟩ := List.mem_map.mp hy
  rfl
abbrev N_is_net : List Str := ["thing", "n", "k", "ties"]
theorem sc_is_net : FnScope N_is_net ["thing"] (defScope s_is_net) := ⟨rfl, rfl, rfl, by decide +kernel, rfl, by decide +kernel, by decide +kernel⟩
theorem ok_is_net (T : Txt K mg) (C_is_count : Cal P w K mg base CX0 "is_count" 1 ["thing", "most"] spCount) (C_is_record : Cal P w K mg base CX0 "is_record" 5 ["n", "thing"] spRecord) (C_layered : Cal P w K mg base CX0 "layered" 4 ["n", "record", "k"] spLayered)
    (F : FunD K "is_net" "is_net" (defArgs s_is_net) (defBody s_is_net) (defScope s_is_net) [] [] f fd) : FnOk P w K mg base CX0 6 f fd ["thing"] spIsNet := by
  refine F.ok sc_is_net (fun vs H Q E h => ?_) (fun cdv A outer s H vs Q E hr h => ?_)
  · obtain ⟨_, _, _, _, _, rfl, _⟩ := h
    rfl
  obtain ⟨n, k, a, l, ts, rfl, ha, hl, o, q⟩ := h
  have hS := SqT.of (K := K) ha
  have o1 := o.n1
  have o2 := o.n2
  have o3 := o.k1
  have o4 := o.k2
  have o5 := o.len
  refine ⟨_, PSs.nox (pss_cons (ps_if (PW.pt (pw_or (pt_not (pt_val (pe_callB call_isi (by rfl) T.isinstance (by decide +kernel) (pa_cons (pv 0) (pa_cons (pe_bltn (v := .ty "tuple") (by rfl) T.tuple (by decide +kernel) rfl) pa_nil))))) (pw_or1 (pt_cmpR op_ne (pe_callB call_len_seq (by rfl) T.len (by decide +kernel) (pa_cons (pv 0) pa_nil)) pe_int (nomark _))))) (pss_one (ps_ret pe_bl)) pss_nil)
      (pss_cons (ps_asg (pv 0) (pg_tup rfl (pgs_cons (pg_name (i := 1) sc_is_net.nd rfl (Or.inl rfl)) (pgs_cons (pg_name (i := 2) sc_is_net.nd rfl (Or.inl rfl)) (pgs_cons (pg_name (i := 3) sc_is_net.nd rfl (Or.inl rfl)) pgs_nil)))))
      (pss_cons (ps_if (PW.pt (pw_or (pt_not (pt_val (pe_cal C_is_count (hr.mono (by decide)) pass0 (pa_cons (pv 1) (pa_cons (pe_g T.MOST_PLACES_nets) pa_nil))))) (pw_or (pt_not (pt_val (pe_cal C_is_count (hr.mono (by decide)) pass0 (pa_cons (pv 2) (pa_cons (pe_g T.MOST_LAYERS_nets) pa_nil))))) (pw_or1 (pt_not (pt_val (pe_cal C_is_record (hr.mono (by decide)) pass0 (pa_cons (pv 1) (pa_cons (pv 3) pa_nil))))))))) (pss_one (ps_ret pe_bl)) pss_nil)
      (pss_one (ps_ret (pe_cmpR op_notIn_seq pe_int (pe_cal C_layered (hr.mono (by decide)) pass0 (pa_cons (pv 1) (pa_cons (pv 3) (pa_cons (pv 2) pa_nil)))) rfl)))))), ?_⟩
  refine ⟨_, rfl, _, _, _, _, true, rfl, .ty _, .base (.tup ha), kit_ty (by decide +kernel), true, rfl, iteF ?_⟩
  refine ⟨_, rfl, a, _, rfl, .inr hS, rfl, false, rfl, iteF ?_⟩
  refine ⟨_, rfl, a, _, rfl, hS, rfl, _, _, rfl, _, _, rfl, _, _, rfl, rfl, ?_⟩
  refine ⟨_, rfl, n, 10, rfl, true, congrArg V.bl (and_tt (dT (by omega)) (dT (by omega))), iteF ?_⟩
  refine ⟨_, rfl, k, 6, rfl, true, congrArg V.bl (and_tt (dT (by omega)) (dT (by omega))), iteF ?_⟩
  refine ⟨_, rfl, _, rfl, n, l, ts, rfl, hl, o.ok, o.up, o.len, fun H1 s1 => ⟨true, rfl, iteF ?_⟩⟩
  refine ⟨_, rfl, _, rfl, _, rfl, n, k, l, ts, rfl, by omega, o.k1, o.k2, hl.same s1, by omega, o.fit, fun H2 p s2 _ hp => ?_⟩
  refine ⟨p, _, rfl, .inl (SqL.of hp), rfl, flat_nats, ?_⟩
  refine blT ?_ (q H2 (s1.trans s2))
  show (!inV (.int 0) ((layeredN jn n k ts).map nV)) = true
  rw [inV_nats o.all]
  rfl
abbrev N_look_at_net_nets : List Str := ["thing"]
theorem sc_look_at_net_nets : FnScope N_look_at_net_nets ["thing"] (defScope s_look_at_net_nets) := ⟨rfl, rfl, rfl, by decide +kernel, rfl, by decide +kernel, by decide +kernel⟩
theorem ok_look_at_net_nets (T : Txt K mg) (C_is_net : Cal P w K mg base CX0 "is_net" 6 ["thing"] spIsNet) (F : FunD K "look_at_net" "look_at_net" (defArgs s_look_at_net_nets) (defBody s_look_at_net_nets) (defScope s_look_at_net_nets) [] [] f fd) : FnOk P w K mg base CX0 7 f fd ["thing"] spLookNet := by
  refine F.ok sc_look_at_net_nets (fun vs H Q E h => ?_) (fun cdv A outer s H vs Q E hr h => ?_)
  · obtain ⟨_, _, _, _, _, rfl, _⟩ := h
    rfl
  obtain ⟨n, k, a, l, ts, rfl, ha, hl, o, q⟩ := h
  refine ⟨_, PSs.nox (pss_one (ps_if (pt_not (pt_val (pe_cal C_is_net (hr.mono (by decide)) pass0 (pa_cons (pv 0) pa_nil)))) pss_never pss_nil)), ?_⟩
  exact ⟨_, rfl, n, k, a, l, ts, rfl, ha, hl, o, fun H1 s1 => ⟨true, rfl, iteF (q H1 s1)⟩⟩
theorem take_zip {α β : Type} {l : List α} {m : List β} {i : Nat} {x : α} {y : β} (h1 : l[i]? = some x) (h2 : m[i]? = some y) : (l.zip m).take (i + 1) = (l.zip m).take i ++ [(x, y)] := by
  refine take_succ ?_
  rw [List.getElem?_zip_eq_some]
  exact ⟨h1, h2⟩
abbrev N_net_of : List Str := ["n", "record", "k", "numbers", "tie", "number"]
theorem sc_net_of : FnScope N_net_of ["n", "record", "k"] (defScope s_net_of) := ⟨rfl, rfl, rfl, by decide +kernel, rfl, by decide +kernel, by decide +kernel⟩
theorem ok_net_of (T : Txt K mg) (C_layered : Cal P w K mg base CX0 "layered" 4 ["n", "record", "k"] spLayered) (F : FunD K "net_of" "net_of" (defArgs s_net_of) (defBody s_net_of) (defScope s_net_of) [] [] f fd) : FnOk P w K mg base CX0 5 f fd ["n", "record", "k"] spNetOf := by
  refine F.ok sc_net_of (fun vs H Q E h => ?_) (fun cdv A outer s H vs Q E hr h => ?_)
  · obtain ⟨_, _, _, _, rfl, _⟩ := h
    rfl
  obtain ⟨n, k, l, ts, rfl, hn, k1, k2, hl, hlen, hfit, q⟩ := h
  refine ⟨_, PSs.nox (pss_cons (ps_set (i := 3) sc_net_of.nd rfl (Or.inl rfl) (pe_cal C_layered (hr.mono (by decide)) pass0 (pa_cons (pv 0) (pa_cons (pv 1) (pa_cons (pv 2) pa_nil)))))
      (pss_one (ps_ret (pe_tup (pa_cons (pv 0) (pa_cons (pv 2) (pa_cons (pe_lc (own := [("tie", 4), ("number", 5)]) rfl sc_net_of.nd (pi_zip (by rfl) T.zip (pa_cons (pv 1) (pa_cons (pv 3) pa_nil))) (blkOk_by (own := [("tie", 4), ("number", 5)]) (N := N_net_of) (sc := defScope s_net_of) (by decide +kernel)) (fun _ _ _ _ _ => (pg_tupK K (n := 2) rfl (pgs_cons (pg_name (i := 4) sc_net_of.nd rfl (Or.inl rfl)) (pgs_cons (pg_name (i := 5) sc_net_of.nd rfl (Or.inl rfl)) pgs_nil)))) (fun _ _ _ _ _ => pts_one (pt_cmpR op_gt (pv 5) pe_int (nomark _))) (fun _ _ _ _ _ => (pv 4))) pa_nil))))))), ?_⟩
  refine ⟨_, rfl, _, rfl, _, rfl, n, k, l, ts, rfl, hn, k1, k2, hl, hlen, hfit, fun H1 p s1 hpn hp => ?_⟩
  obtain ⟨us, hl1, ht⟩ := hl.same s1
  have hul := ht.len
  have hnl : ((layeredN jn n k ts).map nV).length = ts.length := by rw [List.length_map, layeredN_len]
  refine ⟨_, rfl, _, rfl, _, rfl, _, rfl, l, p, us, _, rfl, SqL.of hl1, SqL.of hp, fun D hD => ?_⟩
  refine lc_it (walk_zip (K := K) (a := l) (b := p) (xs := us) (ys := (layeredN jn n k ts).map nV) (n := ts.length) (by rw [hnl, hul, Nat.min_self]))
    (fun i H' => Same H1 H' ∧ ∃ acc, H' D = some (.lst acc) ∧ TsAt H' acc ((((ts.zip (layeredN jn n k ts)).take i).filter fun p => decide (0 < p.2)).map (·.1)) ∧ acc.length ≤ i) ?_ ?_ ?_ ?_
  · exact ⟨same_new hD, [], upd_same, .nil, Nat.le_refl _⟩
  · exact fun i H' _ ⟨sm, _⟩ => ⟨SqL.of (sm _ _ hl1), SqL.of (sm _ _ hp)⟩
  · rintro i v H2 H3 hi ⟨sm, acc, hacc, ta, hal⟩ ⟨t, y, z, rfl, htn, rfl, hy, hz⟩
    obtain ⟨pt, x, rfl, hx, hpt⟩ := ht.get hy
    have hz2 : ∃ j, (layeredN jn n k ts)[i]? = some j ∧ z = nV j := by
      have hz3 : ((layeredN jn n k ts).map nV)[i]? = some z := hz
      rw [List.getElem?_map] at hz3
      cases e : (layeredN jn n k ts)[i]? with
      | none => rw [e] at hz3; cases hz3
      | some j => rw [e] at hz3; exact ⟨j, rfl, (Option.some.inj hz3).symm⟩
    obtain ⟨j, hj, rfl⟩ := hz2
    have ntD : D ≠ t := ne_of_none hacc htn
    have sm2 : Same H1 (upd H2 t (.tup [.ref pt, nV j])) := fun b o e => by
      rw [upd_ne (ne_of_none (sm _ _ e) htn)]
      exact sm _ _ e
    have hacc2 : upd H2 t (.tup [.ref pt, nV j]) D = some (.lst acc) := by rw [upd_ne ntD]; exact hacc
    have ta2 := ta.same (same_new (o := .tup [.ref pt, nV j]) htn)
    refine ⟨t, _, rfl, SqT.of upd_same, rfl, _, _, rfl, _, _, rfl, rfl, rfl, ?_⟩
    rw [take_zip hx hj, List.filter_append, List.map_append]
    refine ⟨_, rfl, _, _, rfl, rfl, _, rfl, ite2 (fun c => ?_) (fun c => ?_)⟩
    · have c2 : (0 : Int) < (j : Int) := of_decide_eq_true c
      refine ⟨_, rfl, acc, hacc2, small1000 (by omega), same_upd sm2 hD, _, upd_same, ?_, by rw [List.length_append, List.length_singleton]; omega⟩
      rw [List.filter_cons_of_pos (by simp; omega)]
      refine (ta2.put hacc2).app (.one ?_)
      rw [upd_ne (ne_of (sm2 _ _ hpt) hacc2 (by intro z; cases z))]
      exact sm2 _ _ hpt
    · have c2 : ¬ (0 : Int) < (j : Int) := fun z => c (decide_eq_true z)
      refine ⟨sm2, acc, hacc2, ?_, by omega⟩
      rw [List.filter_cons_of_neg (by simp; omega)]
      show TsAt _ acc (_ ++ [])
      rw [List.append_nil]
      exact ta2
  · rintro H2 ⟨s2, acc, hacc, ta, _⟩
    rw [List.take_of_length_le (by rw [List.length_zip, layeredN_len]; omega), netA_zip] at ta
    refine ⟨by show 3 ≤ sizeLine; decide, fun d hd => ?_⟩
    have hdH : ∀ {b : Addr}, H2 b = none → H b = none := fun {b} e => by
      cases z : H b with
      | none => rfl
      | some o => rw [s2 _ _ (s1 _ _ z)] at e; cases e
    have hDH : H D = none := by
      cases z : H D with
      | none => rfl
      | some o => rw [s1 _ _ z] at hD; cases hD
    refine q _ d D (same_upd (s1.trans s2) (hdH hd)) (hdH hd) hDH upd_same ⟨acc, ?_, ta.same (same_new hd)⟩
    rw [upd_ne (ne_of_none hacc hd)]
    exact hacc
abbrev N_net_since : List Str := ["net", "t"]
theorem sc_net_since : FnScope N_net_since ["net", "t"] (defScope s_net_since) := ⟨rfl, rfl, rfl, by decide +kernel, rfl, by decide +kernel, by decide +kernel⟩
theorem ok_net_since (T : Txt K mg) (C_look_at_net_nets : Cal P w K mg base CX0 "look_at_net_nets" 7 ["thing"] spLookNet) (C_since : Cal P w K mg base CX0 "since" 1 ["record", "t"] spSince) (F : FunD K "net_since" "net_since" (defArgs s_net_since) (defBody s_net_since) (defScope s_net_since) [] [] f fd) : FnOk P w K mg base CX0 8 f fd ["net", "t"] spNetSince := by
  refine F.ok sc_net_since (fun vs H Q E h => ?_) (fun cdv A outer s H vs Q E hr h => ?_)
  · obtain ⟨_, _, _, _, _, _, rfl, _⟩ := h
    rfl
  obtain ⟨n, k, t, a, l, ts, rfl, ha, hl, o, q⟩ := h
  have o5 := o.len
  refine ⟨_, PSs.nox (pss_cons (ps_expr (pe_cal C_look_at_net_nets (hr.mono (by decide)) pass0 (pa_cons (pv 0) pa_nil)))
      (pss_one (ps_ret (pe_tup (pa_cons (pe_ix ix_tup (pv 0) pe_int (fun _ _ => rfl)) (pa_cons (pe_ix ix_tup (pv 0) pe_int (fun _ _ => rfl)) (pa_cons (pe_cal C_since (hr.mono (by decide)) pass0 (pa_cons (pe_ix ix_tup (pv 0) pe_int (fun _ _ => rfl)) (pa_cons (pv 1) pa_nil))) pa_nil))))))), ?_⟩
  refine ⟨_, rfl, n, k, a, l, ts, rfl, ha, hl, o, fun H1 s1 => ?_⟩
  have hS := SqT.of (K := K) (s1 _ _ ha)
  refine ⟨_, rfl, a, _, _, _, rfl, rfl, hS, atI_nat (j := 0) rfl, _, rfl, a, _, _, _, rfl, rfl, hS, atI_nat (j := 1) rfl, _, rfl, a, _, _, _, rfl, rfl, hS, atI_nat (j := 2) rfl, _, rfl, l, ts, t, rfl, hl.same s1, by omega, fun H2 p s2 hpn hp => ?_⟩
  refine ⟨by show 3 ≤ sizeLine; decide, fun d hd => ?_⟩
  have hdH : ∀ {b : Addr}, H2 b = none → H b = none := fun {b} e => by
    cases z : H b with
    | none => rfl
    | some o => rw [s2 _ _ (s1 _ _ z)] at e; cases e
  refine q _ d p (same_upd (s1.trans s2) (hdH hd)) (hdH hd) ?_ upd_same (hp.same (same_new hd))
  cases z : H p with
  | none => rfl
  | some o => rw [s1 _ _ z] at hpn; cases hpn
end
end SP
set_option maxRecDepth 100000
set_option maxHeartbeats 4000000
namespace SP
open PySem PySem.Spec PyProof.Rows L2
theorem hu65 {k : Nat} {A : Around} (hr : Room k A) : A.units + 65 < cLine := by
  have := hr.un
  omega
/-- what was free is free ahead -/
theorem free_of {H H' : Hp} (s : Same H H') {b : Addr} (e : H' b = none) : H b = none := s.free e
theorem putK_len (c : List (Key × V)) (k : Key) (x : V) : (putK c k x).length ≤ c.length + 1 := by
  unfold putK
  split
  · rw [List.length_map]
    omega
  · rw [List.length_append, List.length_singleton]
    exact Nat.le_refl _
/-! ### sorted lists of ties -/
theorem TsAt.perm {H : Hp} {vs ws : List V} (hp : ws.Perm vs) : ∀ {ts : List Tie}, TsAt H vs ts → ∃ us, us.Perm ts ∧ TsAt H ws us := by
  induction hp with
  | nil => intro ts h; exact ⟨ts, .refl _, h⟩
  | cons x _ ih =>
    intro ts h
    cases h with
    | cons hp ht =>
      obtain ⟨us, p, q⟩ := ih ht
      exact ⟨_ :: us, p.cons _, .cons hp q⟩
  | swap x y l =>
    intro ts h
    cases h with
    | cons h1 ht =>
      cases ht with
      | cons h2 ht => exact ⟨_, .swap _ _ _, .cons h2 (.cons h1 ht)⟩
  | trans p1 p2 ih1 ih2 =>
    intro ts h
    obtain ⟨us, q1, h1⟩ := ih2 h
    obtain ⟨zs, q2, h2⟩ := ih1 h1
    exact ⟨zs, q2.trans q1, h2⟩
theorem tupI_of {K : PySem.W.Frag} {H : Hp} {p : Addr} {x : Tie} (h : H p = some (tieO x)) : TupI K H (.ref p) [(x.m : Int), (x.a : Int), (x.b : Int)] := ⟨p, rfl, SqT.of h⟩
theorem bd_of {n : Nat} {x : Tie} (hn : n ≤ 1000) (o : Ok n x) : TS.Bd BB [(x.m : Int), (x.a : Int), (x.b : Int)] := by
  intro i hi
  have h1 := o.m
  have h2 := o.a
  have h3 := o.b
  have hB : BB = 10 ^ 30 + 1 := rfl
  rcases List.mem_cons.mp hi with e | hi
  · rw [e, hB]; omega
  rcases List.mem_cons.mp hi with e | hi
  · rw [e, hB]; omega
  rcases List.mem_cons.mp hi with e | hi
  · rw [e, hB]; omega
  · cases hi
theorem code_m {x y : Tie} {n : Nat} (hn : n ≤ 1000) (ox : Ok n x) (oy : Ok n y) (h : TS.code BB [(x.m : Int), (x.a : Int), (x.b : Int)] ≤ TS.code BB [(y.m : Int), (y.a : Int), (y.b : Int)]) : x.m ≤ y.m := by
  have h1 := ox.a
  have h2 := ox.b
  have h3 := oy.a
  have h4 := oy.b
  have e : ∀ z : Tie, TS.code BB [(z.m : Int), (z.a : Int), (z.b : Int)] = (z.m : Int) * (BB * BB) + ((z.a : Int) * BB + (z.b : Int)) := fun z => by
    show (z.m : Int) * BB ^ 2 + ((z.a : Int) * BB ^ 1 + ((z.b : Int) * BB ^ 0 + 0)) = _
    rw [Int.pow_succ, Int.pow_succ, Int.pow_zero]
    simp
  rw [e, e] at h
  have hB : BB = 1000000000000000000000000000001 := rfl
  rw [hB] at h
  omega
theorem sorted_of {K : PySem.W.Frag} {H : Hp} {n : Nat} (hn : n ≤ 1000) : ∀ {vs : List V} {ts : List Tie}, TsAt H vs ts → (∀ x ∈ ts, Ok n x) → vs.Pairwise (fun x y => ∀ n m, TupI K H x n → TupI K H y m → TS.code BB n ≤ TS.code BB m) → ts.Pairwise fun x y => x.m ≤ y.m
  | _, _, .nil, _, _ => .nil
  | _, _, .cons (x := x) h ht, ho, hp => by
    obtain ⟨p1, p2⟩ := List.pairwise_cons.mp hp
    refine List.pairwise_cons.mpr ⟨fun y hy => ?_, sorted_of hn ht (fun z hz => ho z (.tail _ hz)) p2⟩
    obtain ⟨i, hi, e⟩ := List.mem_iff_getElem.mp hy
    obtain ⟨q, hq, hy2⟩ := ht.gett (List.getElem?_eq_getElem hi)
    rw [e] at hy2
    exact code_m hn (ho x (.head _)) (ho y (.tail _ hy)) (p1 _ (List.mem_of_getElem? hq) _ _ (tupI_of h) (tupI_of hy2))
/-! ### ties as data -/
def pd (x : Tie) : PyData := .tuple [.int x.m, .int x.a, .int x.b]
theorem dp_tie {K : PySem.W.Frag} {H : Hp} {p : Addr} {x : Tie} (h : H p = some (tieO x)) : Dp K H (.ref p) (pd x) := .tup (SqT.of h) (.cons (.int _) (.cons (.int _) (.cons (.int _) .nil)))
theorem dp_ties {K : PySem.W.Frag} {H : Hp} : ∀ {vs : List V} {ts : List Tie}, TsAt H vs ts → DpAll K H vs (ts.map pd)
  | _, _, .nil => .nil
  | _, _, .cons h t => .cons (dp_tie h) (dp_ties t)
theorem lay_ties : ∀ ts : List Tie, PyData.canLayAll0 (ts.map pd) = true
  | [] => rfl
  | x :: ts => by
    show (PyData.canLay0 (pd x) && PyData.canLayAll0 (ts.map pd)) = true
    rw [lay_ties ts]
    rfl
theorem dep_ties : ∀ ts : List Tie, PyData.depthAll (ts.map pd) ≤ 1
  | [] => Nat.zero_le _
  | x :: ts => by
    show max (PyData.depth (pd x)) (PyData.depthAll (ts.map pd)) ≤ 1
    have e : PyData.depth (pd x) = 1 := rfl
    have := dep_ties ts
    omega
theorem shaped_ties (ts : List Tie) : SeqAt.shaped (.list (ts.map pd)) = true := by
  show (PyData.canLayAll0 (ts.map pd) && decide (PyData.depthAll (ts.map pd) + 1 ≤ 64)) = true
  rw [lay_ties, dT (by have := dep_ties ts; omega)]
  rfl
theorem shaped_tie (x : Tie) : SeqAt.shaped (pd x) = true := rfl
theorem eqv_tie (x y : Tie) : PyData.eqv (pd x) (pd y) = decide (x = y) := by
  have e : PyData.eqv (pd x) (pd y) = (((x.m : Int) == (y.m : Int)) && (((x.a : Int) == (y.a : Int)) && (((x.b : Int) == (y.b : Int)) && true))) := by
    simp [pd, PyData.eqv, PyData.eqvAll]
  rw [e]
  by_cases h : x = y
  · rw [h, dT rfl]
    simp
  · rw [decide_eq_false h]
    obtain ⟨m1, a1, b1⟩ := x
    obtain ⟨m2, a2, b2⟩ := y
    simp only [T.mk.injEq, not_and] at h
    simp only [Bool.and_true, Bool.and_eq_false_iff, beq_eq_false_iff_ne]
    by_cases h1 : m1 = m2
    · by_cases h2 : a1 = a2
      · exact .inr (.inr fun z => h h1 h2 (by omega))
      · exact .inr (.inl fun z => h2 (by omega))
    · exact .inl fun z => h1 (by omega)
theorem any_tie (ts : List Tie) (x : Tie) : ((ts.map pd).any fun z => PyData.eqv z (pd x)) = decide (x ∈ ts) := by
  rw [List.any_map]
  by_cases h : x ∈ ts
  · rw [dT h, List.any_eq_true]
    exact ⟨x, h, by rw [Function.comp, eqv_tie, dT rfl]⟩
  · rw [decide_eq_false h, List.any_eq_false]
    intro y hy e
    rw [Function.comp, eqv_tie] at e
    exact h (of_decide_eq_true e ▸ hy)
/-! ### laying.py -/
def spClash : Sp := fun vs H Q _ => ∃ (n : Nat) (l l2 : Addr) (ts us : List Tie), vs = [.ref l, .ref l2] ∧ n ≤ 1000 ∧ RecAt H l ts ∧ RecAt H l2 us ∧ (∀ x ∈ us, Ok n x) ∧ ts.length ≤ 60 ∧ us.length ≤ 60 ∧ OneTie (ts ++ us) ∧
  ∀ H', Same H H' → Q .non H'
def spWith : Sp := fun vs H Q _ => ∃ (n k : Nat) (a l l2 : Addr) (ts us : List Tie), vs = [.ref a, .ref l2] ∧ n ≤ 10 ∧ 1 ≤ k ∧ k ≤ 6 ∧ H a = some (netO n k l) ∧ RecAt H l ts ∧ RecAt H l2 us ∧ (∀ x ∈ ts ++ us, Ok n x) ∧ Up ts ∧ ts.length + us.length ≤ 60 ∧ OneTie (ts ++ us) ∧
  ∀ H' p l', Same H H' → H p = none → H l' = none → H' p = some (netO n k l') → RecAt H' l' (withT n k ts us) → Q (.ref p) H'
def spLaid : Sp := fun vs H Q _ => ∃ (n k : Nat) (a b l l2 : Addr) (ts us : List Tie), vs = [.ref a, .ref b] ∧ H a = some (netO n k l) ∧ H b = some (netO n k l2) ∧ RecAt H l ts ∧ RecAt H l2 us ∧ NetOk n k ts ∧ NetOk n k us ∧ ts.length + us.length ≤ 60 ∧ OneTie (ts ++ us) ∧
  ∀ H' p l', Same H H' → H p = none → H l' = none → H' p = some (netO n k l') → RecAt H' l' (withT n k ts us) → Q (.ref p) H'
def spNetCome : Sp := fun vs H Q _ => ∃ (n k : Nat) (a p l : Addr) (ts : List Tie) (x : Tie), vs = [.ref a, .ref p] ∧ H a = some (netO n k l) ∧ RecAt H l ts ∧ H p = some (tieO x) ∧ NetOk n k ts ∧ Ok n x ∧ ts.length + 1 ≤ 60 ∧ OneTie (ts ++ [x]) ∧
  ∀ H' q l', Same H H' → H q = none → H l' = none → H' q = some (netO n k l') → RecAt H' l' (withT n k ts [x]) → Q (.ref q) H'
section
variable {P : Program} {w : World} {K : PySem.W.Frag} {mg : Str → Option Value} {base : Heap} {f : Addr} {fd : FuncData}
theorem dp_pair {H : Hp} {q : Addr} {a b : Nat} (h : H q = some (.tup [nV a, nV b])) : Dp K H (.ref q) (.tuple [.int a, .int b]) := .tup (SqT.of h) (.cons (.int _) (.cons (.int _) .nil))
theorem eqv_pair (a b : Int) : PyData.eqv (.tuple [.int a, .int b]) (.tuple [.int a, .int b]) = true := by
  simp [PyData.eqv, PyData.eqvAll]
abbrev N_look_for_clash : List Str := ["ties", "others", "ends", "moment", "a", "b"]
theorem sc_look_for_clash : FnScope N_look_for_clash ["ties", "others"] (defScope s_look_for_clash) := ⟨rfl, rfl, rfl, by decide +kernel, rfl, by decide +kernel, by decide +kernel⟩
theorem ok_look_for_clash (T : Txt K mg) (F : FunD K "look_for_clash" "look_for_clash" (defArgs s_look_for_clash) (defBody s_look_for_clash) (defScope s_look_for_clash) [] [] f fd) : FnOk P w K mg base CX0 1 f fd ["ties", "others"] spClash := by
  refine F.ok sc_look_for_clash (fun vs H Q E h => ?_) (fun cdv A outer s H vs Q E hr h => ?_)
  · obtain ⟨_, _, _, _, _, rfl, _⟩ := h
    rfl
  obtain ⟨n, l, l2, ts, us, rfl, hn, ⟨vs1, hl, ht⟩, ⟨vs2, hl2, hu⟩, hok, hts, hus, one, q⟩ := h
  refine ⟨_, PSs.nox (pss_cons (ps_set (i := 2) sc_look_for_clash.nd rfl (Or.inl rfl) pe_dnewK)
      (pss_cons (ps_for PassesOwn.never rfl (pi_list (pv 0)) (pg_tup rfl (pgs_cons (pg_name (i := 3) sc_look_for_clash.nd rfl (Or.inl rfl)) (pgs_cons (pg_name (i := 4) sc_look_for_clash.nd rfl (Or.inl rfl)) (pgs_cons (pg_name (i := 5) sc_look_for_clash.nd rfl (Or.inl rfl)) pgs_nil))))
      (pss_one (ps_dput (hu_of hr) (pv 2) (pv 3) (pe_tup (pa_cons (pv 4) (pa_cons (pv 5) pa_nil))) rfl)))
      (pss_one (ps_for PassesOwn.never rfl (pi_list (pe_callB (cr_sortT (d := 3) (B := BB) (by decide)) (by rfl) T.sorted (by decide +kernel) (pa_cons (pv 1) pa_nil))) (pg_tup rfl (pgs_cons (pg_name (i := 3) sc_look_for_clash.nd rfl (Or.inl rfl)) (pgs_cons (pg_name (i := 4) sc_look_for_clash.nd rfl (Or.inl rfl)) (pgs_cons (pg_name (i := 5) sc_look_for_clash.nd rfl (Or.inl rfl)) pgs_nil))))
      (pss_one (ps_if (pt_cmpR (op_neD hr.units) (pe_dget2 (hu_of hr) (pv 2) (pv 3) (pe_tup (pa_cons (pv 4) (pa_cons (pv 5) pa_nil))) ⟨rfl, rfl, rfl, rfl⟩) (pe_tup (pa_cons (pv 4) (pa_cons (pv 5) pa_nil))) (nomark _)) pss_never pss_nil)))))), ?_⟩
  refine fun d hd => ?_
  refine ⟨_, rfl, l, rfl, ⟨_, SqL.of (same_new hd _ _ hl)⟩, for_list (K := K) (a := l) (xs := vs1) (fun i σ H' => (∃ v1 v2 v3, σ = [some (.ref l), some (.ref l2), some (.ref d), v1, v2, v3]) ∧ Same H H' ∧
    ∃ kvs : List (Key × V), H' d = some (.dK kvs) ∧ kvs.length ≤ i ∧ ∀ m v, valV kvs (Sum.inl m) = some v → ∃ x ∈ ts, m = (x.m : Int) ∧ ∃ q, v = .ref q ∧ H' q = some (.tup [nV x.a, nV x.b])) ?_ ?_ ?_ ?_⟩
  · exact ⟨⟨_, _, _, rfl⟩, same_new hd, [], upd_same, Nat.le_refl _, fun m v h => by rw [valV_nil] at h; cases h⟩
  · exact fun i σ H' _ ⟨_, sm, _⟩ => SqL.of (sm _ _ hl)
  · rintro i v σ H' hi ⟨⟨v1, v2, v3, rfl⟩, sm, kvs, hkd, hkl, hk⟩
    obtain ⟨p, x, rfl, hx, hp⟩ := ht.get hi
    have hi2 : i < vs1.length := (List.getElem?_eq_some_iff.mp hi).1
    have hvl := ht.len
    refine ⟨p, _, rfl, SqT.of (sm _ _ hp), rfl, _, _, rfl, _, _, rfl, _, _, rfl, rfl, ?_⟩
    refine ⟨_, rfl, _, rfl, by show 2 ≤ sizeLine; decide, fun t htn => ?_⟩
    have ndt : d ≠ t := ne_of_none hkd htn
    have hkd2 : upd H' t (.tup [nV x.a, nV x.b]) d = some (.dK kvs) := by rw [upd_ne ndt]; exact hkd
    refine ⟨_, rfl, _, rfl, d, _, rfl, DPut.k (k := Sum.inl (x.m : Int)) hkd2 (small1000 (by omega)), ⟨_, _, _, rfl⟩, same_upd (same_upd sm (sm.free htn)) hd, _, upd_same, ?_, ?_⟩
    · have := putK_len kvs (Sum.inl (x.m : Int)) (.ref t)
      omega
    · intro m v h
      rw [valV_put] at h
      by_cases e : (Sum.inl m : Key) = Sum.inl (x.m : Int)
      · rw [if_pos e] at h
        cases h
        refine ⟨x, List.mem_of_getElem? hx, Sum.inl.inj e, t, rfl, ?_⟩
        rw [upd_ne ndt.symm]
        exact upd_same
      · rw [if_neg e] at h
        obtain ⟨y, hy, em, r, ev, hr2⟩ := hk m v h
        refine ⟨y, hy, em, r, ev, ?_⟩
        have hr3 := same_new (o := .tup [nV x.a, nV x.b]) htn _ _ hr2
        rw [upd_ne (ne_of hr3 hkd2 (by intro z; cases z))]
        exact hr3
  rintro σ H1 ⟨⟨v1, v2, v3, rfl⟩, s1, kvs, hkd, hkl, hk⟩
  -- sorted(others)
  have hl21 := s1 _ _ hl2
  have hvl := hu.len
  refine ⟨_, rfl, l2, vs2, rfl, SqL.of hl21, by omega, ?_, fun ys p hperm hsort hpn => ?_⟩
  · intro v hv
    obtain ⟨i, hi, e⟩ := List.mem_iff_getElem.mp hv
    obtain ⟨r, x, er, hx, hr2⟩ := hu.get (List.getElem?_eq_getElem hi)
    rw [← e, er]
    exact ⟨_, tupI_of (s1 _ _ hr2), rfl, bd_of hn (hok x (List.mem_of_getElem? hx))⟩
  obtain ⟨zs, hz, hzt⟩ := (hu.same s1).perm hperm
  have s2 : Same H (upd H1 p (.lst ys)) := same_upd s1 (s1.free hpn)
  refine ⟨p, rfl, ⟨_, SqL.of upd_same⟩, for_list (K := K) (a := p) (xs := ys) (fun i σ H' => (∃ v1 v2 v3, σ = [some (.ref l), some (.ref l2), some (.ref d), v1, v2, v3]) ∧ Same (upd H1 p (.lst ys)) H') ⟨⟨_, _, _, rfl⟩, Same.refl _⟩ (fun i σ H' _ ⟨_, sm⟩ => SqL.of (sm _ _ upd_same)) ?_ ?_⟩
  · rintro i v σ H' hi ⟨⟨v1, v2, v3, rfl⟩, sm⟩
    obtain ⟨r, x, rfl, hx, hr2⟩ := hzt.get hi
    have hr3 := sm _ _ (same_new (o := .lst ys) hpn _ _ hr2)
    have hxu : x ∈ us := hz.mem_iff.mp (List.mem_of_getElem? hx)
    have hkd2 := sm _ _ (same_new (o := .lst ys) hpn _ _ hkd)
    refine ⟨r, _, rfl, SqT.of hr3, rfl, _, _, rfl, _, _, rfl, _, _, rfl, rfl, ?_⟩
    refine ⟨_, rfl, d, rfl, .inl ⟨kvs, .of hkd2⟩, _, rfl, _, rfl, _, rfl, by show 2 ≤ sizeLine; decide, fun t htn => ?_⟩
    have hkd3 := same_new (o := .tup [nV x.a, nV x.b]) htn _ _ hkd2
    refine ⟨_, DGet.k (k := Sum.inl (x.m : Int)) hkd3, _, rfl, _, rfl, by show 2 ≤ sizeLine; decide, fun t2 ht2 => ?_⟩
    have fin : ∃ q, (valV kvs (Sum.inl (x.m : Int))).getD (.ref t) = .ref q ∧ upd (upd H' t (.tup [nV x.a, nV x.b])) t2 (.tup [nV x.a, nV x.b]) q = some (.tup [nV x.a, nV x.b]) := by
      cases e : valV kvs (Sum.inl (x.m : Int)) with
      | none =>
        refine ⟨t, rfl, ?_⟩
        rw [upd_ne (ne_of_none upd_same ht2)]
        exact upd_same
      | some v =>
        obtain ⟨y, hy, em, q, rfl, hq⟩ := hk _ _ e
        have exy : y = x := one y (List.mem_append.mpr (.inl hy)) x (List.mem_append.mpr (.inr hxu)) (by omega)
        subst exy
        exact ⟨q, rfl, same_new ht2 _ _ (same_new htn _ _ (sm _ _ (same_new hpn _ _ hq)))⟩
    obtain ⟨q1, e1, hq1⟩ := fin
    refine ⟨_, _, by rw [e1]; exact dp_pair hq1, dp_pair (a := x.a) (b := x.b) upd_same, rfl, rfl, _, rfl, ?_⟩
    rw [eqv_pair]
    refine iteF ⟨⟨_, _, _, rfl⟩, ?_⟩
    exact sm.trans ((same_new htn).trans (same_new ht2))
  · rintro σ H' ⟨⟨v1, v2, v3, rfl⟩, sm⟩
    exact q H' (s2.trans sm)
theorem oneTie_cur {n k : Nat} {ts us : List Tie} {i : Nat} {x : Tie} (one : OneTie (ts ++ us)) (hx : us[i]? = some x) : ∀ y ∈ withT n k ts (us.take i), y.m = x.m → y = x := fun y hy e => by
  refine one y ?_ x (List.mem_append.mpr (.inr (List.mem_of_getElem? hx))) e
  rcases withT_mem hy with h | h
  · exact List.mem_append.mpr (.inl h)
  · exact List.mem_append.mpr (.inr (List.mem_of_mem_take h))
theorem ok_cur {n k : Nat} {ts us : List Tie} {i : Nat} {N : Nat} (ok : ∀ x ∈ ts ++ us, Ok N x) : ∀ y ∈ withT n k ts (us.take i), Ok N y := fun y hy => by
  rcases withT_mem hy with h | h
  · exact ok y (List.mem_append.mpr (.inl h))
  · exact ok y (List.mem_append.mpr (.inr (List.mem_of_mem_take h)))
abbrev N_with_ties : List Str := ["net", "others", "n", "k", "ties", "tie"]
theorem sc_with_ties : FnScope N_with_ties ["net", "others"] (defScope s_with_ties) := ⟨rfl, rfl, rfl, by decide +kernel, rfl, by decide +kernel, by decide +kernel⟩
theorem ok_with_ties (T : Txt K mg) (C_net_of : Cal P w K mg base CX0 "net_of" 5 ["n", "record", "k"] spNetOf) (F : FunD K "with_ties" "with_ties" (defArgs s_with_ties) (defBody s_with_ties) (defScope s_with_ties) [] [] f fd) : FnOk P w K mg base CX0 6 f fd ["net", "others"] spWith := by
  refine F.ok sc_with_ties (fun vs H Q E h => ?_) (fun cdv A outer s H vs Q E hr h => ?_)
  · obtain ⟨_, _, _, _, _, _, _, rfl, _⟩ := h
    rfl
  obtain ⟨n, k, a, l, l2, ts, us, rfl, n2, k1, k2, ha, ⟨vs1, hl, ht⟩, ⟨vs2, hl2, hu⟩, hok, hup, hlen, one, q⟩ := h
  have hul := hu.len
  have htl := ht.len
  refine ⟨_, PSs.nox (pss_cons (ps_asg (pv 0) (pg_tup rfl (pgs_cons (pg_name (i := 2) sc_with_ties.nd rfl (Or.inl rfl)) (pgs_cons (pg_name (i := 3) sc_with_ties.nd rfl (Or.inl rfl)) (pgs_cons (pg_name (i := 4) sc_with_ties.nd rfl (Or.inl rfl)) pgs_nil)))))
      (pss_cons (ps_set (i := 4) sc_with_ties.nd rfl (Or.inl rfl) (pe_callTy call_list_of (by rfl) T.list (by decide +kernel) (pa_cons (pv 4) pa_nil)))
      (pss_cons (ps_for PassesOwn.never rfl (pi_list (pv 1)) (pg_name (i := 5) sc_with_ties.nd rfl (Or.inl rfl))
      (pss_one (ps_if (pt_cmpR (op_notInD (hu65 hr)) (pv 5) (pv 4) rfl) (pss_one (ps_set (i := 4) sc_with_ties.nd rfl (Or.inl rfl) (pe_ix ix_tup (pe_cal C_net_of (hr.mono (by decide)) pass0 (pa_cons (pv 2) (pa_cons (pe_callB (cr_sortT (d := 3) (B := BB) (by decide)) (by rfl) T.sorted (by decide +kernel) (pa_cons (pe_op op_cat (pv 4) (pe_lst (pa_cons (pv 5) pa_nil))) pa_nil)) (pa_cons (pv 3) pa_nil)))) pe_int (fun _ _ => rfl)))) pss_nil)))
      (pss_one (ps_ret (pe_tup (pa_cons (pv 2) (pa_cons (pv 3) (pa_cons (pv 4) pa_nil))))))))), ?_⟩
  refine ⟨_, rfl, a, _, rfl, SqT.of ha, rfl, _, _, rfl, _, _, rfl, _, _, rfl, rfl, ?_⟩
  refine ⟨_, rfl, l, vs1, rfl, .inl (SqL.of hl), fun c hc => ?_⟩
  refine ⟨_, rfl, l2, rfl, ⟨_, SqL.of (same_new hc _ _ hl2)⟩, for_list (K := K) (a := l2) (xs := vs2) (fun i σ H' => ∃ lc v, σ = [some (.ref a), some (.ref l2), some (nV n), some (nV k), some (.ref lc), v] ∧ Same H H' ∧ RecAt H' lc (withT n k ts (us.take i)) ∧ H lc = none) ?_ ?_ ?_ ?_⟩
  · exact ⟨c, _, rfl, same_new hc, ⟨vs1, upd_same, ht.same (same_new hc)⟩, hc⟩
  · exact fun i σ H' _ ⟨_, _, _, sm, _⟩ => SqL.of (sm _ _ hl2)
  · rintro i v σ H' hi ⟨lc, v1, rfl, sm, ⟨vc, hvc, hct⟩, hfr⟩
    obtain ⟨p, x, rfl, hx, hp⟩ := hu.get hi
    have hp' := sm _ _ hp
    have hi2 : i < us.length := (List.getElem?_eq_some_iff.mp hx).1
    have hcl := hct.len
    have hcl2 : (withT n k ts (us.take i)).length ≤ ts.length + i := by
      have := withT_len (n := n) (k := k) (us := us.take i) (cur := ts)
      rw [List.length_take] at this
      omega
    refine ⟨_, rfl, _, rfl, _, _, dp_tie hp', .lst (SqL.of hvc) (dp_ties hct), shaped_tie x, shaped_ties _, _, rfl, ?_⟩
    rw [any_tie, take_succ hx, withT_snoc]
    by_cases hx2 : x ∈ withT n k ts (us.take i)
    · rw [dT hx2, if_pos hx2]
      exact iteF ⟨lc, _, rfl, sm, ⟨vc, hvc, hct⟩, hfr⟩
    · rw [decide_eq_false hx2, if_neg hx2]
      refine iteT ⟨_, rfl, _, rfl, _, rfl, by show 1 ≤ sizeLine; decide, fun t htn => ?_⟩
      have hvc2 := same_new (o := .lst [.ref p]) htn _ _ hvc
      refine ⟨lc, t, _, _, rfl, rfl, hvc2, upd_same, Nat.le_of_lt (small1000 (by show vc.length + 1 ≤ 1000; omega)), fun t2 ht2 => ?_⟩
      have htie : TsAt (upd (upd H' t (.lst [.ref p])) t2 (.lst (vc ++ [.ref p]))) (vc ++ [.ref p]) (withT n k ts (us.take i) ++ [x]) := ((hct.same (same_new htn)).same (same_new ht2)).app (.one (same_new ht2 _ _ (same_new htn _ _ hp')))
      have okA : ∀ y ∈ withT n k ts (us.take i) ++ [x], Ok n y := fun y hy => by
        rcases List.mem_append.mp hy with z | z
        · exact ok_cur hok y z
        · rw [List.mem_singleton.mp z]
          exact hok x (List.mem_append.mpr (.inr (List.mem_of_getElem? hx)))
      refine ⟨t2, _, rfl, SqL.of upd_same, by rw [List.length_append, List.length_singleton]; omega, ?_, fun ys p2 hperm hsort hpn => ?_⟩
      · intro v hv
        obtain ⟨j, hj, e⟩ := List.mem_iff_getElem.mp hv
        obtain ⟨r, y, er, hy, hr2⟩ := htie.get (List.getElem?_eq_getElem hj)
        rw [← e, er]
        exact ⟨_, tupI_of hr2, rfl, bd_of (by omega) (okA y (List.mem_of_getElem? hy))⟩
      obtain ⟨zs, hz, hzt⟩ := htie.perm hperm
      have risec : Rise (withT n k ts (us.take i)) := withT_rise (fun a ha b hb e => by
        have key : ∀ c, c ∈ ts ++ us.take i → c ∈ ts ++ us := fun c hc => by
          rcases List.mem_append.mp hc with z | z
          · exact List.mem_append.mpr (.inl z)
          · exact List.mem_append.mpr (.inr (List.mem_of_mem_take z))
        exact one a (key a ha) b (key b hb) e) hup
      have ez : zs = insA x (withT n k ts (us.take i)) := sorted_ins hz (sorted_of (K := K) (by omega) hzt (fun y hy => okA y (hz.mem_iff.mp hy)) hsort) risec fun y hy e => hx2 (by rw [← oneTie_cur one hx y hy e]; exact hy)
      subst ez
      have s3 : Same H' (upd (upd (upd H' t (.lst [.ref p])) t2 (.lst (vc ++ [.ref p]))) p2 (.lst ys)) := ((same_new htn).trans (same_new ht2)).trans (same_new hpn)
      refine ⟨_, rfl, n, k, p2, _, rfl, by omega, k1, k2, ⟨ys, upd_same, hzt.same (same_new hpn)⟩, by rw [insA_len]; omega, ?_, fun H4 p4 l4 s4 hp4n hl4n hp4 hl4 => ?_⟩
      · intro y hy
        have o := okA y (hz.mem_iff.mp hy)
        exact ⟨o.a, o.b⟩
      refine ⟨p4, _, _, _, rfl, rfl, SqT.of hp4, atI_nat (j := 2) rfl, l4, _, rfl, sm.trans (s3.trans s4), hl4, (sm.trans s3).free hl4n⟩
  · rintro σ H' ⟨lc, v1, rfl, sm, hrec, hfr⟩
    rw [List.take_of_length_le (by omega)] at hrec
    refine ⟨_, rfl, _, rfl, _, rfl, by show 3 ≤ sizeLine; decide, fun d hd => ?_⟩
    exact q _ d lc (same_upd sm (sm.free hd)) (sm.free hd) hfr upd_same (hrec.same (same_new hd))
theorem eqv_nk (a b : Int) : PyData.eqv (.tuple [.int a, .int b]) (.tuple [.int a, .int b]) = true := eqv_pair a b
abbrev N_laid : List Str := ["net", "other"]
theorem sc_laid : FnScope N_laid ["net", "other"] (defScope s_laid) := ⟨rfl, rfl, rfl, by decide +kernel, rfl, by decide +kernel, by decide +kernel⟩
theorem ok_laid (T : Txt K mg) (C_look_at_net_nets : Cal P w K mg base CX0 "look_at_net_nets" 7 ["thing"] spLookNet) (C_look_for_clash : Cal P w K mg base CX0 "look_for_clash" 1 ["ties", "others"] spClash)
    (C_with_ties : Cal P w K mg base CX0 "with_ties" 6 ["net", "others"] spWith) (F : FunD K "laid" "laid" (defArgs s_laid) (defBody s_laid) (defScope s_laid) [] [] f fd) : FnOk P w K mg base CX0 8 f fd ["net", "other"] spLaid := by
  refine F.ok sc_laid (fun vs H Q E h => ?_) (fun cdv A outer s H vs Q E hr h => ?_)
  · obtain ⟨_, _, _, _, _, _, _, _, rfl, _⟩ := h
    rfl
  obtain ⟨n, k, a, b, l, l2, ts, us, rfl, ha, hb, hl, hl2, o1, o2, hlen, one, q⟩ := h
  have n2 := o1.n2
  refine ⟨_, PSs.nox (pss_cons (ps_expr (pe_cal C_look_at_net_nets (hr.mono (by decide)) pass0 (pa_cons (pv 0) pa_nil)))
      (pss_cons (ps_expr (pe_cal C_look_at_net_nets (hr.mono (by decide)) pass0 (pa_cons (pv 1) pa_nil)))
      (pss_cons (ps_if (pt_cmpR (op_neD hr.units) (pe_slice sl_tup (pv 0) po_none (po_some pe_int)) (pe_slice sl_tup (pv 1) po_none (po_some pe_int)) (nomark _)) pss_never pss_nil)
      (pss_cons (ps_expr (pe_cal C_look_for_clash (hr.mono (by decide)) pass0 (pa_cons (pe_ix ix_tup (pv 0) pe_int (fun _ _ => rfl)) (pa_cons (pe_ix ix_tup (pv 1) pe_int (fun _ _ => rfl)) pa_nil))))
      (pss_one (ps_ret (pe_cal C_with_ties (hr.mono (by decide)) pass0 (pa_cons (pv 0) (pa_cons (pe_ix ix_tup (pv 1) pe_int (fun _ _ => rfl)) pa_nil))))))))), ?_⟩
  refine ⟨_, rfl, n, k, a, l, ts, rfl, ha, hl, o1, fun H1 s1 => ?_⟩
  refine ⟨_, rfl, n, k, b, l2, us, rfl, s1 _ _ hb, hl2.same s1, o2, fun H2 s2 => ?_⟩
  have s12 := s1.trans s2
  have ha2 := s12 _ _ ha
  have hb2 := s12 _ _ hb
  refine ⟨_, rfl, 2, rfl, a, _, rfl, SqT.of ha2, by show ¬ (0 = 0 ∧ 2 = 3); decide, fun p hp => ?_⟩
  have hb3 := same_new (o := .tup (cutV [nV n, nV k, .ref l] none (some 2))) hp _ _ hb2
  refine ⟨_, rfl, 2, rfl, b, _, rfl, SqT.of hb3, by show ¬ (0 = 0 ∧ 2 = 3); decide, fun p2 hp2 => ?_⟩
  have s34 := (same_new (o := .tup (cutV [nV n, nV k, .ref l] none (some 2))) hp).trans (same_new (o := .tup (cutV [nV n, nV k, .ref l2] none (some 2))) hp2)
  refine ⟨_, _, dp_pair (a := n) (b := k) (by rw [upd_ne (ne_of_none upd_same hp2)]; exact upd_same), dp_pair (a := n) (b := k) upd_same, rfl, rfl, _, rfl, ?_⟩
  rw [eqv_pair]
  refine iteF ?_
  have s4 := s12.trans s34
  refine ⟨_, rfl, a, _, _, _, rfl, rfl, SqT.of (s4 _ _ ha), atI_nat (j := 2) rfl, _, rfl, b, _, _, _, rfl, rfl, SqT.of (s4 _ _ hb), atI_nat (j := 2) rfl, ?_⟩
  refine ⟨n, l, l2, ts, us, rfl, by omega, hl.same s4, hl2.same s4, o2.ok, o1.len, o2.len, one, fun H5 s5 => ?_⟩
  have s6 := s4.trans s5
  refine ⟨_, rfl, _, rfl, b, _, _, _, rfl, rfl, SqT.of (s6 _ _ hb), atI_nat (j := 2) rfl, n, k, a, l, l2, ts, us, rfl, o1.n2, o1.k1, o1.k2, s6 _ _ ha, hl.same s6, hl2.same s6, ?_, o1.up, hlen, one, fun H7 p7 l7 s7 h1 h2 h3 h4 => ?_⟩
  · intro x hx
    rcases List.mem_append.mp hx with z | z
    · exact o1.ok x z
    · exact o2.ok x z
  · exact q H7 p7 l7 (s6.trans s7) (s6.free h1) (s6.free h2) h3 h4
abbrev N_net_come : List Str := ["net", "tie"]
theorem sc_net_come : FnScope N_net_come ["net", "tie"] (defScope s_net_come) := ⟨rfl, rfl, rfl, by decide +kernel, rfl, by decide +kernel, by decide +kernel⟩
theorem ok_net_come (T : Txt K mg) (C_look_at_net_nets : Cal P w K mg base CX0 "look_at_net_nets" 7 ["thing"] spLookNet) (C_is_record : Cal P w K mg base CX0 "is_record" 5 ["n", "thing"] spRecord) (C_look_for_clash : Cal P w K mg base CX0 "look_for_clash" 1 ["ties", "others"] spClash)
    (C_with_ties : Cal P w K mg base CX0 "with_ties" 6 ["net", "others"] spWith) (F : FunD K "net_come" "net_come" (defArgs s_net_come) (defBody s_net_come) (defScope s_net_come) [] [] f fd) : FnOk P w K mg base CX0 8 f fd ["net", "tie"] spNetCome := by
  refine F.ok sc_net_come (fun vs H Q E h => ?_) (fun cdv A outer s H vs Q E hr h => ?_)
  · obtain ⟨_, _, _, _, _, _, _, rfl, _⟩ := h
    rfl
  obtain ⟨n, k, a, p, l, ts, x, rfl, ha, hl, hp, o1, ox, hlen, one, q⟩ := h
  have n2 := o1.n2
  have okx : ∀ y ∈ [x], Ok n y := fun y hy => by rw [List.mem_singleton.mp hy]; exact ox
  have upx : Up [x] := List.pairwise_singleton _ _
  refine ⟨_, PSs.nox (pss_cons (ps_expr (pe_cal C_look_at_net_nets (hr.mono (by decide)) pass0 (pa_cons (pv 0) pa_nil)))
      (pss_cons (ps_if (pt_not (pt_val (pe_cal C_is_record (hr.mono (by decide)) pass0 (pa_cons (pe_ix ix_tup (pv 0) pe_int (fun _ _ => rfl)) (pa_cons (pe_lst (pa_cons (pv 1) pa_nil)) pa_nil))))) pss_never pss_nil)
      (pss_cons (ps_expr (pe_cal C_look_for_clash (hr.mono (by decide)) pass0 (pa_cons (pe_ix ix_tup (pv 0) pe_int (fun _ _ => rfl)) (pa_cons (pe_lst (pa_cons (pv 1) pa_nil)) pa_nil))))
      (pss_one (ps_ret (pe_cal C_with_ties (hr.mono (by decide)) pass0 (pa_cons (pv 0) (pa_cons (pe_lst (pa_cons (pv 1) pa_nil)) pa_nil)))))))), ?_⟩
  refine ⟨_, rfl, n, k, a, l, ts, rfl, ha, hl, o1, fun H1 s1 => ?_⟩
  refine ⟨_, rfl, a, _, _, _, rfl, rfl, SqT.of (s1 _ _ ha), atI_nat (j := 0) rfl, _, rfl, by show 1 ≤ sizeLine; decide, fun t htn => ?_⟩
  have s2 := s1.trans (same_new (o := .lst [.ref p]) htn)
  refine ⟨n, t, [x], rfl, ⟨_, upd_same, .one (s2 _ _ hp)⟩, okx, upx, (by show 1 ≤ 60; omega), fun H3 s3 => ⟨true, rfl, iteF ?_⟩⟩
  have s4 := s2.trans s3
  refine ⟨_, rfl, a, _, _, _, rfl, rfl, SqT.of (s4 _ _ ha), atI_nat (j := 2) rfl, _, rfl, by show 1 ≤ sizeLine; decide, fun t2 ht2 => ?_⟩
  have s5 := s4.trans (same_new (o := .lst [.ref p]) ht2)
  refine ⟨n, l, t2, ts, [x], rfl, by omega, hl.same s5, ⟨_, upd_same, .one (s5 _ _ hp)⟩, okx, o1.len, (by show 1 ≤ 60; omega), one, fun H6 s6 => ?_⟩
  have s7 := s5.trans s6
  refine ⟨_, rfl, _, rfl, by show 1 ≤ sizeLine; decide, fun t3 ht3 => ?_⟩
  have s8 := s7.trans (same_new (o := .lst [.ref p]) ht3)
  refine ⟨n, k, a, l, t3, ts, [x], rfl, o1.n2, o1.k1, o1.k2, s8 _ _ ha, hl.same s8, ⟨_, upd_same, .one (s8 _ _ hp)⟩, ?_, o1.up, hlen, one, fun H9 p9 l9 s9 h1 h2 h3 h4 => ?_⟩
  · intro y hy
    rcases List.mem_append.mp hy with z | z
    · exact o1.ok y z
    · exact okx y z
  · exact q H9 p9 l9 (s8.trans s9) (s8.free h1) (s8.free h2) h3 h4
end
end SP
set_option maxRecDepth 100000
set_option maxHeartbeats 4000000
namespace SP
open PySem PySem.Spec PyProof.Rows L2
/-! ### dicts with places as keys -/
abbrev kN (w : Nat) : Key := Sum.inl (w : Int)
theorem valV_in' : ∀ {ws : List Nat} {kvs : List (Key × V)} {w : Nat}, kvs.map (·.1) = ws.map kN → w ∈ ws → ∃ (i : Nat) (v : V), ws[i]? = some w ∧ kvs[i]? = some (kN w, v) ∧ valV kvs (kN w) = some v
  | [], _, _, _, h => nomatch h
  | u :: ws, [], _, e, _ => by cases e
  | u :: ws, (k, v) :: kvs, w, e, h => by
    have e1 : k = kN u := (List.cons.inj e).1
    have e2 : kvs.map (·.1) = ws.map kN := (List.cons.inj e).2
    subst e1
    by_cases hu : u = w
    · subst hu
      exact ⟨0, v, rfl, rfl, valV_pos rfl⟩
    · have hw : w ∈ ws := by
        rcases List.mem_cons.mp h with z | z
        · exact absurd z.symm hu
        · exact z
      obtain ⟨i, v', h1, h2, h3⟩ := valV_in' (ws := ws) (kvs := kvs) e2 hw
      refine ⟨i + 1, v', by simpa using h1, by simpa using h2, ?_⟩
      rw [valV_neg (fun z => hu (by have := Sum.inl.inj z; omega))]
      exact h3
theorem valV_out : ∀ {ws : List Nat} {kvs : List (Key × V)} {w : Nat}, kvs.map (·.1) = ws.map kN → w ∉ ws → valV kvs (kN w) = none
  | [], [], _, _, _ => rfl
  | [], _ :: _, _, e, _ => by cases e
  | u :: ws, [], _, e, _ => by cases e
  | u :: ws, (k, v) :: kvs, w, e, h => by
    have e1 : k = kN u := (List.cons.inj e).1
    have e2 : kvs.map (·.1) = ws.map kN := (List.cons.inj e).2
    subst e1
    rw [valV_neg (fun z => h (by have e3 : u = w := by { have := Sum.inl.inj z; omega }; rw [e3]; exact .head _))]
    exact valV_out e2 fun z => h (.tail _ z)
theorem nodup_le {n : Nat} {ws : List Nat} (nd : ws.Nodup) (h : ∀ w ∈ ws, w < n) : ws.length ≤ n := by
  have := nat_nodup_len ws (List.range n) nd fun w hw => List.mem_range.mpr (h w hw)
  rw [List.length_range] at this
  exact this
structure Came (H : Hp) (n : Nat) (ts : List Tie) (ws : List Nat) (kvs : List (Key × V)) : Prop where
  keys : kvs.map (·.1) = ws.map kN
  lt : ∀ w ∈ ws, w < n
  nd : ws.Nodup
  par : ∀ (i w : Nat) (v : V), ws[i]? = some w → kvs[i]? = some (kN w, v) → (i = 0 ∧ v = .non) ∨ ∃ p x j w', v = .ref p ∧ H p = some (tieO x) ∧ x ∈ ts ∧ j < i ∧ ws[j]? = some w' ∧ ((x.a = w ∧ x.b = w') ∨ (x.a = w' ∧ x.b = w))
theorem Came.tups {H H' : Hp} {n : Nat} {ts : List Tie} {ws : List Nat} {kvs : List (Key × V)} (c : Came H n ts ws kvs) (h : ∀ p x, H p = some (tieO x) → H' p = some (tieO x)) : Came H' n ts ws kvs :=
  ⟨c.keys, c.lt, c.nd, fun i w v h1 h2 => by
    rcases c.par i w v h1 h2 with z | ⟨p, x, j, w', e1, e2, r⟩
    · exact .inl z
    · exact .inr ⟨p, x, j, w', e1, h p x e2, r⟩⟩
theorem Came.len {H : Hp} {n : Nat} {ts : List Tie} {ws : List Nat} {kvs : List (Key × V)} (c : Came H n ts ws kvs) : kvs.length = ws.length := by
  have := congrArg List.length c.keys
  rw [List.length_map, List.length_map] at this
  exact this
theorem Came.add {H : Hp} {n : Nat} {ts : List Tie} {ws : List Nat} {kvs : List (Key × V)} (c : Came H n ts ws kvs) {o p j w' : Nat} {x : Tie} (hp : H p = some (tieO x)) (hx : x ∈ ts) (ho : o < n) (hn : o ∉ ws) (hj : ws[j]? = some w')
    (he : (x.a = o ∧ x.b = w') ∨ (x.a = w' ∧ x.b = o)) : Came H n ts (ws ++ [o]) (kvs ++ [(kN o, .ref p)]) := by
  have hjl : j < ws.length := (List.getElem?_eq_some_iff.mp hj).1
  refine ⟨by rw [List.map_append, List.map_append, c.keys]; rfl, fun w hw => ?_, ?_, fun i w v h1 h2 => ?_⟩
  · rcases List.mem_append.mp hw with z | z
    · exact c.lt w z
    · rw [List.mem_singleton.mp z]; exact ho
  · exact nd_snoc c.nd hn
  · by_cases hi : i < ws.length
    · rw [List.getElem?_append_left hi] at h1
      rw [List.getElem?_append_left (by rw [c.len]; exact hi)] at h2
      rcases c.par i w v h1 h2 with z | ⟨p, x, j, w', e1, e2, e3, e4, e5, r⟩
      · exact .inl z
      · exact .inr ⟨p, x, j, w', e1, e2, e3, e4, by rw [List.getElem?_append_left (by omega)]; exact e5, r⟩
    · have hil : i < (ws ++ [o]).length := (List.getElem?_eq_some_iff.mp h1).1
      rw [List.length_append, List.length_singleton] at hil
      have ei : i = ws.length := by omega
      subst ei
      rw [List.getElem?_concat_length] at h1
      rw [← c.len, List.getElem?_concat_length] at h2
      cases h1
      cases h2
      exact .inr ⟨p, x, j, w', rfl, hp, hx, hjl, by rw [List.getElem?_append_left hjl]; exact hj, he⟩
/-! ### moves.py -/
def spComeTo : Sp := fun vs H Q _ => ∃ (n a : Nat) (l : Addr) (ts : List Tie), vs = [.ref l, nV a] ∧ n ≤ 1000 ∧ a < n ∧ RecAt H l ts ∧ (∀ x ∈ ts, Fits n x) ∧
  ∀ H' d ws kvs, Same H H' → H d = none → H' d = some (.dK kvs) → Came H' n ts ws kvs → ws[0]? = some a → Q (.ref d) H'
section
variable {P : Program} {w : World} {K : PySem.W.Frag} {mg : Str → Option Value} {base : Heap} {f : Addr} {fd : FuncData}
theorem inV_two {u a b : Nat} : inV (nV u) [nV a, nV b] = decide (a = u ∨ b = u) := by
  unfold inV
  have e : ∀ y : Nat, eqV (nV y) (nV u) = decide (y = u) := fun y => by
    show ((y : Int) == (u : Int)) = decide (y = u)
    by_cases h : y = u
    · rw [h, dT rfl]; simp
    · rw [decide_eq_false h, beq_eq_false_iff_ne]
      omega
  simp only [List.any_cons, List.any_nil, e, Bool.or_false]
  by_cases h1 : a = u <;> by_cases h2 : b = u <;> simp [h1, h2]
abbrev N_come_to : List Str := ["ties", "place", "came", "waiting", "at", "tie", "other"]
theorem sc_come_to : FnScope N_come_to ["ties", "place"] (defScope s_come_to) := ⟨rfl, rfl, rfl, by decide +kernel, rfl, by decide +kernel, by decide +kernel⟩
theorem ok_come_to (T : Txt K mg) (F : FunD K "come_to" "come_to" (defArgs s_come_to) (defBody s_come_to) (defScope s_come_to) [] [] f fd) : FnOk P w K mg base CX0 1 f fd ["ties", "place"] spComeTo := by
  refine F.ok sc_come_to (fun vs H Q E h => ?_) (fun cdv A outer s H vs Q E hr h => ?_)
  · obtain ⟨_, _, _, _, rfl, _⟩ := h
    rfl
  obtain ⟨n, a, l, ts, rfl, hn, ha, ⟨us, hl, ht⟩, hfit, q⟩ := h
  have hul := ht.len
  refine ⟨_, PSs.nox (pss_cons (ps_set (i := 2) sc_come_to.nd rfl (Or.inl rfl) (pe_disp (pps_cons (pv 1) pe_non pps_nil) (by rfl) (by rfl) (fun z => by cases z) (by decide)))
      (pss_cons (ps_set (i := 3) sc_come_to.nd rfl (Or.inl rfl) (pe_lst (pa_cons (pv 1) pa_nil)))
      (pss_cons (ps_set (i := 4) sc_come_to.nd rfl (Or.inl rfl) pe_int)
      (pss_cons (ps_while PassesOwn.never (pt_cmpR op_lt (pv 4) (pe_callB call_len_seq (by rfl) T.len (by decide +kernel) (pa_cons (pv 3) pa_nil)) (nomark _))
      (pss_cons (ps_for PassesOwn.never rfl (pi_list (pv 0)) (pg_name (i := 5) sc_come_to.nd rfl (Or.inl rfl))
      (pss_one (ps_if (pt_cmpR op_in_seq (pe_ix ix_list (pv 3) (pv 4) (fun _ _ => rfl)) (pe_slice sl_tup (pv 5) (po_some pe_int) po_none) rfl) (pss_cons (ps_set (i := 6) sc_come_to.nd rfl (Or.inl rfl) (pe_op op_sub (pe_op op_add (pe_ix ix_tup (pv 5) pe_int (fun _ _ => rfl)) (pe_ix ix_tup (pv 5) pe_int (fun _ _ => rfl))) (pe_ix ix_list (pv 3) (pv 4) (fun _ _ => rfl))))
      (pss_one (ps_if (pt_cmp (pc_dnotin (hu_of hr) (pv 6) (pv 2))) (pss_cons (ps_dput (hu_of hr) (pv 2) (pv 6) (pv 5) rfl)
      (pss_one (ps_expr (pe_bm PySem.F.plainAttrs_list PySem.F.slot_list_append PySem.F.type_list_append mt_append (pv 3) (pa_cons (pv 6) pa_nil))))) pss_nil))) pss_nil)))
      (pss_one (ps_aug (i := 4) sc_come_to.nd rfl (Or.inl rfl) pe_int ip_add))))
      (pss_one (ps_ret (pv 2))))))), ?_⟩
  -- came, waiting, at
  refine fun d hd => ⟨_, rfl, upd_same, [(kN a, .non)], rfl, by show 1 ≤ 15; omega, ?_⟩
  have em : mergeK [] [(kN a, V.non)] = [(kN a, V.non)] := rfl
  rw [em]
  refine ⟨_, rfl, by show 1 ≤ sizeLine; decide, fun wl hwl => ?_⟩
  have ndw : d ≠ wl := ne_of_none upd_same hwl
  have sd : Same H (upd (upd H d (.dK [])) d (.dK [(kN a, V.non)])) := same_upd (same_new hd) hd
  have hwl0 : H wl = none := sd.free hwl
  refine ⟨fun m σ H' => ∃ (at_ : Nat) (ws : List Nat) (kvs : List (Key × V)) (v1 v2 : Option V), m = n - at_ ∧ at_ ≤ ws.length ∧ σ = [some (.ref l), some (nV a), some (.ref d), some (.ref wl), some (nV at_), v1, v2] ∧ Same H H' ∧
    H' d = some (.dK kvs) ∧ H' wl = some (.lst (ws.map nV)) ∧ Came H' n ts ws kvs ∧ ws[0]? = some a, ⟨n, 0, [a], [(kN a, .non)], none, none, rfl, Nat.zero_le _, rfl, same_upd sd hwl0, ?_, upd_same, ?_, rfl⟩, ?_⟩
  · rw [upd_ne ndw]
    exact upd_same
  · refine ⟨rfl, fun w hw => by rw [List.mem_singleton.mp hw]; exact ha, by simp, fun i w v h1 h2 => ?_⟩
    have hi : i < 1 := (List.getElem?_eq_some_iff.mp h1).1
    have e : i = 0 := by omega
    subst e
    cases h2
    exact .inl ⟨rfl, rfl⟩
  rintro m σ H' ⟨at_, ws, kvs, v1, v2, rfl, hat, rfl, sm, hkd, hws, cm, w0⟩
  have hwn := nodup_le cm.nd cm.lt
  refine ⟨_, rfl, _, rfl, wl, _, rfl, .inl (SqL.of hws), _, _, rfl, rfl, _, rfl, ite2 (fun c => ?_) (fun c => ?_)⟩
  · have c2 : at_ < ws.length := by
      have := of_decide_eq_true c
      rw [List.length_map] at this
      omega
    refine ⟨fun σ H'' => ∃ (ws : List Nat) (kvs : List (Key × V)) (v1 v2 : Option V), at_ < ws.length ∧ σ = [some (.ref l), some (nV a), some (.ref d), some (.ref wl), some (nV (at_ + 1)), v1, v2] ∧ Same H H'' ∧
      H'' d = some (.dK kvs) ∧ H'' wl = some (.lst (ws.map nV)) ∧ Came H'' n ts ws kvs ∧ ws[0]? = some a, ?_, ?_⟩
    · rintro σ' H'' ⟨ws', kvs', u1, u2, h1, h2, h3, h4, h5, h6, h7⟩
      have := nodup_le h6.nd h6.lt
      exact ⟨n - (at_ + 1), by omega, at_ + 1, ws', kvs', u1, u2, rfl, by omega, h2, h3, h4, h5, h6, h7⟩
    -- for tie in ties
    refine ⟨_, rfl, l, rfl, ⟨_, SqL.of (sm _ _ hl)⟩, for_list (K := K) (a := l) (xs := us) (fun i σ H'' => ∃ (ws : List Nat) (kvs : List (Key × V)) (v1 v2 : Option V), at_ < ws.length ∧ σ = [some (.ref l), some (nV a), some (.ref d), some (.ref wl), some (nV at_), v1, v2] ∧ Same H H'' ∧
      H'' d = some (.dK kvs) ∧ H'' wl = some (.lst (ws.map nV)) ∧ Came H'' n ts ws kvs ∧ ws[0]? = some a) ?_ ?_ ?_ ?_⟩
    · exact ⟨ws, kvs, _, _, c2, rfl, sm, hkd, hws, cm, w0⟩
    · exact fun i σ H'' _ ⟨_, _, _, _, _, _, s, _⟩ => SqL.of (s _ _ hl)
    · rintro i v σ H2 hi ⟨ws, kvs, v1, v2, hat2, rfl, sm, hkd, hws, cm, w0⟩
      obtain ⟨p, x, rfl, hx, hp⟩ := ht.get hi
      have hp' := sm _ _ hp
      have hfx := hfit x (List.mem_of_getElem? hx)
      have hwn := nodup_le cm.nd cm.lt
      have hu : ws[at_]? = some ws[at_] := List.getElem?_eq_getElem hat2
      have hum : (ws.map nV)[at_]? = some (nV ws[at_]) := by rw [List.getElem?_map, hu]; rfl
      generalize ws[at_] = u at hu hum
      have hun : u < n := cm.lt u (List.mem_of_getElem? hu)
      -- if waiting[at] in tie[1:]
      refine ⟨_, rfl, _, rfl, wl, _, _, _, rfl, rfl, SqL.of hws, atI_nat hum, _, rfl, 1, rfl, p, _, rfl, SqT.of hp', by show ¬ (1 = 0 ∧ 3 = 3); decide, fun t htn => ?_⟩
      have s3 : Same H2 (upd H2 t (.tup (cutV [nV x.m, nV x.a, nV x.b] (some 1) none))) := same_new htn
      refine ⟨t, _, rfl, .inr (SqT.of upd_same), rfl, rfl, _, rfl, ?_⟩
      have ecut : cutV [nV x.m, nV x.a, nV x.b] (some 1) none = [nV x.a, nV x.b] := rfl
      rw [ecut] at s3 ⊢
      show if inV (nV u) [nV x.a, nV x.b] = true then _ else _
      rw [inV_two]
      have hkd3 := s3 _ _ hkd
      have hws3 := s3 _ _ hws
      have cm3 : Came (upd H2 t (.tup [nV x.a, nV x.b])) n ts ws kvs := cm.tups fun p y h => s3 _ _ h
      refine ite2 (fun c => ?_) (fun c => ?_)
      · have c3 : x.a = u ∨ x.b = u := of_decide_eq_true c
        -- other
        refine ⟨_, rfl, p, _, _, _, rfl, rfl, SqT.of (s3 _ _ hp'), atI_nat (j := 1) rfl, _, rfl, p, _, _, _, rfl, rfl, SqT.of (s3 _ _ hp'), atI_nat (j := 2) rfl, _, _, rfl, rfl, _, rfl, _, rfl, wl, _, _, _, rfl, rfl, SqL.of hws3, atI_nat hum, _, _, rfl, rfl, ?_⟩
        have eo : ∃ o : Nat, (x.a : Int) + (x.b : Int) - (u : Int) = (o : Int) ∧ o < n ∧ ((x.a = o ∧ x.b = u) ∨ (x.a = u ∧ x.b = o)) := by
          rcases c3 with z | z
          · exact ⟨x.b, by omega, hfx.2, .inr ⟨z, rfl⟩⟩
          · exact ⟨x.a, by omega, hfx.1, .inl ⟨rfl, z⟩⟩
        obtain ⟨o, e1, ho, he⟩ := eo
        show gName 6 (V.int ((x.a : Int) + (x.b : Int) - (u : Int))) _ _ _
        rw [e1]
        refine ⟨_, rfl, _, rfl, d, _, rfl, DGet.k (k := kN o) hkd3, _, rfl, ?_⟩
        by_cases hmem : o ∈ ws
        · obtain ⟨_, v, _, _, e3⟩ := valV_in' cm.keys hmem
          rw [e3]
          exact iteF ⟨ws, kvs, _, _, hat2, rfl, sm.trans s3, hkd3, hws3, cm3, w0⟩
        · have e3 := valV_out cm.keys hmem
          rw [e3]
          refine iteT ⟨_, rfl, _, rfl, _, rfl, d, _, rfl, DPut.k (k := kN o) hkd3 (small1000 (by rw [cm.len]; omega)), ?_⟩
          rw [putK_new _ e3]
          have hws4 : upd (upd H2 t (.tup [nV x.a, nV x.b])) d (.dK (kvs ++ [(kN o, V.ref p)])) wl = some (.lst (ws.map nV)) := by
            rw [upd_ne ndw.symm]
            exact hws3
          refine ⟨_, rfl, .inl ⟨rfl, _, SqL.of hws4⟩, _, rfl, wl, _, _, rfl, rfl, hws4, small1000 (by rw [List.length_map]; omega), ?_⟩
          refine ⟨ws ++ [o], kvs ++ [(kN o, V.ref p)], _, _, by rw [List.length_append]; omega, rfl, same_upd (same_upd (sm.trans s3) hd) hwl0, ?_, ?_, ?_, ?_⟩
          · rw [upd_ne ndw]
            exact upd_same
          · rw [upd_same, List.map_append]
            rfl
          · refine Came.add (p := p) (j := at_) (w' := u) (cm3.tups fun r y h => ?_) ?_ (List.mem_of_getElem? hx) ho hmem hu he
            · rw [upd_ne (ne_of h hws3 (by intro z; cases z)), upd_ne (ne_of h hkd3 (by intro z; cases z))]
              exact h
            · rw [upd_ne (ne_of (s3 _ _ hp') hws3 (by intro z; cases z)), upd_ne (ne_of (s3 _ _ hp') hkd3 (by intro z; cases z))]
              exact s3 _ _ hp'
          · rw [List.getElem?_append_left (by omega)]
            exact w0
      · exact ⟨ws, kvs, _, _, hat2, rfl, sm.trans s3, hkd3, hws3, cm3, w0⟩
    · rintro σ H2 ⟨ws, kvs, v1, v2, hat2, rfl, sm, hkd, hws, cm, w0⟩
      exact ⟨_, rfl, _, _, rfl, rfl, ws, kvs, v1, v2, hat2, rfl, sm, hkd, hws, cm, w0⟩
  · exact ⟨_, rfl, q H' d ws kvs sm hd hkd cm w0⟩
def spRing : Sp := fun vs H Q _ => ∃ (n : Nat) (l p : Addr) (ts : List Tie) (x : Tie), vs = [.ref l, .ref p] ∧ n ≤ 900 ∧ RecAt H l ts ∧ (∀ y ∈ ts, Ok n y) ∧ H p = some (tieO x) ∧ Ok n x ∧
  ∀ H' r us, Same H H' → H r = none → RecAt H' r us → (∀ y ∈ us, Ok n y) → (ts = [] → x.a ≠ x.b → us = []) → us.length ≤ 1000 → Q (.ref r) H'
def MovOk (y : Tie) : Prop := y.m ≤ 10 ^ 30 ∧ y.a ≤ 10 ∧ y.b ≤ 10
def spMoves : Sp := fun vs H Q _ => ∃ (n k : Nat) (l p : Addr) (ts : List Tie) (x : Tie), vs = [nV n, .ref l, nV k, .ref p] ∧ n ≤ 900 ∧ 1 ≤ k ∧ k ≤ 6 ∧ RecAt H l ts ∧ ts.length ≤ 60 ∧ (∀ y ∈ ts, Ok n y) ∧ H p = some (tieO x) ∧ Ok n x ∧ (∀ y ∈ ts, y.m ≠ x.m) ∧
  ∀ H' r ms, Same H H' → H r = none → RecAt H' r ms → (∀ y ∈ ms, MovOk y) → ms.head? = some ⟨x.m, 0, 1⟩ → (ts = [] → x.a ≠ x.b → ms = [⟨x.m, 0, 1⟩]) → ms.length ≤ 10 → Q (.ref r) H'
abbrev N_ring_with : List Str := ["ties", "tie", "came", "ring", "place"]
theorem sc_ring_with : FnScope N_ring_with ["ties", "tie"] (defScope s_ring_with) := ⟨rfl, rfl, rfl, by decide +kernel, rfl, by decide +kernel, by decide +kernel⟩
theorem ok_ring_with (T : Txt K mg) (C_come_to : Cal P w K mg base CX0 "come_to" 1 ["ties", "place"] spComeTo) (F : FunD K "ring_with" "ring_with" (defArgs s_ring_with) (defBody s_ring_with) (defScope s_ring_with) [] [] f fd) : FnOk P w K mg base CX0 2 f fd ["ties", "tie"] spRing := by
  refine F.ok sc_ring_with (fun vs H Q E h => ?_) (fun cdv A outer s H vs Q E hr h => ?_)
  · obtain ⟨_, _, _, _, _, rfl, _⟩ := h
    rfl
  obtain ⟨n, l, p, ts, x, rfl, hn, hl, hok, hp, ox, q⟩ := h
  refine ⟨_, PSs.nox (pss_cons (ps_set (i := 2) sc_ring_with.nd rfl (Or.inl rfl) (pe_cal C_come_to (hr.mono (by decide)) pass0 (pa_cons (pv 0) (pa_cons (pe_ix ix_tup (pv 1) pe_int (fun _ _ => rfl)) pa_nil))))
      (pss_cons (ps_if (pt_cmp (pc_dnotin (hu_of hr) (pe_ix ix_tup (pv 1) pe_int (fun _ _ => rfl)) (pv 2))) (pss_one (ps_ret (pe_lst pa_nil))) pss_nil)
      (pss_cons (ps_set (i := 3) sc_ring_with.nd rfl (Or.inl rfl) (pe_lst (pa_cons (pv 1) pa_nil)))
      (pss_cons (ps_set (i := 4) sc_ring_with.nd rfl (Or.inl rfl) (pe_ix ix_tup (pv 1) pe_int (fun _ _ => rfl)))
      (pss_cons (ps_while PassesOwn.never (pt_cmpR op_notN (pe_dget (hu_of hr) (pv 2) (pv 4) (fun _ _ => rfl)) pe_non (nomark _))
      (pss_cons (ps_expr (pe_bm PySem.F.plainAttrs_list PySem.F.slot_list_append PySem.F.type_list_append mt_append (pv 3) (pa_cons (pe_dget (hu_of hr) (pv 2) (pv 4) (fun _ _ => rfl)) pa_nil)))
      (pss_one (ps_set (i := 4) sc_ring_with.nd rfl (Or.inl rfl) (pe_op op_sub (pe_op op_add (pe_ix ix_tup (pe_dget (hu_of hr) (pv 2) (pv 4) (fun _ _ => rfl)) pe_int (fun _ _ => rfl)) (pe_ix ix_tup (pe_dget (hu_of hr) (pv 2) (pv 4) (fun _ _ => rfl)) pe_int (fun _ _ => rfl))) (pv 4))))))
      (pss_one (ps_ret (pv 3)))))))), ?_⟩
  refine ⟨_, rfl, _, rfl, p, _, _, _, rfl, rfl, SqT.of hp, atI_nat (j := 1) rfl, n, x.a, l, ts, rfl, by omega, ox.a, hl, fun y hy => ⟨(hok y hy).a, (hok y hy).b⟩, fun H1 d ws kvs s1 hdn hkd cm w0 => ?_⟩
  refine ⟨_, rfl, p, _, _, _, rfl, rfl, SqT.of (s1 _ _ hp), atI_nat (j := 2) rfl, _, rfl, d, _, rfl, DGet.k (k := kN x.b) hkd, _, rfl, ?_⟩
  by_cases hmem : x.b ∈ ws
  · obtain ⟨i0, v0, hi0, _, e3⟩ := valV_in' cm.keys hmem
    rw [e3]
    refine iteF ?_
    have hwl := nodup_le cm.nd cm.lt
    -- ring, place
    refine ⟨_, rfl, by show 1 ≤ sizeLine; decide, fun r hrn => ?_⟩
    have s2 : Same H1 (upd H1 r (.lst [.ref p])) := same_new hrn
    have hr0 : H r = none := s1.free hrn
    refine ⟨_, rfl, p, _, _, _, rfl, rfl, SqT.of (s2 _ _ (s1 _ _ hp)), atI_nat (j := 2) rfl, ?_⟩
    refine ⟨fun m σ H' => ∃ (w : Nat) (us : List Tie), ws[m]? = some w ∧ σ = [some (.ref l), some (.ref p), some (.ref d), some (.ref r), some (nV w)] ∧ Same H1 H' ∧ RecAt H' r us ∧ (∀ y ∈ us, Ok n y) ∧ us ≠ [] ∧ us.length + m ≤ ws.length, ⟨i0, x.b, [x], hi0, rfl, s2, ⟨_, upd_same, .one (s2 _ _ (s1 _ _ hp))⟩, fun y hy => by rw [List.mem_singleton.mp hy]; exact ox, by simp, ?_⟩, ?_⟩
    · have : i0 < ws.length := (List.getElem?_eq_some_iff.mp hi0).1
      show 1 + i0 ≤ ws.length
      omega
    rintro m σ H' ⟨w, us, hw, rfl, sm, ⟨vu, hvu, hut⟩, huo, hne, hlen⟩
    have hkd' := sm _ _ hkd
    have hut' := hut.len
    obtain ⟨i1, v, hi1, hk1, e4⟩ := valV_in' cm.keys (List.mem_of_getElem? hw)
    have ei : i1 = m := nd_ix cm.nd hi1 hw
    subst ei
    have gt : DGet H' d (.int (w : Int)) (some v) := by
      have := DGet.k (k := kN w) hkd'
      rw [e4] at this
      exact this
    refine ⟨_, rfl, _, rfl, d, _, rfl, gt, rfl, _, rfl, ?_⟩
    rcases cm.par i1 w v hi1 hk1 with ⟨z1, z2⟩ | ⟨p', y, j, w', ev, hp', hy, hj, hw', he⟩
    · subst z2
      refine iteF ⟨_, rfl, ?_⟩
      have hl1 : us.length ≤ 1000 := by omega
      refine q H' r us (s1.trans sm) hr0 ⟨vu, hvu, hut⟩ huo (fun e1 e2 => ?_) hl1
      exfalso
      subst e1
      -- nothing but the first place is come to
      have h0 : ∀ (i u : Nat), ws[i]? = some u → i = 0 := fun i u hu => by
        have hi : i < ws.length := (List.getElem?_eq_some_iff.mp hu).1
        have hik : i < kvs.length := by rw [cm.len]; exact hi
        have ek : kvs[i]? = some (kN u, kvs[i].2) := by
          have e5 : (kvs.map (·.1))[i]? = (ws.map kN)[i]? := by rw [cm.keys]
          rw [List.getElem?_map, List.getElem?_map, hu, List.getElem?_eq_getElem hik] at e5
          rw [List.getElem?_eq_getElem hik]
          have e6 : kvs[i].1 = kN u := Option.some.inj e5
          rw [← e6]
        rcases cm.par i u _ hu ek with z | ⟨_, _, _, _, _, _, z, _⟩
        · exact z.1
        · cases z
      have := h0 i0 _ hi0
      subst this
      rw [w0] at hi0
      exact e2 (Option.some.inj hi0)
    · subst ev
      refine iteT ⟨fun σ H'' => ∃ (w : Nat) (us : List Tie), ws[j]? = some w ∧ σ = [some (.ref l), some (.ref p), some (.ref d), some (.ref r), some (nV w)] ∧ Same H1 H'' ∧ RecAt H'' r us ∧ (∀ y ∈ us, Ok n y) ∧ us ≠ [] ∧ us.length + j ≤ ws.length, fun σ' H'' h => ⟨j, hj, h⟩, ?_⟩
      have oy := hok y hy
      have hp2 := sm _ _ hp'
      refine ⟨_, rfl, .inl ⟨rfl, _, SqL.of hvu⟩, _, rfl, _, rfl, d, _, rfl, gt, r, _, _, rfl, rfl, hvu, small1000 (by omega), ?_⟩
      have ndr : d ≠ r := ne_of_none hkd hrn
      have gt2 : DGet (upd H' r (.lst (vu ++ [.ref p']))) d (.int (w : Int)) (some (.ref p')) := by
        have := DGet.k (k := kN w) (show upd H' r (.lst (vu ++ [.ref p'])) d = some (.dK kvs) by rw [upd_ne ndr]; exact hkd')
        rw [e4] at this
        exact this
      have hp3 : upd H' r (.lst (vu ++ [.ref p'])) p' = some (tieO y) := by
        rw [upd_ne (ne_of hp2 hvu (by intro z; cases z))]
        exact hp2
      refine ⟨_, rfl, _, rfl, d, _, rfl, gt2, p', _, _, _, rfl, rfl, SqT.of hp3, atI_nat (j := 1) rfl, _, rfl, _, rfl, d, _, rfl, gt2, p', _, _, _, rfl, rfl, SqT.of hp3, atI_nat (j := 2) rfl, _, _, rfl, rfl, _, rfl, _, _, rfl, rfl, ?_⟩
      show gName 4 (V.int ((y.a : Int) + (y.b : Int) - (w : Int))) _ _ _
      have e1 : (y.a : Int) + (y.b : Int) - (w : Int) = (w' : Int) := by
        rcases he with ⟨z1, z2⟩ | ⟨z1, z2⟩ <;> omega
      rw [e1]
      refine ⟨w', us ++ [y], hw', rfl, same_upd sm hrn, ⟨_, upd_same, (hut.put hvu).app (.one hp3)⟩, ?_, by simp, by rw [List.length_append, List.length_singleton]; omega⟩
      intro z hz
      rcases List.mem_append.mp hz with h | h
      · exact huo z h
      · rw [List.mem_singleton.mp h]; exact oy
  · have e3 := valV_out cm.keys hmem
    rw [e3]
    refine iteT ⟨Nat.zero_le _, fun r hrn => ?_⟩
    exact q _ r [] (same_upd s1 (s1.free hrn)) (s1.free hrn) ⟨[], upd_same, .nil⟩ (fun y hy => nomatch hy) (fun _ _ => rfl) (Nat.zero_le _)
theorem alike_ties (ts : List Tie) : PySem.W.AlikeAll (ts.map pd) := by
  refine ⟨fun x hx y hy => ?_, fun x hx e => ?_⟩
  · obtain ⟨a, _, rfl⟩ := List.mem_map.mp hx
    obtain ⟨b, _, rfl⟩ := List.mem_map.mp hy
    rfl
  · obtain ⟨a, _, rfl⟩ := List.mem_map.mp hx
    cases e
theorem eqv_nil (us : List Tie) : PyData.eqv (.list (us.map pd)) (.list []) = us.isEmpty := by
  cases us with
  | nil => rfl
  | cons x us => rfl
theorem inV_moments {ts : List Tie} {m : Nat} (h : ∀ y ∈ ts, y.m ≠ m) : inV (nV m) (ts.map fun y => nV y.m) = false := by
  unfold inV
  rw [List.any_eq_false]
  intro v hv
  obtain ⟨y, hy, rfl⟩ := List.mem_map.mp hv
  intro e
  have e2 : ((y.m : Int) == (m : Int)) = true := e
  have := eq_of_beq e2
  exact h y hy (by omega)
theorem flat_moments {ts : List Tie} : (ts.map fun y => nV y.m).all flatV = true := by
  rw [List.all_eq_true]
  intro v hv
  obtain ⟨y, _, rfl⟩ := List.mem_map.mp hv
  rfl
theorem TsAt.memb {H : Hp} {vs : List V} {ts : List Tie} (h : TsAt H vs ts) {v : V} (hv : v ∈ vs) : ∃ p x, v = .ref p ∧ x ∈ ts ∧ H p = some (tieO x) := by
  obtain ⟨i, hi, e⟩ := List.mem_iff_getElem.mp hv
  obtain ⟨p, x, e1, e2, e3⟩ := h.get (List.getElem?_eq_getElem hi)
  rw [e] at e1
  exact ⟨p, x, e1, List.mem_of_getElem? e2, e3⟩
abbrev N_moves : List Str := ["n", "record", "k", "tie", "numbers", "told", "layer", "ring", "moment", "a", "b", "one", "number"]
theorem sc_moves : FnScope N_moves ["n", "record", "k", "tie"] (defScope s_moves) := ⟨rfl, rfl, rfl, by decide +kernel, rfl, by decide +kernel, by decide +kernel⟩
theorem ok_moves (T : Txt K mg) (C_layered : Cal P w K mg base CX0 "layered" 4 ["n", "record", "k"] spLayered) (C_is_record : Cal P w K mg base CX0 "is_record" 5 ["n", "thing"] spRecord) (C_ring_with : Cal P w K mg base CX0 "ring_with" 2 ["ties", "tie"] spRing)
    (F : FunD K "moves" "moves" (defArgs s_moves) (defBody s_moves) (defScope s_moves) [] [] f fd) : FnOk P w K mg base CX0 6 f fd ["n", "record", "k", "tie"] spMoves := by
  refine F.ok sc_moves (fun vs H Q E h => ?_) (fun cdv A outer s H vs Q E hr h => ?_)
  · obtain ⟨_, _, _, _, _, _, rfl, _⟩ := h
    rfl
  obtain ⟨n, k, l, p, ts, x, rfl, hn, k1, k2, hl, hlen, hok, hp, ox, hnew, q⟩ := h
  have okx : ∀ y ∈ [x], Ok n y := fun y hy => by rw [List.mem_singleton.mp hy]; exact ox
  have upx : Up [x] := List.pairwise_singleton _ _
  refine ⟨_, PSs.nox (pss_cons (ps_set (i := 4) sc_moves.nd rfl (Or.inl rfl) (pe_cal C_layered (hr.mono (by decide)) pass0 (pa_cons (pv 0) (pa_cons (pv 1) (pa_cons (pv 2) pa_nil)))))
      (pss_cons (ps_if (pt_not (pt_val (pe_cal C_is_record (hr.mono (by decide)) pass0 (pa_cons (pv 0) (pa_cons (pe_lst (pa_cons (pv 3) pa_nil)) pa_nil))))) pss_never pss_nil)
      (pss_cons (ps_if (pt_cmpR op_in_seq (pe_ix ix_tup (pv 3) pe_int (fun _ _ => rfl)) (pe_lc (own := [("moment", 8), ("a", 9), ("b", 10)]) rfl sc_moves.nd (pi_list (pv 1)) (blkOk_by (own := [("moment", 8), ("a", 9), ("b", 10)]) (N := N_moves) (sc := defScope s_moves) (by decide +kernel)) (fun _ _ _ _ _ => (pg_tupK K (n := 3) rfl (pgs_cons (pg_name (i := 8) sc_moves.nd rfl (Or.inl rfl)) (pgs_cons (pg_name (i := 9) sc_moves.nd rfl (Or.inl rfl)) (pgs_cons (pg_name (i := 10) sc_moves.nd rfl (Or.inl rfl)) pgs_nil))))) (fun _ _ _ _ _ => pts_nil) (fun _ _ _ _ _ => (pv 8))) rfl) pss_never pss_nil)
      (pss_cons (ps_set (i := 5) sc_moves.nd rfl (Or.inl rfl) (pe_lst (pa_cons (pe_tup (pa_cons (pe_ix ix_tup (pv 3) pe_int (fun _ _ => rfl)) (pa_cons pe_int (pa_cons pe_int pa_nil)))) pa_nil)))
      (pss_cons (ps_for PassesOwn.never rfl (pi_range2 (by rfl) T.range (pa_cons pe_int (pa_cons (pe_op op_add (pv 2) pe_int) pa_nil))) (pg_name (i := 6) sc_moves.nd rfl (Or.inr rfl))
      (pss_cons (ps_set (i := 7) sc_moves.nd rfl (Or.inl rfl) (pe_cal C_ring_with (hr.mono (by decide)) pass0 (pa_cons (pe_lc (own := [("one", 11), ("number", 12)]) rfl sc_moves.nd (pi_zip (by rfl) T.zip (pa_cons (pv 1) (pa_cons (pv 4) pa_nil))) (blkOk_by (own := [("one", 11), ("number", 12)]) (N := N_moves) (sc := defScope s_moves) (by decide +kernel)) (fun _ _ _ _ _ => (pg_tupK K (n := 2) rfl (pgs_cons (pg_name (i := 11) sc_moves.nd rfl (Or.inl rfl)) (pgs_cons (pg_name (i := 12) sc_moves.nd rfl (Or.inl rfl)) pgs_nil)))) (fun _ _ _ _ _ => pts_one (pt_cmpR op_eq (pv 12) (pv 6) (nomark _))) (fun _ _ _ _ _ => (pv 11))) (pa_cons (pv 3) pa_nil))))
      (pss_cons (ps_if (pt_cmpR (op_eqD hr.units) (pv 7) (pe_lst pa_nil) (nomark _)) (pss_one (ps_ret (pv 5))) pss_nil)
      (pss_cons (ps_set (i := 3) sc_moves.nd rfl (Or.inl rfl) (pe_callB (cr_minD hr.units rfl) (by rfl) T.min (by decide +kernel) (pa_cons (pv 7) pa_nil)))
      (pss_one (ps_expr (pe_bm PySem.F.plainAttrs_list PySem.F.slot_list_append PySem.F.type_list_append mt_append (pv 5) (pa_cons (pe_tup (pa_cons (pe_ix ix_tup (pv 3) pe_int (fun _ _ => rfl)) (pa_cons (pv 6) (pa_cons (pe_op op_modN (pe_op op_add (pv 6) pe_int) (pe_op op_add (pv 2) pe_int)) pa_nil)))) pa_nil))))))))
      (pss_one (ps_ret (pv 5)))))))), ?_⟩
  refine ⟨_, rfl, _, rfl, _, rfl, n, k, l, ts, rfl, by omega, k1, k2, hl, by omega, fun y hy => ⟨(hok y hy).a, (hok y hy).b⟩, fun H1 nb s1 hnbn hnb => ?_⟩
  -- is_record(n, [tie])
  refine ⟨_, rfl, _, rfl, by show 1 ≤ sizeLine; decide, fun t htn => ?_⟩
  have s2 := s1.trans (same_new (o := .lst [.ref p]) htn)
  have hnb2 := same_new (o := .lst [.ref p]) htn _ _ hnb
  refine ⟨n, t, [x], rfl, ⟨_, upd_same, .one (s2 _ _ hp)⟩, okx, upx, (by show 1 ≤ 60; omega), fun H3 s3 => ⟨true, rfl, iteF ?_⟩⟩
  have s4 := s2.trans s3
  have hnb4 := s3 _ _ hnb2
  obtain ⟨us, hl4, ht⟩ := hl.same s4
  have hul := ht.len
  -- tie[0] in [moment ..]
  refine ⟨_, rfl, p, _, _, _, rfl, rfl, SqT.of (s4 _ _ hp), atI_nat (j := 0) rfl, _, rfl, l, rfl, ⟨_, SqL.of hl4⟩, fun D hD => ?_⟩
  refine lc_list (K := K) (a := l) (xs := us) (fun i H' => Same H3 H' ∧ H' D = some (.lst ((ts.take i).map fun y => nV y.m))) ⟨same_new hD, upd_same⟩ (fun i H' _ ⟨sm, _⟩ => SqL.of (sm _ _ hl4)) ?_ ?_
  · rintro i v H' hi ⟨sm, hacc⟩
    obtain ⟨r, y, rfl, hy, hr2⟩ := ht.get hi
    have hi2 : i < ts.length := (List.getElem?_eq_some_iff.mp hy).1
    refine ⟨r, _, rfl, SqT.of (sm _ _ hr2), rfl, _, _, rfl, _, _, rfl, _, _, rfl, rfl, rfl, ?_⟩
    refine ⟨_, rfl, _, hacc, small1000 (by rw [List.length_map, List.length_take]; omega), same_upd sm hD, ?_⟩
    rw [upd_same, take_succ hy, List.map_append]
    rfl
  rintro H5 ⟨s5, hacc⟩
  rw [List.take_of_length_le (by omega)] at hacc
  refine ⟨D, _, rfl, .inl (SqL.of hacc), rfl, flat_moments, false, ?_, iteF ?_⟩
  · show V.bl (inV (nV x.m) (ts.map fun y => nV y.m)) = V.bl false
    rw [inV_moments hnew]
  have s6 := s4.trans s5
  have hnb6 := s5 _ _ hnb4
  -- told
  refine ⟨_, rfl, p, _, _, _, rfl, rfl, SqT.of (s6 _ _ hp), atI_nat (j := 0) rfl, by show 3 ≤ sizeLine; decide, fun m0 hm0 => ⟨by show 1 ≤ sizeLine; decide, fun r hrn => ?_⟩⟩
  have s7 : Same H5 (upd H5 m0 (.tup [nV x.m, V.int 0, V.int 1])) := same_new hm0
  have s8 := same_new (o := .lst [.ref m0]) hrn
  have s9 := s6.trans (s7.trans s8)
  have hr0 : H r = none := (s6.trans s7).free hrn
  have hnb9 := s8 _ _ (s7 _ _ hnb6)
  have nnr : nb ≠ r := ne_of_none (s7 _ _ hnb6) hrn
  refine ⟨_, rfl, _, _, rfl, rfl, 1, _, rfl, ⟨by decide, by decide, by omega, by omega⟩, ?_⟩
  refine for_range (lo := 1) (n := (((k : Int) + 1) - 1).toNat) (fun i σ H' => ∃ (py : Addr) (y : Tie) (v1 v2 : Option V) (ms : List Tie), σ = [some (nV n), some (.ref l), some (nV k), some (.ref py), some (.ref nb), some (.ref r), v1, v2, none, none, none, none, none] ∧ Same H H' ∧
    H' nb = some (.lst ((layeredN jn n k ts).map nV)) ∧ H' py = some (tieO y) ∧ Ok n y ∧ RecAt H' r ms ∧ (∀ z ∈ ms, MovOk z) ∧ ms.head? = some ⟨x.m, 0, 1⟩ ∧ ms.length = i + 1 ∧ (i = 0 → y = x ∧ ms = [⟨x.m, 0, 1⟩]) ∧ (0 < i → ¬ (ts = [] ∧ x.a ≠ x.b))) ?_ ?_ ?_
  · refine ⟨p, x, _, _, [⟨x.m, 0, 1⟩], rfl, s9, hnb9, s9 _ _ hp, ox, ⟨_, upd_same, .one ?_⟩, fun z hz => ?_, rfl, rfl, fun _ => ⟨rfl, rfl⟩, fun h => absurd h (Nat.lt_irrefl _)⟩
    · rw [upd_ne (ne_of_none upd_same hrn)]
      exact upd_same
    · rw [List.mem_singleton.mp hz]
      exact ⟨ox.m, by show 0 ≤ 10; omega, by show 1 ≤ 10; omega⟩
  · rintro i σ H' hi ⟨py, y, v1, v2, ms, rfl, sm, hnb', hpy, oy, ⟨vm, hvm, hmt⟩, hmo, hhd, hml, hi0, hip⟩
    have hik : i < k := by omega
    obtain ⟨us', hl', ht'⟩ := hl.same sm
    have hul' := ht'.len
    have hmtl := hmt.len
    -- the ties of the layer
    refine ⟨_, rfl, _, rfl, l, nb, us', _, rfl, SqL.of hl', SqL.of hnb', fun D2 hD2 => ?_⟩
    have hnl : ((layeredN jn n k ts).map nV).length = ts.length := by rw [List.length_map, layeredN_len]
    have hD20 : H D2 = none := sm.free hD2
    refine lc_it (walk_zip (K := K) (a := l) (b := nb) (xs := us') (ys := (layeredN jn n k ts).map nV) (n := ts.length) (by rw [hnl, hul', Nat.min_self]))
      (fun j H2 => Same H' H2 ∧ ∃ acc us, H2 D2 = some (.lst acc) ∧ TsAt H2 acc us ∧ (∀ z ∈ us, z ∈ ts) ∧ acc.length ≤ j) ?_ ?_ ?_ ?_
    · exact ⟨same_new hD2, [], [], upd_same, .nil, fun z hz => (nomatch hz), Nat.le_refl _⟩
    · exact fun j H2 _ ⟨sm2, _⟩ => ⟨SqL.of (sm2 _ _ hl'), SqL.of (sm2 _ _ hnb')⟩
    · rintro j v H2 H3 hj ⟨sm2, acc, us, hacc2, ta, hus, hal⟩ ⟨t2, a1, b1, rfl, ht2n, rfl, ha1, hb1⟩
      obtain ⟨pt, z, rfl, hz, hpt⟩ := ht'.get ha1
      have hb2 : ∃ c : Nat, b1 = nV c := by
        have hb3 : ((layeredN jn n k ts).map nV)[j]? = some b1 := hb1
        obtain ⟨c, _, e⟩ := List.mem_map.mp (List.mem_of_getElem? hb3)
        exact ⟨c, e.symm⟩
      obtain ⟨c0, rfl⟩ := hb2
      have sm3 : Same H' (upd H2 t2 (.tup [.ref pt, nV c0])) := sm2.trans (same_new ht2n)
      have hacc3 := same_new (o := .tup [.ref pt, nV c0]) ht2n _ _ hacc2
      have ta3 := ta.same (same_new (o := .tup [.ref pt, nV c0]) ht2n)
      refine ⟨t2, _, rfl, SqT.of upd_same, rfl, _, _, rfl, _, _, rfl, rfl, rfl, ?_⟩
      refine ⟨_, rfl, _, rfl, rfl, _, rfl, ite2 (fun c => ?_) (fun c => ?_)⟩
      · refine ⟨_, rfl, acc, hacc3, small1000 (by omega), same_upd sm3 hD2, _, us ++ [z], upd_same, (ta3.put hacc3).app (.one ?_), ?_, by rw [List.length_append, List.length_singleton]; omega⟩
        · rw [upd_ne (ne_of (sm3 _ _ hpt) hacc3 (by intro z; cases z))]
          exact sm3 _ _ hpt
        · intro u hu
          rcases List.mem_append.mp hu with h | h
          · exact hus u h
          · rw [List.mem_singleton.mp h]
            exact List.mem_of_getElem? hz
      · exact ⟨sm3, acc, us, hacc3, ta3, hus, by omega⟩
    rintro H2 ⟨sm2, acc, us, hacc2, ta, hus, hal⟩
    refine ⟨_, rfl, n, D2, py, us, y, rfl, hn, ⟨acc, hacc2, ta⟩, fun z hz => hok z (hus z hz), sm2 _ _ hpy, oy, fun H3 rg ur s3 hrgn hrg huro hur0 hurl => ?_⟩
    have smA := sm.trans (sm2.trans s3)
    obtain ⟨vr, hvr, hrt⟩ := hrg
    have hvm3 := s3 _ _ (sm2 _ _ hvm)
    have hmt3 := (hmt.same sm2).same s3
    -- ring == []
    refine ⟨_, rfl, Nat.zero_le _, fun e0 he0 => ?_⟩
    have s10 := same_new (o := .lst []) he0
    refine ⟨_, _, .lst (SqL.of (s10 _ _ hvr)) (dp_ties (hrt.same s10)), .lst (SqL.of upd_same) .nil, shaped_ties _, rfl, _, rfl, ?_⟩
    rw [eqv_nil]
    cases hur : ur with
    | nil =>
      refine iteT ⟨_, rfl, ?_⟩
      refine q _ r ms (smA.trans s10) hr0 ⟨vm, s10 _ _ hvm3, hmt3.same s10⟩ hmo hhd (fun e1 e2 => ?_) (by omega)
      by_cases hi00 : i = 0
      · exact (hi0 hi00).2
      · exact absurd ⟨e1, e2⟩ (hip (by omega))
    | cons u0 ur' =>
      subst hur
      refine iteF ?_
      -- tie = min(ring)
      have hrt10 := hrt.same s10
      refine ⟨_, rfl, rg, vr, pd u0, ur'.map pd, rfl, SqL.of (s10 _ _ hvr), dp_ties hrt10, shaped_ties (u0 :: ur'), alike_ties (u0 :: ur'), Nat.le_trans (dep_ties (u0 :: ur')) (by omega), fun v hv => ?_⟩
      obtain ⟨pv, z, rfl, hz, hpv⟩ := hrt10.memb hv
      have oz := huro z hz
      have hvm10 := s10 _ _ hvm3
      -- told.append(..)
      refine ⟨_, rfl, .inl ⟨rfl, _, SqL.of hvm10⟩, _, rfl, pv, _, _, _, rfl, rfl, SqT.of hpv, atI_nat (j := 0) rfl, _, rfl, _, rfl, _, _, rfl, rfl, _, rfl, _, _, rfl, rfl, _, _, rfl, rfl, by omega, by show 3 ≤ sizeLine; decide, fun mv hmv => ?_⟩
      have s11 := same_new (o := .tup [nV z.m, V.int ((1 : Int) + (i : Nat)), V.int (((1 : Int) + (i : Nat) + 1).fmod ((k : Int) + 1))]) hmv
      refine ⟨r, _, _, rfl, rfl, s11 _ _ hvm10, small1000 (by omega), ?_⟩
      have ef : ((1 : Int) + (i : Nat) + 1).fmod ((k : Int) + 1) = (((i + 2) % (k + 1) : Nat) : Int) := by
        rw [Int.fmod_eq_emod_of_nonneg _ (by omega)]
        have e1 : (1 : Int) + (i : Nat) + 1 = ((i + 2 : Nat) : Int) := by omega
        have e2 : (k : Int) + 1 = ((k + 1 : Nat) : Int) := by omega
        rw [e1, e2]
        exact (Int.natCast_emod _ _).symm
      have e1 : (1 : Int) + (i : Nat) = ((i + 1 : Nat) : Int) := by omega
      have hmod : (i + 2) % (k + 1) ≤ 10 := by
        have := Nat.mod_lt (i + 2) (show 0 < k + 1 by omega)
        omega
      have etup : (HO.tup [nV z.m, V.int ((1 : Int) + (i : Nat)), V.int (((1 : Int) + (i : Nat) + 1).fmod ((k : Int) + 1))]) = tieO ⟨z.m, i + 1, (i + 2) % (k + 1)⟩ := by
        rw [ef, e1]
        rfl
      refine ⟨pv, z, _, _, ms ++ [⟨z.m, i + 1, (i + 2) % (k + 1)⟩], rfl, same_upd ((smA.trans s10).trans s11) hr0, ?_, ?_, oz, ⟨_, upd_same, ?_⟩, ?_, ?_, ?_, ?_, ?_⟩
      · rw [upd_ne nnr]
        exact s11 _ _ (s10 _ _ (s3 _ _ (sm2 _ _ hnb')))
      · rw [upd_ne (ne_of (s11 _ _ hpv) (s11 _ _ hvm10) (by intro z; cases z))]
        exact s11 _ _ hpv
      · refine (((hmt3.same s10).same s11).put (s11 _ _ hvm10)).app (.one ?_)
        rw [upd_ne (ne_of_none hvm10 hmv).symm, upd_same]
        exact congrArg some etup
      · intro u hu
        rcases List.mem_append.mp hu with h | h
        · exact hmo u h
        · rw [List.mem_singleton.mp h]
          exact ⟨oz.m, by show i + 1 ≤ 10; omega, hmod⟩
      · rw [List.head?_append, hhd]
        rfl
      · rw [List.length_append, List.length_singleton]
        omega
      · exact fun h => absurd h (Nat.succ_ne_zero _)
      · rintro - ⟨e1, e2⟩
        by_cases hi00 : i = 0
        · have ey := (hi0 hi00).1
          subst ey
          have eus : us = [] := by
            cases us with
            | nil => rfl
            | cons z _ =>
              have := hus z (.head _)
              rw [e1] at this
              cases this
          exact absurd (hur0 eus e2) (by simp)
        · exact hip (by omega) ⟨e1, e2⟩
  · rintro σ H' ⟨py, y, v1, v2, ms, rfl, sm, hnb', hpy, oy, hms, hmo, hhd, hml, hi0, hip⟩
    refine ⟨_, rfl, q H' r ms sm hr0 hms hmo hhd (fun e1 e2 => ?_) (by omega)⟩
    by_cases hi00 : (((k : Int) + 1) - 1).toNat = 0
    · exact (hi0 hi00).2
    · exact absurd ⟨e1, e2⟩ (hip (by omega))
end
end SP
set_option maxRecDepth 100000
set_option maxHeartbeats 4000000
namespace SP
open PySem PySem.Spec PyProof.Rows L2
/-! ### what may change: the cells of M; a tuple never does -/
def Fr (M : List Addr) (H H' : Hp) : Prop := ∀ b o, H b = some o → (b ∈ M → ∃ xs, o = .tup xs) → H' b = some o
theorem Fr.of {M : List Addr} {H H' : Hp} (s : Same H H') : Fr M H H' := fun b o e _ => s b o e
theorem Fr.trans {M : List Addr} {H H1 H2 : Hp} (a : Fr M H H1) (b : Fr M H1 H2) : Fr M H H2 := fun c o e h => b c o (a c o e h) h
theorem Fr.upd {M : List Addr} {H : Hp} {a : Addr} {o u : HO} (h : a ∈ M) (ha : H a = some u) (hu : ∀ xs, u ≠ .tup xs) : Fr M H (L2.upd H a o) := fun b v e hm => by
  by_cases z : b = a
  · subst z
    rw [ha] at e
    cases e
    obtain ⟨xs, q⟩ := hm h
    exact absurd q (hu xs)
  · rw [upd_ne z]
    exact e
theorem Fr.mono {M N : List Addr} {H H' : Hp} (a : Fr M H H') (h : ∀ b ∈ M, b ∈ N) : Fr N H H' := fun b o e hm => a b o e fun z => hm (h b z)
theorem Fr.tup {M : List Addr} {H H' : Hp} (a : Fr M H H') {p : Addr} {xs : List V} (h : H p = some (.tup xs)) : H' p = some (.tup xs) := a p _ h fun _ => ⟨xs, rfl⟩
theorem Fr.at {M : List Addr} {H H' : Hp} (a : Fr M H H') {p : Addr} {o : HO} (hp : p ∉ M) (h : H p = some o) : H' p = some o := a p _ h fun z => absurd z hp
theorem TsAt.fr {M : List Addr} {H H' : Hp} (a : Fr M H H') : ∀ {vs : List V} {ts : List Tie}, TsAt H vs ts → TsAt H' vs ts
  | _, _, .nil => .nil
  | _, _, .cons h t => .cons (a.tup h) (t.fr a)
theorem RecAt.fr {M : List Addr} {H H' : Hp} {l : Addr} {ts : List Tie} (a : Fr M H H') (hl : l ∉ M) (r : RecAt H l ts) : RecAt H' l ts := let ⟨vs, h, t⟩ := r; ⟨vs, a.at hl h, t.fr a⟩
/-- there or free: what is fresh behind was free ahead -/
theorem Fr.dom {M : List Addr} {H H' : Hp} (a : Fr M H H') {b : Addr} (h : H' b = none) (hb : b ∉ M) : H b = none := by
  cases e : H b with
  | none => rfl
  | some o => rw [a.at hb e] at h; cases h
/-! ### the keeper -/
structure KS where
  n : Nat
  k : Nat
  kept : List Tie
  first : Nat
  past : List (List Tie × Nat)
def NetD (H : Hp) (L : Addr → Prop) (a : Addr) (n k : Nat) (ts : List Tie) : Prop := ∃ l, H a = some (netO n k l) ∧ L l ∧ RecAt H l ts
theorem NetD.fr {M : List Addr} {H H' : Hp} {L : Addr → Prop} {a : Addr} {n k : Nat} {ts : List Tie} (f : Fr M H H') (hM : ∀ l, L l → l ∉ M) (d : NetD H L a n k ts) : NetD H' L a n k ts := let ⟨l, h1, h2, h3⟩ := d; ⟨l, f.tup h1, h2, h3.fr f (hM l h2)⟩
theorem NetD.mono {H : Hp} {L L' : Addr → Prop} {a : Addr} {n k : Nat} {ts : List Tie} (hL : ∀ l, L l → H l ≠ none → L' l) (d : NetD H L a n k ts) : NetD H L' a n k ts := let ⟨l, h1, h2, h3⟩ := d; ⟨l, h1, hL l h2 (by obtain ⟨vs, e, _⟩ := h3; rw [e]; simp), h3⟩
inductive PastAt (H : Hp) (L : Addr → Prop) (n k : Nat) : List V → List (List Tie × Nat) → Prop where
  | nil : PastAt H L n k [] []
  | cons {q ka : Addr} {ts : List Tie} {f : Nat} {vs : List V} {es : List (List Tie × Nat)} : H q = some (.tup [.ref ka, nV f]) → NetD H L ka n k ts → PastAt H L n k vs es → PastAt H L n k (.ref q :: vs) ((ts, f) :: es)
theorem PastAt.fr {M : List Addr} {H H' : Hp} {L : Addr → Prop} {n k : Nat} (f : Fr M H H') (hM : ∀ l, L l → l ∉ M) : ∀ {vs : List V} {es : List (List Tie × Nat)}, PastAt H L n k vs es → PastAt H' L n k vs es
  | _, _, .nil => .nil
  | _, _, .cons h1 h2 t => .cons (f.tup h1) (h2.fr f hM) (t.fr f hM)
theorem PastAt.mono {H : Hp} {L L' : Addr → Prop} {n k : Nat} (hL : ∀ l, L l → H l ≠ none → L' l) : ∀ {vs : List V} {es : List (List Tie × Nat)}, PastAt H L n k vs es → PastAt H L' n k vs es
  | _, _, .nil => .nil
  | _, _, .cons h1 h2 t => .cons h1 (h2.mono hL) (t.mono hL)
theorem PastAt.app {H : Hp} {L : Addr → Prop} {n k : Nat} {q ka : Addr} {ts : List Tie} {f : Nat} (h1 : H q = some (.tup [.ref ka, nV f])) (h2 : NetD H L ka n k ts) : ∀ {vs : List V} {es : List (List Tie × Nat)}, PastAt H L n k vs es → PastAt H L n k (vs ++ [.ref q]) (es ++ [(ts, f)])
  | _, _, .nil => .cons h1 h2 .nil
  | _, _, .cons a b t => .cons a b (t.app h1 h2)
theorem PastAt.len {H : Hp} {L : Addr → Prop} {n k : Nat} : ∀ {vs : List V} {es : List (List Tie × Nat)}, PastAt H L n k vs es → vs.length = es.length
  | _, _, .nil => rfl
  | _, _, .cons _ _ t => congrArg (· + 1) t.len
/-- the last one -/
theorem PastAt.last {H : Hp} {L : Addr → Prop} {n k : Nat} {ts : List Tie} {f : Nat} : ∀ {es : List (List Tie × Nat)} {vs : List V}, PastAt H L n k vs (es ++ [(ts, f)]) → ∃ q ka, vs[vs.length - 1]? = some (.ref q) ∧ H q = some (.tup [.ref ka, nV f]) ∧ NetD H L ka n k ts ∧ PastAt H L n k vs.dropLast es
  | [], _, .cons (q := q) (ka := ka) h1 h2 .nil => ⟨q, ka, rfl, h1, h2, .nil⟩
  | e :: es, _, .cons (vs := vs) h1 h2 t => by
    obtain ⟨q, ka, a, b, c, d⟩ := PastAt.last (es := es) t
    have hl : vs.length = (es ++ [(ts, f)]).length := t.len
    rw [List.length_append, List.length_singleton] at hl
    have hne : vs ≠ [] := fun z => by rw [z] at hl; simp at hl
    refine ⟨q, ka, ?_, b, c, ?_⟩
    · rw [List.length_cons, Nat.add_sub_cancel]
      cases hv : vs with
      | nil => exact absurd hv hne
      | cons y ys =>
        rw [hv] at a
        exact a
    · rw [List.dropLast_cons_of_ne_nil hne]
      exact .cons h1 h2 d
def kf (ka : Addr) (f : Nat) (pl : Addr) : List (Str × V) := [("kept", .ref ka), ("first", nV f), ("past", .ref pl)]
theorem skf : ¬ (("kept" : Str) = "first") := by decide +kernel
theorem skp : ¬ (("kept" : Str) = "past") := by decide +kernel
theorem sfp : ¬ (("first" : Str) = "past") := by decide +kernel
theorem sfk : ¬ (("first" : Str) = "kept") := fun e => skf e.symm
theorem spk : ¬ (("past" : Str) = "kept") := fun e => skp e.symm
theorem spf : ¬ (("past" : Str) = "first") := fun e => sfp e.symm
theorem kf_kept (ka kb : Addr) (f : Nat) (pl : Addr) : putF "kept" (.ref kb) (kf ka f pl) = kf kb f pl := by
  show (if ("kept" : Str) = "kept" then (("kept" : Str), V.ref kb) :: [("first", nV f), ("past", .ref pl)] else _) = _
  rw [if_pos rfl]
  rfl
theorem kf_first (ka : Addr) (f g : Nat) (pl : Addr) : putF "first" (nV g) (kf ka f pl) = kf ka g pl := by
  show (if ("kept" : Str) = "first" then _ else (("kept" : Str), V.ref ka) :: (if ("first" : Str) = "first" then (("first" : Str), nV g) :: [("past", .ref pl)] else _)) = _
  rw [if_neg skf, if_pos rfl]
  rfl
theorem kf_init (ka : Addr) (f : Nat) (pl : Addr) : putF "past" (.ref pl) (putF "first" (nV f) (putF "kept" (.ref ka) [])) = kf ka f pl := by
  show putF "past" (.ref pl) (if ("kept" : Str) = "first" then _ else (("kept" : Str), V.ref ka) :: [("first", nV f)]) = _
  rw [if_neg skf]
  show (if ("kept" : Str) = "past" then _ else (("kept" : Str), V.ref ka) :: (if ("first" : Str) = "past" then _ else (("first" : Str), nV f) :: [("past", .ref pl)])) = _
  rw [if_neg skp, if_neg sfp]
  rfl
theorem lk_cons {g f : Str} {v : V} {r : List (Str × V)} : List.lookup g ((f, v) :: r) = if g = f then some v else List.lookup g r := by
  rw [List.lookup_cons]
  by_cases h : g = f
  · rw [if_pos h, h]
    simp
  · rw [if_neg h]
    have : (g == f) = false := by simpa using h
    rw [this]
theorem lk_kept (ka : Addr) (f : Nat) (pl : Addr) : (kf ka f pl).lookup ("kept" : Str) = some (.ref ka) := by
  unfold kf
  rw [lk_cons, if_pos rfl]
theorem lk_first (ka : Addr) (f : Nat) (pl : Addr) : (kf ka f pl).lookup ("first" : Str) = some (nV f) := by
  unfold kf
  rw [lk_cons, if_neg sfk, lk_cons, if_pos rfl]
theorem lk_past (ka : Addr) (f : Nat) (pl : Addr) : (kf ka f pl).lookup ("past" : Str) = some (.ref pl) := by
  unfold kf
  rw [lk_cons, if_neg spk, lk_cons, if_neg spf, lk_cons, if_pos rfl]
theorem lk_no (ka : Addr) (f : Nat) (pl : Addr) {m : Str} (h1 : ¬ m = "kept") (h2 : ¬ m = "first") (h3 : ¬ m = "past") : (kf ka f pl).lookup m = none := by
  unfold kf
  rw [lk_cons, if_neg h1, lk_cons, if_neg h2, lk_cons, if_neg h3]
  rfl
/-- the keeper at kp, its past at pl, its nets' lists among L -/
structure KpAt (H : Hp) (C kp pl : Addr) (L : Addr → Prop) (st : KS) : Prop where
  ex : ∃ dx ka vs, H kp = some (.ins C dx (kf ka st.first pl)) ∧ NetD H L ka st.n st.k st.kept ∧ H pl = some (.lst vs) ∧ PastAt H L st.n st.k vs st.past.reverse
  no : ¬ L pl
theorem KpAt.fr {M : List Addr} {H H' : Hp} {C kp pl : Addr} {L : Addr → Prop} {st : KS} (f : Fr M H H') (h1 : kp ∉ M) (h2 : pl ∉ M) (hM : ∀ l, L l → l ∉ M) (a : KpAt H C kp pl L st) : KpAt H' C kp pl L st := by
  obtain ⟨⟨dx, ka, vs, e1, e2, e3, e4⟩, no⟩ := a
  exact ⟨⟨dx, ka, vs, f.at h1 e1, e2.fr f hM, f.at h2 e3, e4.fr f hM⟩, no⟩
theorem KpAt.mono {H : Hp} {C kp pl : Addr} {L L' : Addr → Prop} {st : KS} (hL : ∀ l, L l → H l ≠ none → L' l) (hp : ¬ L' pl) (a : KpAt H C kp pl L st) : KpAt H C kp pl L' st := by
  obtain ⟨⟨dx, ka, vs, e1, e2, e3, e4⟩, no⟩ := a
  exact ⟨⟨dx, ka, vs, e1, e2.mono hL, e3, e4.mono hL⟩, hp⟩
structure KOk (st : KS) : Prop where
  net : NetOk st.n st.k st.kept
  past : ∀ e ∈ st.past, NetOk st.n st.k e.1
  first : st.first ≤ 10 ^ 30
  few : st.past.length ≤ 900
structure KTxt (K : PySem.W.Frag) (mg : Str → Option Value) (C : Addr) : Prop where
  cl : Cls K C
  nK : NoAttr K C "kept"
  nF : NoAttr K C "first"
  nP : NoAttr K C "past"
  g : mg "Keeper" = some (.ref C)
structure NTxt (K : PySem.W.Frag) (mg : Str → Option Value) (C : Addr) : Prop where
  g : mg "NoDeed" = some (.ref C)
  ex : PySem.W.excIn K C He.veBase "ValueError.__new__" = true
  kp : PySem.W.keepIn K (.ref C) = true
  sub : PySem.W.subIn K (.ref C) (.type "BaseException") = some true
  ty : PySem.W.typeIn K (.ref C) = some (.type "type")
  exm : PySem.W.exmOne K (.ref C) (.ref C) = some true
def comeT (st : KS) (x : Tie) : KS := { st with kept := netA st.n st.k (insA x st.kept), past := (st.kept, st.first) :: st.past }
def forgetT (st : KS) (t : Nat) : KS := { st with kept := sinceD (max t st.first) st.kept, first := max t st.first, past := (st.kept, st.first) :: st.past }
def layT (st : KS) (us : List Tie) : KS := { st with kept := withT st.n st.k st.kept (sinceD st.first us), past := (st.kept, st.first) :: st.past }
def turnT (st : KS) (ts : List Tie) (f : Nat) : KS := { st with kept := ts, first := f, past := (st.kept, st.first) :: st.past }
def spKInit (C : Addr) : Sp := fun vs H Q _ => ∃ (p dx : Addr) (n k : Nat), vs = [.ref p, nV n, nV k] ∧ 1 ≤ n ∧ n ≤ 10 ∧ 1 ≤ k ∧ k ≤ 6 ∧ H p = some (.ins C dx []) ∧
  ∀ H' pl, Fr [p] H H' → H pl = none → KpAt H' C p pl (fun l => H l = none ∧ l ≠ pl) ⟨n, k, [], 0, []⟩ → Q .non H'
def spTurn (C : Addr) : Sp := fun vs H Q _ => ∃ (kp pl ka : Addr) (L : Addr → Prop) (st : KS) (f : Nat) (ts : List Tie), vs = [.ref kp, .ref ka, nV f] ∧ KpAt H C kp pl L st ∧ NetD H L ka st.n st.k ts ∧ st.past.length ≤ 990 ∧
  ∀ H', Fr [kp, pl] H H' → KpAt H' C kp pl L (turnT st ts f) → Q .non H'
def spCome (C : Addr) : Sp := fun vs H Q _ => ∃ (kp pl p : Addr) (L : Addr → Prop) (st : KS) (x : Tie), vs = [.ref kp, .ref p] ∧ KpAt H C kp pl L st ∧ KOk st ∧ (∀ l, H l = none → L l) ∧ H p = some (tieO x) ∧ Ok st.n x ∧ st.first ≤ x.m ∧ st.kept.length + 1 ≤ 60 ∧ (∀ y ∈ st.kept, y.m ≠ x.m) ∧
  ∀ H' r ms, Fr [kp, pl] H H' → H r = none → RecAt H' r ms → (∀ y ∈ ms, MovOk y) → ms.head? = some ⟨x.m, 0, 1⟩ → (st.kept = [] → x.a ≠ x.b → ms = [⟨x.m, 0, 1⟩]) → ms.length ≤ 10 → KpAt H' C kp pl L (comeT st x) → Q (.ref r) H'
def spForget (C : Addr) : Sp := fun vs H Q _ => ∃ (kp pl : Addr) (L : Addr → Prop) (st : KS) (t : Nat), vs = [.ref kp, nV t] ∧ t ≤ 10 ^ 30 ∧ KpAt H C kp pl L st ∧ KOk st ∧ (∀ l, H l = none → L l) ∧
  ∀ H', Fr [kp, pl] H H' → KpAt H' C kp pl L (forgetT st t) → Q .non H'
def spLay (C : Addr) : Sp := fun vs H Q _ => ∃ (kp pl b l2 : Addr) (L : Addr → Prop) (st : KS) (us : List Tie), vs = [.ref kp, .ref b] ∧ KpAt H C kp pl L st ∧ KOk st ∧ (∀ l, H l = none → L l) ∧ H b = some (netO st.n st.k l2) ∧ RecAt H l2 us ∧ NetOk st.n st.k us ∧
  st.kept.length + us.length ≤ 60 ∧ OneTie (st.kept ++ us) ∧ ∀ H', Fr [kp, pl] H H' → KpAt H' C kp pl L (layT st us) → Q .non H'
def spBack (C CN : Addr) : Sp := fun vs H Q E => ∃ (kp pl : Addr) (L : Addr → Prop) (st : KS), vs = [.ref kp] ∧ KpAt H C kp pl L st ∧ KOk st ∧
  (st.past = [] → ∀ H', Same H H' → E (.ref CN) none H') ∧ ∀ ts f r, st.past = (ts, f) :: r → ∀ H', Fr [kp, pl] H H' → KpAt H' C kp pl L { st with kept := ts, first := f, past := r } → Q .non H'
def spNet (C : Addr) : Sp := fun vs H Q _ => ∃ (kp pl : Addr) (L : Addr → Prop) (st : KS), vs = [.ref kp] ∧ KpAt H C kp pl L st ∧ st.kept.length ≤ 900 ∧
  ∀ H' q l', Same H H' → H q = none → H l' = none → H' q = some (netO st.n st.k l') → RecAt H' l' st.kept → Q (.ref q) H'
section
variable {P : Program} {w : World} {K : PySem.W.Frag} {mg : Str → Option Value} {base : Heap} {f C CN : Addr} {fd : FuncData}
abbrev N_is_moment_keeper : List Str := ["thing"]
theorem sc_is_moment_keeper : FnScope N_is_moment_keeper ["thing"] (defScope s_is_moment_keeper) := ⟨rfl, rfl, rfl, by decide +kernel, rfl, by decide +kernel, by decide +kernel⟩
theorem ok_is_moment_keeper (T : Txt K mg) (F : FunD K "is_moment" "is_moment" (defArgs s_is_moment_keeper) (defBody s_is_moment_keeper) (defScope s_is_moment_keeper) [] [] f fd) : FnOk P w K mg base CX0 1 f fd ["thing"] spMoment := by
  refine F.ok sc_is_moment_keeper (fun vs H Q E h => ?_) (fun cdv A outer s H vs Q E hr h => ?_)
  · obtain ⟨_, rfl, _⟩ := h
    rfl
  obtain ⟨i, rfl, q⟩ := h
  refine ⟨_, PSs.nox (pss_one (ps_ret (pe_and (pe_callB call_isi (by rfl) T.isinstance (by decide +kernel) (pa_cons (pv 0) (pa_cons (pe_bltn (v := .ty "int") (by rfl) T.int (by decide +kernel) rfl) pa_nil))) (pe_and (pe_not (pe_callB call_isi (by rfl) T.isinstance (by decide +kernel) (pa_cons (pv 0) (pa_cons (pe_bltn (v := .ty "bool") (by rfl) T.bool (by decide +kernel) rfl) pa_nil)))) (pe_one (pe_chain op_le op_le pe_int (pv 0) (pe_g T.LAST))))))), ?_⟩
  refine ⟨_, rfl, _, _, _, _, true, rfl, .ty _, .base (.int _), kit_ty (by decide +kernel), _, rfl, iteT ?_⟩
  refine ⟨_, rfl, _, _, _, _, false, rfl, .ty _, .base (.int _), kit_ty (by decide +kernel), _, rfl, _, rfl, iteT ?_⟩
  refine ⟨_, rfl, _, _, rfl, rfl, _, rfl, ite2 (fun c => ?_) (fun c => ?_)⟩
  · refine ⟨_, _, rfl, rfl, ?_⟩
    rw [c] at q
    exact q
  · have c2 : decide (0 ≤ i) = false := eq_false_of_ne_true c
    rw [c2] at q
    exact q
theorem inits_nil {n k : Nat} : 0 ∉ layeredN jn n k [] := fun h => nomatch h
abbrev N_KeeperInit : List Str := ["self", "n", "k"]
theorem sc_KeeperInit : FnScope N_KeeperInit ["self", "n", "k"] (defScope s_KeeperInit) := ⟨rfl, rfl, rfl, by decide +kernel, rfl, by decide +kernel, by decide +kernel⟩
theorem ok_KeeperInit (T : Txt K mg) (KT : KTxt K mg C) (C_record_of : Cal P w K mg base CX0 "record_of" 4 ["n", "things"] spRecordOf) (C_layered : Cal P w K mg base CX0 "layered" 4 ["n", "record", "k"] spLayered)
    (F : FunD K "__init__" "Keeper.__init__" (defArgs s_KeeperInit) (defBody s_KeeperInit) (defScope s_KeeperInit) [] [] f fd) : FnOk P w K mg base CX0 5 f fd ["self", "n", "k"] (spKInit C) := by
  refine F.ok sc_KeeperInit (fun vs H Q E h => ?_) (fun cdv A outer s H vs Q E hr h => ?_)
  · obtain ⟨_, _, _, _, rfl, _⟩ := h
    rfl
  obtain ⟨p, dx, n, k, rfl, n1, n2, k1, k2, hp, q⟩ := h
  refine ⟨_, PSs.nox (pss_cons (ps_expr (pe_cal C_record_of (hr.mono (by decide)) pass0 (pa_cons (pv 1) (pa_cons (pe_lst pa_nil) pa_nil))))
      (pss_cons (ps_expr (pe_cal C_layered (hr.mono (by decide)) pass0 (pa_cons (pv 1) (pa_cons (pe_lst pa_nil) (pa_cons (pv 2) pa_nil)))))
      (pss_cons (ps_fld (pv 0) (pe_tup (pa_cons (pv 1) (pa_cons (pv 2) (pa_cons (pe_lst pa_nil) pa_nil)))) rfl)
      (pss_cons (ps_fld (pv 0) pe_int rfl)
      (pss_one (ps_fld (pv 0) (pe_lst pa_nil) rfl)))))), ?_⟩
  refine ⟨_, rfl, Nat.zero_le _, fun e1 he1 => ⟨n, e1, rfl, n1, n2, upd_same, fun H2 v s2 => ?_⟩⟩
  have sA : Same H H2 := (same_new he1).trans s2
  refine ⟨_, rfl, Nat.zero_le _, fun e3 he3 => ⟨_, rfl, n, k, e3, [], rfl, by omega, k1, k2, ⟨[], upd_same, .nil⟩, Nat.zero_le _, fun x hx => (nomatch hx), fun H4 q4 s4 _ _ => ?_⟩⟩
  have sB : Same H H4 := sA.trans ((same_new he3).trans s4)
  -- self.kept = (n, k, [])
  refine ⟨_, rfl, _, rfl, Nat.zero_le _, fun l hl => ⟨by show 3 ≤ sizeLine; decide, fun ka hka => ?_⟩⟩
  have s5 := same_new (o := .lst []) hl
  have s6 := same_new (o := .tup [nV n, nV k, .ref l]) hka
  have hp6 := s6 _ _ (s5 _ _ (sB _ _ hp))
  refine ⟨_, rfl, p, C, dx, _, rfl, hp6, KT.cl, KT.nK, by show 0 < 1000; decide, ?_⟩
  refine ⟨_, rfl, p, C, dx, _, rfl, upd_same, KT.cl, KT.nF, by show 1 < 1000; decide, ?_⟩
  refine ⟨Nat.zero_le _, fun pl hpl => ?_⟩
  have npl : p ≠ pl := ne_of_none upd_same hpl
  rw [upd_upd] at hpl ⊢
  rw [upd_ne npl.symm] at hpl
  refine ⟨_, rfl, p, C, dx, _, rfl, by rw [upd_ne npl]; exact upd_same, KT.cl, KT.nP, by
    show (putF "first" (V.int 0) (putF "kept" (.ref ka) [])).length < 1000
    show (if ("kept" : Str) = "first" then _ else (("kept" : Str), V.ref ka) :: [("first", V.int 0)]).length < 1000
    rw [if_neg skf]
    show 2 < 1000
    decide, ?_⟩
  have ek : putF "past" (.ref pl) (putF "first" (V.int 0) (putF "kept" (.ref ka) [])) = kf ka 0 pl := kf_init ka 0 pl
  rw [ek]
  have nka : p ≠ ka := ne_of hp6 upd_same (by intro z; cases z)
  have nlp : l ≠ p := (ne_of_none (sB _ _ hp) hl).symm
  have npka : pl ≠ ka := (ne_of_none upd_same hpl).symm
  have npll : pl ≠ l := (ne_of_none (s6 _ _ upd_same) hpl).symm
  have nkal : ka ≠ l := (ne_of_none upd_same hka).symm
  have sC : Same H (upd (upd H4 l (.lst [])) ka (.tup [nV n, nV k, .ref l])) := sB.trans (s5.trans s6)
  have hpl0 : H pl = none := sC.free hpl
  have hl0 : H l = none := sB.free hl
  refine q _ pl ?_ hpl0 ⟨⟨dx, ka, [], upd_same, ⟨l, ?_, ⟨hl0, npll.symm⟩, [], ?_, .nil⟩, ?_, .nil⟩, fun z => z.2 rfl⟩
  · intro b o e hm
    by_cases z : b = p
    · subst z
      rw [hp] at e
      cases e
      obtain ⟨xs, z⟩ := hm (.head _)
      cases z
    · rw [upd_ne z, upd_ne (ne_of_none e hpl0), upd_ne z]
      exact sC _ _ e
  · rw [upd_ne nka.symm, upd_ne npka.symm, upd_ne nka.symm]
    exact upd_same
  · rw [upd_ne nlp, upd_ne npll.symm, upd_ne nlp, upd_ne nkal.symm]
    exact upd_same
  · rw [upd_ne npl.symm]
    exact upd_same
abbrev N_Keeper_turn : List Str := ["self", "kept", "first"]
theorem sc_Keeper_turn : FnScope N_Keeper_turn ["self", "kept", "first"] (defScope s_Keeper_turn) := ⟨rfl, rfl, rfl, by decide +kernel, rfl, by decide +kernel, by decide +kernel⟩
theorem ok_Keeper_turn (T : Txt K mg) (KT : KTxt K mg C) (F : FunD K "turn" "Keeper.turn" (defArgs s_Keeper_turn) (defBody s_Keeper_turn) (defScope s_Keeper_turn) [] [] f fd) : FnOk P w K mg base CX0 1 f fd ["self", "kept", "first"] (spTurn C) := by
  refine F.ok sc_Keeper_turn (fun vs H Q E h => ?_) (fun cdv A outer s H vs Q E hr h => ?_)
  · obtain ⟨_, _, _, _, _, _, _, rfl, _⟩ := h
    rfl
  obtain ⟨kp, pl, ka', L, st, g, ts, rfl, ⟨⟨dx, ka, us, hkp, hnd, hpl, hpast⟩, hno⟩, hnd', hfew, q⟩ := h
  have hul := hpast.len
  rw [List.length_reverse] at hul
  refine ⟨_, PSs.nox (pss_cons (ps_expr (pe_bm PySem.F.plainAttrs_list PySem.F.slot_list_append PySem.F.type_list_append mt_append (pe_fld (pv 0) rfl) (pa_cons (pe_tup (pa_cons (pe_fld (pv 0) rfl) (pa_cons (pe_fld (pv 0) rfl) pa_nil))) pa_nil)))
      (pss_cons (ps_fld (pv 0) (pv 1) rfl)
      (pss_one (ps_fld (pv 0) (pv 2) rfl)))), ?_⟩
  refine ⟨_, rfl, kp, C, dx, _, _, rfl, hkp, KT.cl, KT.nP, lk_past _ _ _, .inl ⟨rfl, _, SqL.of hpl⟩, _, rfl, kp, C, dx, _, _, rfl, hkp, KT.cl, KT.nK, lk_kept _ _ _, _, rfl, kp, C, dx, _, _, rfl, hkp, KT.cl, KT.nF, lk_first _ _ _, by show 2 ≤ sizeLine; decide, fun t ht => ?_⟩
  have s1 := same_new (o := .tup [.ref ka, nV st.first]) ht
  refine ⟨pl, _, _, rfl, rfl, s1 _ _ hpl, small1000 (by omega), ?_⟩
  have nkp : kp ≠ pl := ne_of hkp hpl (by intro z; cases z)
  refine ⟨_, rfl, _, rfl, kp, C, dx, _, rfl, by rw [upd_ne nkp]; exact s1 _ _ hkp, KT.cl, KT.nK, by show 3 < 1000; decide, ?_⟩
  rw [kf_kept]
  refine ⟨_, rfl, _, rfl, kp, C, dx, _, rfl, upd_same, KT.cl, KT.nF, by show 3 < 1000; decide, ?_⟩
  rw [upd_upd, kf_first]
  have fr1 : Fr [kp, pl] H (upd (upd (upd H t (.tup [.ref ka, nV st.first])) pl (.lst (us ++ [.ref t]))) kp (.ins C dx (kf ka' g pl))) := by
    refine (Fr.of s1).trans ((Fr.upd (by simp) (s1 _ _ hpl) (by intro xs z; cases z)).trans (Fr.upd (u := .ins C dx (kf ka st.first pl)) (by simp) ?_ (by intro xs z; cases z)))
    rw [upd_ne nkp]
    exact s1 _ _ hkp
  -- lists among L are neither the past nor the keeper
  have nd : ∀ {a : Addr} {zs : List Tie}, NetD H L a st.n st.k zs → NetD (upd (upd (upd H t (.tup [.ref ka, nV st.first])) pl (.lst (us ++ [.ref t]))) kp (.ins C dx (kf ka' g pl))) L a st.n st.k zs := fun {a zs} d => by
    obtain ⟨l, h1, h2, vs, h3, h4⟩ := d
    refine ⟨l, fr1.tup h1, h2, vs, ?_, h4.fr fr1⟩
    rw [upd_ne (ne_of h3 hkp (by intro z; cases z)), upd_ne (show l ≠ pl from fun z => hno (by rw [← z]; exact h2))]
    exact s1 _ _ h3
  have pd : ∀ {vs : List V} {es : List (List Tie × Nat)}, PastAt H L st.n st.k vs es → PastAt (upd (upd (upd H t (.tup [.ref ka, nV st.first])) pl (.lst (us ++ [.ref t]))) kp (.ins C dx (kf ka' g pl))) L st.n st.k vs es := by
    intro vs es d
    induction d with
    | nil => exact .nil
    | cons h1 h2 _ ih => exact .cons (fr1.tup h1) (nd h2) ih
  refine q _ fr1 ⟨⟨dx, ka', _, upd_same, nd hnd', by rw [upd_ne nkp.symm]; exact upd_same, ?_⟩, hno⟩
  show PastAt _ L st.n st.k (us ++ [.ref t]) ((st.kept, st.first) :: st.past).reverse
  rw [List.reverse_cons]
  refine (pd hpast).app ?_ (nd hnd)
  rw [upd_ne (ne_of_none hkp ht).symm, upd_ne (ne_of_none hpl ht).symm]
  exact upd_same
theorem withT_one {n k : Nat} {ts : List Tie} {x : Tie} (h : ∀ y ∈ ts, y.m ≠ x.m) : withT n k ts [x] = netA n k (insA x ts) := by
  show (if x ∈ ts then ts else netA n k (insA x ts)) = _
  rw [if_neg fun z => h x z rfl]
theorem one_new {ts : List Tie} {x : Tie} (h1 : Up ts) (h2 : ∀ y ∈ ts, y.m ≠ x.m) : OneTie (ts ++ [x]) := by
  have key : ∀ a ∈ ts, ∀ b ∈ ts, a.m = b.m → a = b := fun a ha b hb e => by
    obtain ⟨i, hi, ea⟩ := List.mem_iff_getElem.mp ha
    obtain ⟨j, hj, eb⟩ := List.mem_iff_getElem.mp hb
    have hp := List.pairwise_iff_getElem.mp h1
    rcases Nat.lt_trichotomy i j with z | z | z
    · have := hp i j hi hj z
      rw [ea, eb] at this
      omega
    · subst z
      rw [← ea, ← eb]
    · have := hp j i hj hi z
      rw [ea, eb] at this
      omega
  intro a ha b hb e
  rcases List.mem_append.mp ha with z1 | z1 <;> rcases List.mem_append.mp hb with z2 | z2
  · exact key a z1 b z2 e
  · rw [List.mem_singleton.mp z2] at e
    exact absurd e (h2 a z1)
  · rw [List.mem_singleton.mp z1] at e
    exact absurd e.symm (h2 b z2)
  · rw [List.mem_singleton.mp z1, List.mem_singleton.mp z2]
theorem kp_not {H : Hp} {C kp pl : Addr} {L : Addr → Prop} {st : KS} (a : KpAt H C kp pl L st) {r : Addr} (h : H r = none) : r ∉ [kp, pl] := by
  obtain ⟨⟨dx, ka, us, hkp, _, hpl, _⟩, _⟩ := a
  intro z
  rcases List.mem_cons.mp z with e | z
  · rw [e, hkp] at h
    cases h
  · rw [List.mem_singleton.mp z, hpl] at h
    cases h
theorem KpAt.same {H H' : Hp} {C kp pl : Addr} {L : Addr → Prop} {st : KS} (s : Same H H') (a : KpAt H C kp pl L st) : KpAt H' C kp pl L st := a.fr (M := []) (Fr.of s) (fun z => nomatch z) (fun z => nomatch z) fun _ _ z => nomatch z
theorem fresh_same {H H' : Hp} {L : Addr → Prop} (s : Same H H') (h : ∀ l, H l = none → L l) : ∀ l, H' l = none → L l := fun l e => h l (s.free e)
abbrev N_Keeper_come : List Str := ["self", "tie", "n", "k", "ties", "told", "kept"]
theorem sc_Keeper_come : FnScope N_Keeper_come ["self", "tie"] (defScope s_Keeper_come) := ⟨rfl, rfl, rfl, by decide +kernel, rfl, by decide +kernel, by decide +kernel⟩
theorem ok_Keeper_come (T : Txt K mg) (KT : KTxt K mg C) (C_is_record : Cal P w K mg base CX0 "is_record" 5 ["n", "thing"] spRecord) (C_net_come : Cal P w K mg base CX0 "net_come" 8 ["net", "tie"] spNetCome) (C_moves : Cal P w K mg base CX0 "moves" 6 ["n", "record", "k", "tie"] spMoves)
    (M_turn : CalM P w K mg base CX0 C "turn" 1 ["self", "kept", "first"] (spTurn C)) (F : FunD K "come" "Keeper.come" (defArgs s_Keeper_come) (defBody s_Keeper_come) (defScope s_Keeper_come) [] [] f fd) : FnOk P w K mg base CX0 9 f fd ["self", "tie"] (spCome C) := by
  refine F.ok sc_Keeper_come (fun vs H Q E h => ?_) (fun cdv A outer s H vs Q E hr h => ?_)
  · obtain ⟨_, _, _, _, _, _, rfl, _⟩ := h
    rfl
  obtain ⟨kp, pl, p, L, st, x, rfl, hK, hok, hfree, hp, ox, hfirst, hlen, hnew, q⟩ := h
  have hK0 := hK
  obtain ⟨⟨dx, ka, us, hkp, ⟨l, hka, hLl, hl⟩, hpl, hpast⟩, hno⟩ := hK
  have on := hok.net
  have n2 := on.n2
  have okx : ∀ y ∈ [x], Ok st.n y := fun y hy => by rw [List.mem_singleton.mp hy]; exact ox
  have upx : Up [x] := List.pairwise_singleton _ _
  refine ⟨_, PSs.nox (pss_cons (ps_asg (pe_fld (pv 0) rfl) (pg_tup rfl (pgs_cons (pg_name (i := 2) sc_Keeper_come.nd rfl (Or.inl rfl)) (pgs_cons (pg_name (i := 3) sc_Keeper_come.nd rfl (Or.inl rfl)) (pgs_cons (pg_name (i := 4) sc_Keeper_come.nd rfl (Or.inl rfl)) pgs_nil)))))
      (pss_cons (ps_if (pt_not (pt_val (pe_cal C_is_record (hr.mono (by decide)) pass0 (pa_cons (pv 2) (pa_cons (pe_lst (pa_cons (pv 1) pa_nil)) pa_nil))))) pss_never pss_nil)
      (pss_cons (ps_set (i := 5) sc_Keeper_come.nd rfl (Or.inl rfl) (pe_lst pa_nil))
      (pss_cons (ps_set (i := 6) sc_Keeper_come.nd rfl (Or.inl rfl) (pe_fld (pv 0) rfl))
      (pss_cons (ps_if (pt_cmpR op_ge (pe_ix ix_tup (pv 1) pe_int (fun _ _ => rfl)) (pe_fld (pv 0) rfl) (nomark _)) (pss_cons (ps_set (i := 6) sc_Keeper_come.nd rfl (Or.inl rfl) (pe_cal C_net_come (hr.mono (by decide)) pass0 (pa_cons (pe_fld (pv 0) rfl) (pa_cons (pv 1) pa_nil))))
      (pss_one (ps_if (pt_cmpR (op_notInD (hu65 hr)) (pv 1) (pv 4) rfl) (pss_one (ps_set (i := 5) sc_Keeper_come.nd rfl (Or.inl rfl) (pe_cal C_moves (hr.mono (by decide)) pass0 (pa_cons (pv 2) (pa_cons (pv 4) (pa_cons (pv 3) (pa_cons (pv 1) pa_nil))))))) pss_nil))) pss_nil)
      (pss_cons (ps_expr (pe_calm M_turn KT.cl (hr.mono (by decide)) pass0 (pv 0) (pa_cons (pv 6) (pa_cons (pe_fld (pv 0) rfl) pa_nil))))
      (pss_one (ps_ret (pv 5))))))))), ?_⟩
  -- n, k, ties = self.kept
  refine ⟨_, rfl, kp, C, dx, _, _, rfl, hkp, KT.cl, KT.nK, lk_kept _ _ _, ka, _, rfl, SqT.of hka, rfl, _, _, rfl, _, _, rfl, _, _, rfl, rfl, ?_⟩
  -- is_record(n, [tie])
  refine ⟨_, rfl, _, rfl, by show 1 ≤ sizeLine; decide, fun t htn => ?_⟩
  have s1 := same_new (o := .lst [.ref p]) htn
  refine ⟨st.n, t, [x], rfl, ⟨_, upd_same, .one (s1 _ _ hp)⟩, okx, upx, (by show 1 ≤ 60; omega), fun H2 s2 => ⟨true, rfl, iteF ?_⟩⟩
  have s3 := s1.trans s2
  -- told = []; kept = self.kept
  refine ⟨Nat.zero_le _, fun e0 he0 => ?_⟩
  have s4 := s3.trans (same_new (o := .lst []) he0)
  refine ⟨_, rfl, kp, C, dx, _, _, rfl, s4 _ _ hkp, KT.cl, KT.nK, lk_kept _ _ _, ?_⟩
  -- if tie[0] >= self.first
  refine ⟨_, rfl, p, _, _, _, rfl, rfl, SqT.of (s4 _ _ hp), atI_nat (j := 0) rfl, _, rfl, kp, C, dx, _, _, rfl, s4 _ _ hkp, KT.cl, KT.nF, lk_first _ _ _, _, _, rfl, rfl, _, rfl, ?_⟩
  rw [dT (show (st.first : Int) ≤ (x.m : Int) by omega)]
  refine iteT ?_
  -- kept = net_come(self.kept, tie)
  refine ⟨_, rfl, kp, C, dx, _, _, rfl, s4 _ _ hkp, KT.cl, KT.nK, lk_kept _ _ _, _, rfl, st.n, st.k, ka, p, l, st.kept, x, rfl, s4 _ _ hka, hl.same s4, s4 _ _ hp, on, ox, hlen, one_new on.up hnew, fun H5 kb l5 s5 hkbn hl5n hkb hl5 => ?_⟩
  rw [withT_one hnew] at hl5
  have s6 := s4.trans s5
  obtain ⟨vk, hvk, hvt⟩ := hl.same s6
  -- if tie not in ties
  refine ⟨_, rfl, _, rfl, _, _, dp_tie (s6 _ _ hp), .lst (SqL.of hvk) (dp_ties hvt), shaped_tie x, shaped_ties _, _, rfl, ?_⟩
  rw [any_tie, decide_eq_false (fun z => hnew x z rfl)]
  refine iteT ?_
  refine ⟨_, rfl, _, rfl, _, rfl, _, rfl, st.n, st.k, l, p, st.kept, x, rfl, by omega, on.k1, on.k2, ⟨vk, hvk, hvt⟩, on.len, on.ok, s6 _ _ hp, ox, hnew, fun H7 r ms s7 hrn hms hmo hhd hex hml => ?_⟩
  have s8 := s6.trans s7
  have hr0 : H r = none := s6.free hrn
  -- self.turn(kept, self.first)
  refine ⟨_, rfl, kp, dx, _, rfl, s8 _ _ hkp, lk_no _ _ _ (by decide +kernel) (by decide +kernel) (by decide +kernel), _, rfl, _, rfl, kp, C, dx, _, _, rfl, s8 _ _ hkp, KT.cl, KT.nF, lk_first _ _ _, ?_⟩
  refine ⟨kp, pl, kb, L, st, st.first, _, rfl, hK0.same s8, ⟨l5, s7 _ _ hkb, hfree _ (s4.free hl5n), hl5.same s7⟩, Nat.le_trans hok.few (by omega), fun H9 f9 hK9 => ?_⟩
  refine ⟨_, rfl, q H9 r ms ((Fr.of s8).trans f9) hr0 ?_ hmo hhd hex hml hK9⟩
  exact hms.fr f9 (kp_not hK0 hr0)
abbrev N_Keeper_forget : List Str := ["self", "t", "first"]
theorem sc_Keeper_forget : FnScope N_Keeper_forget ["self", "t"] (defScope s_Keeper_forget) := ⟨rfl, rfl, rfl, by decide +kernel, rfl, by decide +kernel, by decide +kernel⟩
theorem ok_Keeper_forget (T : Txt K mg) (KT : KTxt K mg C) (C_is_moment_keeper : Cal P w K mg base CX0 "is_moment_keeper" 1 ["thing"] spMoment) (C_net_since : Cal P w K mg base CX0 "net_since" 8 ["net", "t"] spNetSince)
    (M_turn : CalM P w K mg base CX0 C "turn" 1 ["self", "kept", "first"] (spTurn C)) (F : FunD K "forget" "Keeper.forget" (defArgs s_Keeper_forget) (defBody s_Keeper_forget) (defScope s_Keeper_forget) [] [] f fd) : FnOk P w K mg base CX0 9 f fd ["self", "t"] (spForget C) := by
  refine F.ok sc_Keeper_forget (fun vs H Q E h => ?_) (fun cdv A outer s H vs Q E hr h => ?_)
  · obtain ⟨_, _, _, _, _, rfl, _⟩ := h
    rfl
  obtain ⟨kp, pl, L, st, t, rfl, ht, hK, hok, hfree, q⟩ := h
  have hK0 := hK
  obtain ⟨⟨dx, ka, us, hkp, ⟨l, hka, hLl, hl⟩, hpl, hpast⟩, hno⟩ := hK
  refine ⟨_, PSs.nox (pss_cons (ps_if (pt_not (pt_val (pe_cal C_is_moment_keeper (hr.mono (by decide)) pass0 (pa_cons (pv 1) pa_nil)))) pss_never pss_nil)
      (pss_cons (ps_set (i := 2) sc_Keeper_forget.nd rfl (Or.inl rfl) (pe_callB (call_max2 rfl) (by rfl) T.max (by decide +kernel) (pa_cons (pv 1) (pa_cons (pe_fld (pv 0) rfl) pa_nil))))
      (pss_one (ps_expr (pe_calm M_turn KT.cl (hr.mono (by decide)) pass0 (pv 0) (pa_cons (pe_cal C_net_since (hr.mono (by decide)) pass0 (pa_cons (pe_fld (pv 0) rfl) (pa_cons (pv 2) pa_nil))) (pa_cons (pv 2) pa_nil))))))), ?_⟩
  refine ⟨_, rfl, _, rfl, true, congrArg V.bl (and_tt (dT (by omega)) (dT (by omega))), iteF ?_⟩
  refine ⟨_, rfl, _, rfl, kp, C, dx, _, _, rfl, hkp, KT.cl, KT.nF, lk_first _ _ _, _, _, rfl, ?_⟩
  have emax : (if ((t : Nat) : Int) < ((st.first : Nat) : Int) then ((st.first : Nat) : Int) else ((t : Nat) : Int)) = ((max t st.first : Nat) : Int) := by
    split <;> omega
  rw [emax]
  refine ⟨_, rfl, kp, dx, _, rfl, hkp, lk_no _ _ _ (by decide +kernel) (by decide +kernel) (by decide +kernel), _, rfl, kp, C, dx, _, _, rfl, hkp, KT.cl, KT.nK, lk_kept _ _ _, _, rfl, st.n, st.k, max t st.first, ka, l, st.kept, rfl, hka, hl, hok.net, fun H1 kb l1 s1 hkbn hl1n hkb hl1 => ?_⟩
  refine ⟨_, rfl, kp, pl, kb, L, st, max t st.first, _, rfl, hK0.same s1, ⟨l1, hkb, hfree _ hl1n, hl1⟩, Nat.le_trans hok.few (by omega), fun H2 f2 hK2 => ?_⟩
  exact q H2 ((Fr.of s1).trans f2) hK2
theorem NetOk.since {n k : Nat} {ts : List Tie} (o : NetOk n k ts) (t : Nat) : NetOk n k (sinceD t ts) :=
  ⟨o.n1, o.n2, o.k1, o.k2, fun x hx => o.ok x (since_mem.mp hx).1, since_rise o.up, Nat.le_trans since_len o.len, since_layers o.up o.all⟩
abbrev N_Keeper_lay : List Str := ["self", "net"]
theorem sc_Keeper_lay : FnScope N_Keeper_lay ["self", "net"] (defScope s_Keeper_lay) := ⟨rfl, rfl, rfl, by decide +kernel, rfl, by decide +kernel, by decide +kernel⟩
theorem ok_Keeper_lay (T : Txt K mg) (KT : KTxt K mg C) (C_laid : Cal P w K mg base CX0 "laid" 8 ["net", "other"] spLaid) (C_net_since : Cal P w K mg base CX0 "net_since" 8 ["net", "t"] spNetSince)
    (M_turn : CalM P w K mg base CX0 C "turn" 1 ["self", "kept", "first"] (spTurn C)) (F : FunD K "lay" "Keeper.lay" (defArgs s_Keeper_lay) (defBody s_Keeper_lay) (defScope s_Keeper_lay) [] [] f fd) : FnOk P w K mg base CX0 9 f fd ["self", "net"] (spLay C) := by
  refine F.ok sc_Keeper_lay (fun vs H Q E h => ?_) (fun cdv A outer s H vs Q E hr h => ?_)
  · obtain ⟨_, _, _, _, _, _, _, rfl, _⟩ := h
    rfl
  obtain ⟨kp, pl, b, l2, L, st, us, rfl, hK, hok, hfree, hb, hl2, o2, hlen, one, q⟩ := h
  have hK0 := hK
  obtain ⟨⟨dx, ka, vs, hkp, ⟨l, hka, hLl, hl⟩, hpl, hpast⟩, hno⟩ := hK
  refine ⟨_, PSs.nox (pss_one (ps_expr (pe_calm M_turn KT.cl (hr.mono (by decide)) pass0 (pv 0) (pa_cons (pe_cal C_laid (hr.mono (by decide)) pass0 (pa_cons (pe_fld (pv 0) rfl) (pa_cons (pe_cal C_net_since (hr.mono (by decide)) pass0 (pa_cons (pv 1) (pa_cons (pe_fld (pv 0) rfl) pa_nil))) pa_nil))) (pa_cons (pe_fld (pv 0) rfl) pa_nil))))), ?_⟩
  refine ⟨_, rfl, kp, dx, _, rfl, hkp, lk_no _ _ _ (by decide +kernel) (by decide +kernel) (by decide +kernel), _, rfl, kp, C, dx, _, _, rfl, hkp, KT.cl, KT.nK, lk_kept _ _ _, _, rfl, _, rfl, kp, C, dx, _, _, rfl, hkp, KT.cl, KT.nF, lk_first _ _ _, ?_⟩
  refine ⟨st.n, st.k, st.first, b, l2, us, rfl, hb, hl2, o2, fun H1 kb l1 s1 hkbn hl1n hkb hl1 => ?_⟩
  have hsl := since_len (t := st.first) (l := us)
  refine ⟨st.n, st.k, ka, kb, l, l1, st.kept, sinceD st.first us, rfl, s1 _ _ hka, hkb, hl.same s1, hl1, hok.net, o2.since _, by omega, ?_, fun H2 kc l3 s2 hkcn hl3n hkc hl3 => ?_⟩
  · have key : ∀ c, c ∈ st.kept ++ sinceD st.first us → c ∈ st.kept ++ us := fun c hc => by
      rcases List.mem_append.mp hc with z | z
      · exact List.mem_append.mpr (.inl z)
      · exact List.mem_append.mpr (.inr (since_mem.mp z).1)
    exact fun x hx y hy e => one x (key x hx) y (key y hy) e
  have s3 := s1.trans s2
  refine ⟨_, rfl, kp, C, dx, _, _, rfl, s3 _ _ hkp, KT.cl, KT.nF, lk_first _ _ _, ?_⟩
  refine ⟨kp, pl, kc, L, st, st.first, _, rfl, hK0.same s3, ⟨l3, hkc, hfree _ (s1.free hl3n), hl3⟩, Nat.le_trans hok.few (by omega), fun H4 f4 hK4 => ?_⟩
  exact q H4 ((Fr.of s3).trans f4) hK4
abbrev N_Keeper_net : List Str := ["self", "n", "k", "ties"]
theorem sc_Keeper_net : FnScope N_Keeper_net ["self"] (defScope s_Keeper_net) := ⟨rfl, rfl, rfl, by decide +kernel, rfl, by decide +kernel, by decide +kernel⟩
theorem ok_Keeper_net (T : Txt K mg) (KT : KTxt K mg C) (F : FunD K "net" "Keeper.net" (defArgs s_Keeper_net) (defBody s_Keeper_net) (defScope s_Keeper_net) [] [] f fd) : FnOk P w K mg base CX0 1 f fd ["self"] (spNet C) := by
  refine F.ok sc_Keeper_net (fun vs H Q E h => ?_) (fun cdv A outer s H vs Q E hr h => ?_)
  · obtain ⟨_, _, _, _, rfl, _⟩ := h
    rfl
  obtain ⟨kp, pl, L, st, rfl, ⟨⟨dx, ka, us, hkp, ⟨l, hka, hLl, vs, hl, ht⟩, hpl, hpast⟩, hno⟩, hlen, q⟩ := h
  refine ⟨_, PSs.nox (pss_cons (ps_asg (pe_fld (pv 0) rfl) (pg_tup rfl (pgs_cons (pg_name (i := 1) sc_Keeper_net.nd rfl (Or.inl rfl)) (pgs_cons (pg_name (i := 2) sc_Keeper_net.nd rfl (Or.inl rfl)) (pgs_cons (pg_name (i := 3) sc_Keeper_net.nd rfl (Or.inl rfl)) pgs_nil)))))
      (pss_one (ps_ret (pe_tup (pa_cons (pv 1) (pa_cons (pv 2) (pa_cons (pe_callTy call_list_of (by rfl) T.list (by decide +kernel) (pa_cons (pv 3) pa_nil)) pa_nil))))))), ?_⟩
  refine ⟨_, rfl, kp, C, dx, _, _, rfl, hkp, KT.cl, KT.nK, lk_kept _ _ _, ka, _, rfl, SqT.of hka, rfl, _, _, rfl, _, _, rfl, _, _, rfl, rfl, ?_⟩
  refine ⟨_, rfl, _, rfl, _, rfl, l, vs, rfl, .inl (SqL.of hl), fun c hc => ⟨by show 3 ≤ sizeLine; decide, fun d hd => ?_⟩⟩
  have s1 := same_new (o := .lst vs) hc
  have s2 := same_new (o := .tup [nV st.n, nV st.k, .ref c]) hd
  refine q _ d c (s1.trans s2) (s1.free hd) hc upd_same ⟨vs, s2 _ _ upd_same, ht.same (s1.trans s2)⟩
def pdE (n k : Nat) (e : List Tie × Nat) : PyData := .tuple [.tuple [.int n, .int k, .list (e.1.map SP.pd)], .int e.2]
theorem dp_past {H : Hp} {L : Addr → Prop} {n k : Nat} : ∀ {vs : List V} {es : List (List Tie × Nat)}, PastAt H L n k vs es → DpAll K H vs (es.map (pdE n k))
  | _, _, .nil => .nil
  | _, _, .cons h1 ⟨l, h2, _, us, h3, h4⟩ t => .cons (.tup (SqT.of h1) (.cons (.tup (SqT.of h2) (.cons (.int _) (.cons (.int _) (.cons (.lst (SqL.of h3) (dp_ties h4)) .nil)))) (.cons (.int _) .nil))) (dp_past t)
theorem lay_past (n k : Nat) : ∀ es : List (List Tie × Nat), PyData.canLayAll0 (es.map (pdE n k)) = true
  | [] => rfl
  | e :: es => by
    have h1 : PyData.canLay0 (pdE n k e) = (true && (true && (PyData.canLayAll0 (e.1.map SP.pd) && true)) && (true && true)) := rfl
    show (PyData.canLay0 (pdE n k e) && PyData.canLayAll0 (es.map (pdE n k))) = true
    rw [lay_past n k es, h1, lay_ties]
    rfl
theorem dep_past (n k : Nat) : ∀ es : List (List Tie × Nat), PyData.depthAll (es.map (pdE n k)) ≤ 10
  | [] => Nat.zero_le _
  | e :: es => by
    have h1 : PyData.depth (pdE n k e) = max (max 0 (max 0 (max (PyData.depthAll (e.1.map SP.pd) + 1) 0)) + 1) (max 0 0) + 1 := rfl
    show max (PyData.depth (pdE n k e)) (PyData.depthAll (es.map (pdE n k))) ≤ 10
    have h2 := dep_past n k es
    have h3 := dep_ties e.1
    omega
theorem shaped_past (n k : Nat) (es : List (List Tie × Nat)) : SeqAt.shaped (.list (es.map (pdE n k))) = true := by
  show (PyData.canLayAll0 (es.map (pdE n k)) && decide (PyData.depthAll (es.map (pdE n k)) + 1 ≤ 64)) = true
  rw [lay_past, dT (by have := dep_past n k es; omega)]
  rfl
theorem eqv_past (n k : Nat) (es : List (List Tie × Nat)) : PyData.eqv (.list (es.map (pdE n k))) (.list []) = es.isEmpty := by
  cases es with
  | nil => rfl
  | cons x us => rfl
abbrev N_Keeper_back : List Str := ["self", "kept", "first"]
theorem sc_Keeper_back : FnScope N_Keeper_back ["self"] (defScope s_Keeper_back) := ⟨rfl, rfl, rfl, by decide +kernel, rfl, by decide +kernel, by decide +kernel⟩
theorem ok_Keeper_back (T : Txt K mg) (KT : KTxt K mg C) (NT : NTxt K mg CN) (F : FunD K "back" "Keeper.back" (defArgs s_Keeper_back) (defBody s_Keeper_back) (defScope s_Keeper_back) [] [] f fd) : FnOk P w K mg base (L2.CX P w) 1 f fd ["self"] (spBack C CN) := by
  refine F.ok sc_Keeper_back (fun vs H Q E h => ?_) (fun cdv A outer s H vs Q E hr h => ?_)
  · obtain ⟨_, _, _, _, rfl, _⟩ := h
    rfl
  obtain ⟨kp, pl, L, st, rfl, hK, hok, hE, hQ⟩ := h
  have hK0 := hK
  obtain ⟨⟨dx, ka, us, hkp, hnd, hpl, hpast⟩, hno⟩ := hK
  have hul := hpast.len
  rw [List.length_reverse] at hul
  refine ⟨_, (pss_cons (ps_if (pt_cmpR (op_eqD hr.units) (pe_fld (pv 0) rfl) (pe_lst pa_nil) (nomark _)) (pss_one (ps_raise rfl (takes_of rfl rfl rfl rfl) (pmk_own0 PySem.F.excBase_ValueError NT.ex NT.g NT.kp (raises_own NT.sub NT.ty)))) pss_nil)
      (pss_cons (ps_asg (pe_bm0 PySem.F.plainAttrs_list PySem.F.slot_list_pop PySem.F.type_list_pop mt_pop (pe_fld (pv 0) rfl)) (pg_tup rfl (pgs_cons (pg_name (i := 1) sc_Keeper_back.nd rfl (Or.inl rfl)) (pgs_cons (pg_name (i := 2) sc_Keeper_back.nd rfl (Or.inl rfl)) pgs_nil))))
      (pss_cons (ps_fld (pv 0) (pv 1) rfl)
      (pss_one (ps_fld (pv 0) (pv 2) rfl))))), ?_⟩
  refine ⟨_, rfl, kp, C, dx, _, _, rfl, hkp, KT.cl, KT.nP, lk_past _ _ _, Nat.zero_le _, fun e0 he0 => ?_⟩
  have s1 := same_new (o := .lst []) he0
  have fr0 : Fr [kp, pl] H (upd H e0 (.lst [])) := .of s1
  have hpast1 : PastAt (upd H e0 (.lst [])) L st.n st.k us st.past.reverse := hpast.fr (M := []) (Fr.of s1) fun _ _ z => nomatch z
  refine ⟨_, _, .lst (SqL.of (s1 _ _ hpl)) (dp_past hpast1), .lst (SqL.of upd_same) .nil, shaped_past _ _ _, rfl, _, rfl, ?_⟩
  rw [eqv_past]
  cases hp : st.past with
  | nil =>
    refine iteT ?_
    exact hE hp _ s1
  | cons e r =>
    obtain ⟨ts, g⟩ := e
    have e1 : ((ts, g) :: r).reverse.isEmpty = false := by
      rw [List.reverse_cons]
      cases r.reverse <;> rfl
    rw [e1]
    refine iteF ?_
    rw [hp, List.reverse_cons] at hpast hpast1
    obtain ⟨q0, kb, hget, hq0, hnb, hrest⟩ := hpast.last
    have hkp1 := s1 _ _ hkp
    have hpl1 := s1 _ _ hpl
    have nkp : kp ≠ pl := ne_of hkp hpl (by intro z; cases z)
    -- kept, first = self.past.pop()
    refine ⟨_, rfl, kp, C, dx, _, _, rfl, hkp1, KT.cl, KT.nP, lk_past _ _ _, .inl ⟨rfl, _, SqL.of hpl1⟩, pl, us, _, rfl, rfl, hpl1, hget, ?_⟩
    have hq1 : upd (upd H e0 (.lst [])) pl (.lst us.dropLast) q0 = some (.tup [.ref kb, nV g]) := by
      rw [upd_ne (ne_of (s1 _ _ hq0) hpl1 (by intro z; cases z))]
      exact s1 _ _ hq0
    refine ⟨q0, _, rfl, SqT.of hq1, rfl, _, _, rfl, _, _, rfl, rfl, ?_⟩
    refine ⟨_, rfl, _, rfl, kp, C, dx, _, rfl, by rw [upd_ne nkp]; exact hkp1, KT.cl, KT.nK, by show 3 < 1000; decide, ?_⟩
    rw [kf_kept]
    refine ⟨_, rfl, _, rfl, kp, C, dx, _, rfl, upd_same, KT.cl, KT.nF, by show 3 < 1000; decide, ?_⟩
    rw [upd_upd, kf_first]
    have fr1 : Fr [kp, pl] H (upd (upd (upd H e0 (.lst [])) pl (.lst us.dropLast)) kp (.ins C dx (kf kb g pl))) := by
      refine (Fr.of s1).trans ((Fr.upd (by simp) hpl1 (by intro xs z; cases z)).trans (Fr.upd (u := .ins C dx (kf ka st.first pl)) (by simp) ?_ (by intro xs z; cases z)))
      rw [upd_ne nkp]
      exact hkp1
    have nd : ∀ {a : Addr} {zs : List Tie}, NetD H L a st.n st.k zs → NetD (upd (upd (upd H e0 (.lst [])) pl (.lst us.dropLast)) kp (.ins C dx (kf kb g pl))) L a st.n st.k zs := fun {a zs} d => by
      obtain ⟨l, h1, h2, vs, h3, h4⟩ := d
      refine ⟨l, fr1.tup h1, h2, vs, ?_, h4.fr fr1⟩
      rw [upd_ne (ne_of h3 hkp (by intro z; cases z)), upd_ne (show l ≠ pl from fun z => hno (by rw [← z]; exact h2))]
      exact s1 _ _ h3
    have pd : ∀ {vs : List V} {es : List (List Tie × Nat)}, PastAt H L st.n st.k vs es → PastAt (upd (upd (upd H e0 (.lst [])) pl (.lst us.dropLast)) kp (.ins C dx (kf kb g pl))) L st.n st.k vs es := by
      intro vs es d
      induction d with
      | nil => exact .nil
      | cons h1 h2 _ ih => exact .cons (fr1.tup h1) (nd h2) ih
    exact hQ ts g r hp _ fr1 ⟨⟨dx, kb, _, upd_same, nd hnb, by rw [upd_ne nkp.symm]; exact upd_same, pd hrest⟩, hno⟩
end
end SP
set_option maxRecDepth 100000
set_option maxHeartbeats 4000000
namespace SP
open PySem PySem.Spec PyProof.Rows L2 TL
def sN (n : Nat) : Str := Str.ofString (toString ((n : Nat) : Int))
theorem tl_sN (n : Nat) : tl (sN n) = numL n := tl_num n
theorem sN_ne (n : Nat) : sN n ≠ "" := fun h => numL_ne n (by rw [← tl_sN, h]; decide +kernel)
theorem sN_free {n s : Nat} (h : s < 48 ∨ 57 < s) : s ∉ tl (sN n) := by rw [tl_sN]; exact numL_free h
theorem sN_len {n : Nat} (h : n ≤ 10 ^ 30) : (sN n).length ≤ 31 := by
  rw [len_tl, tl_sN]
  exact numL_len (by decide) (Nat.lt_of_le_of_lt h (by decide))
theorem sN_len2 {n : Nat} (h : n < 100) : (sN n).length ≤ 2 := by
  rw [len_tl, tl_sN]
  exact numL_len (by decide) h
theorem sN_pos (n : Nat) : 1 ≤ (sN n).length := by
  rw [len_tl, tl_sN]
  have := numL_ne n
  cases h : numL n with
  | nil => exact absurd h this
  | cons => simp
theorem sN_int {n : Nat} (h : n ≤ 10 ^ 30) : intText? (sN n) = some (n : Int) := int_num (by
  have := sN_len h
  rw [len_tl, tl_sN] at this
  omega)
theorem sN_log {n : Nat} (h : n ≤ 10 ^ 30) : ((n : Nat) : Int).natAbs.log2 < 1920 := by
  rw [Int.natAbs_natCast]
  rcases Nat.eq_zero_or_pos n with z | z
  · subst z
    decide
  · rw [Nat.log2_lt (by omega)]
    exact Nat.lt_of_le_of_lt h (by decide)
theorem head_ne : ∀ n : Nat, 0 < n → ∃ c r, numL n = c :: r ∧ c ≠ 48 := fun n => by
  induction n using Nat.strongRecOn with
  | _ n ih =>
    intro h0
    by_cases h : n < 10
    · exact ⟨48 + n, [], numL_lt h, by omega⟩
    · obtain ⟨c, r, e, hc⟩ := ih (n / 10) (by omega) (by omega)
      exact ⟨c, r ++ [48 + n % 10], by rw [numL_step (by omega), e]; rfl, hc⟩
theorem sN_head (n : Nat) : ∃ c r, tl (sN n) = c :: r ∧ (c = 48 → sN n = "0") := by
  rw [tl_sN]
  by_cases h : n = 0
  · subst h
    exact ⟨48, [], numL_lt (by decide), fun _ => ext_tl (by rw [tl_sN, numL_lt (by decide)]; decide +kernel)⟩
  · obtain ⟨c, r, e, hc⟩ := head_ne n (by omega)
    exact ⟨c, r, e, fun z => absurd z hc⟩
theorem sN_dig (n : Nat) : ∀ c ∈ tl (sN n), c ∈ tl ("0123456789" : Str) := by
  rw [tl_sN]
  intro c hc
  have h := numL_digits n c hc
  have e : tl ("0123456789" : Str) = [48, 49, 50, 51, 52, 53, 54, 55, 56, 57] := by decide +kernel
  rw [e]
  have h1 : 48 ≤ c := h.1
  have h2 : c ≤ 57 := by have := h.2; omega
  have : c = 48 ∨ c = 49 ∨ c = 50 ∨ c = 51 ∨ c = 52 ∨ c = 53 ∨ c = 54 ∨ c = 55 ∨ c = 56 ∨ c = 57 := by omega
  rcases this with z | z | z | z | z | z | z | z | z | z <;> (subst z; decide)
theorem sN_inj {a b : Nat} (h : sN a = sN b) : a = b := numL_inj (by rw [← tl_sN, ← tl_sN, h])
theorem e_cc : tl (": " : Str) = [58, 32] := by decide +kernel
theorem e_c : tl (":" : Str) = [58] := by decide +kernel
theorem e_d : tl ("-" : Str) = [45] := by decide +kernel
theorem e_b : tl (" " : Str) = [32] := by decide +kernel
theorem e_s : tl ("; " : Str) = [59, 32] := by decide +kernel
theorem e_s1 : tl (";" : Str) = [59] := by decide +kernel
theorem e_k : tl (", " : Str) = [44, 32] := by decide +kernel
theorem e_none : tl ("none" : Str) = [110, 111, 110, 101] := by decide +kernel
theorem app_assoc (a b c : Str) : a ++ b ++ c = a ++ (b ++ c) := ext_tl (by rw [tl_append, tl_append, tl_append, tl_append, List.append_assoc])
theorem len_app (a b : Str) : (a ++ b).length = a.length + b.length := by rw [len_tl, len_tl, len_tl, tl_append, List.length_append]
def tieT (x : T) : Str := sN x.m ++ ":" ++ sN x.a ++ "-" ++ sN x.b
def recT : List T → Str
  | [] => "none"
  | x :: r => Txt.join "; " ((x :: r).map tieT)
def netT (n k : Nat) (ts : List T) : Str := sN n ++ " " ++ sN k ++ " " ++ recT ts
def movT (x : T) : Str := Txt.join " " [sN x.m, sN x.a, sN x.b]
theorem tl_tieT (x : T) : tl (tieT x) = numL x.m ++ [58] ++ numL x.a ++ [45] ++ numL x.b := by
  unfold tieT
  rw [tl_append, tl_append, tl_append, tl_append, e_c, e_d, tl_sN, tl_sN, tl_sN]
theorem tieT_free {x : T} {s : Nat} (h : s < 48 ∨ 57 < s) (h1 : s ≠ 58) (h2 : s ≠ 45) : s ∉ tl (tieT x) := by
  rw [tl_tieT]
  intro hm
  rcases List.mem_append.mp hm with hm | hm
  · rcases List.mem_append.mp hm with hm | hm
    · rcases List.mem_append.mp hm with hm | hm
      · rcases List.mem_append.mp hm with hm | hm
        · exact numL_free h hm
        · exact h1 (List.mem_singleton.mp hm)
      · exact numL_free h hm
    · exact h2 (List.mem_singleton.mp hm)
  · exact numL_free h hm
theorem tieT_ne (x : T) : tieT x ≠ "" := fun h => by
  have e := congrArg tl h
  rw [tl_tieT] at e
  have : (numL x.m ++ [58] ++ numL x.a ++ [45] ++ numL x.b).length = 0 := by rw [e]; decide +kernel
  rw [List.length_append, List.length_append] at this
  simp at this
def Ok' (n : Nat) (x : T) : Prop := x.m ≤ 10 ^ 30 ∧ x.a < n ∧ x.b < n
theorem tieT_len {x : T} (h1 : x.m ≤ 10 ^ 30) (h2 : x.a < 100) (h3 : x.b < 100) : (tieT x).length ≤ 37 := by
  unfold tieT
  rw [len_app, len_app, len_app, len_app]
  have := sN_len h1
  have := sN_len2 h2
  have := sN_len2 h3
  have : (":" : Str).length = 1 := by decide +kernel
  have : ("-" : Str).length = 1 := by decide +kernel
  omega
/-- the words of a record's text -/
def wsR : List T → List Str
  | [] => ["none"]
  | [x] => [tieT x]
  | x :: y :: r => (tieT x ++ ";") :: wsR (y :: r)
theorem wsR_ne : ∀ ts : List T, wsR ts ≠ []
  | [] => by simp [wsR]
  | [x] => by simp [wsR]
  | x :: y :: r => by simp [wsR]
theorem joinL_cons {S p : List Nat} {r : List (List Nat)} (h : r ≠ []) : joinL S (p :: r) = p ++ (S ++ joinL S r) := by
  cases r with
  | nil => exact absurd rfl h
  | cons q r => rfl
theorem tl_wsR : ∀ ts : List T, joinL [32] ((wsR ts).map tl) = tl (recT ts)
  | [] => rfl
  | [x] => by
    show tl (tieT x) = tl (Txt.join "; " [tieT x])
    rw [join_eq]
    rfl
  | x :: y :: r => by
    have ih := tl_wsR (y :: r)
    show joinL [32] (tl (tieT x ++ ";") :: (wsR (y :: r)).map tl) = tl (Txt.join "; " (tieT x :: tieT y :: r.map tieT))
    rw [joinL_cons (by intro z; exact wsR_ne _ (List.map_eq_nil_iff.mp z)), ih, join_eq, tl_join]
    show _ = tl (tieT x) ++ (tl ("; " : Str) ++ joinL (tl ("; " : Str)) ((tieT y :: r.map tieT).map tl))
    rw [← tl_join, e_s, tl_append, e_s1]
    show _ = tl (tieT x) ++ ([59, 32] ++ tl (Str.join "; " ((y :: r).map tieT)))
    rw [← join_eq]
    show tl (tieT x) ++ [59] ++ ([32] ++ tl (Txt.join "; " ((y :: r).map tieT))) = _
    simp
theorem join_wsR (ts : List T) : Txt.join " " (wsR ts) = recT ts := ext_tl (by rw [join_eq, tl_join, e_b, tl_wsR])
/-- a word: something, and no blank in it -/
def Wd (x : Str) : Prop := x ≠ "" ∧ 32 ∉ tl x
theorem wd_sN (n : Nat) : Wd (sN n) := ⟨sN_ne n, sN_free (by decide)⟩
theorem wd_wsR : ∀ ts : List T, ∀ x ∈ wsR ts, Wd x
  | [], x, h => by
    rw [List.mem_singleton.mp h]
    exact ⟨by decide +kernel, by decide +kernel⟩
  | [t], x, h => by
    rw [List.mem_singleton.mp h]
    exact ⟨tieT_ne t, tieT_free (by decide) (by decide) (by decide)⟩
  | t :: y :: r, x, h => by
    rcases List.mem_cons.mp h with h | h
    · rw [h]
      refine ⟨fun z => ?_, fun z => ?_⟩
      · have e := congrArg tl z
        rw [tl_append, e_s1] at e
        have : (tl (tieT t) ++ [59]).length = 0 := by rw [e]; decide +kernel
        rw [List.length_append] at this
        simp at this
      · rw [tl_append, e_s1] at z
        rcases List.mem_append.mp z with z | z
        · exact tieT_free (by decide) (by decide) (by decide) z
        · exact absurd (List.mem_singleton.mp z) (by decide)
    · exact wd_wsR (y :: r) x h
/-- a row: words with blanks between -/
def rowT (ws : List Str) : Str := Txt.join " " ws
theorem rowT_cons {x : Str} {ws : List Str} (h : ws ≠ []) : rowT (x :: ws) = x ++ " " ++ rowT ws := by
  unfold rowT
  rw [join_eq, join_eq]
  cases ws with
  | nil => exact absurd rfl h
  | cons y r => rfl
theorem rowT_one {x : Str} : rowT [x] = x := by
  unfold rowT
  rw [join_eq]
  rfl
theorem split_row {ws : List Str} (hne : ws ≠ []) (h : ∀ x ∈ ws, Wd x) : Txt.split (rowT ws) " " = ws := split_join e_b (by decide +kernel) hne fun p hp => (h p hp).2
theorem netT_row (n k : Nat) (ts : List T) : rowT (sN n :: sN k :: wsR ts) = netT n k ts := by
  rw [rowT_cons (by simp), rowT_cons (wsR_ne ts)]
  show sN n ++ " " ++ (sN k ++ " " ++ Txt.join " " (wsR ts)) = _
  rw [join_wsR]
  unfold netT
  rw [← app_assoc, ← app_assoc]
theorem lay_row (n k : Nat) (ts : List T) : rowT ("lay" :: sN n :: sN k :: wsR ts) = "lay " ++ netT n k ts := by
  rw [rowT_cons (by simp), netT_row]
  rfl
theorem join_len : ∀ ws : List Str, (rowT ws).length ≤ (ws.map (·.length)).sum + ws.length
  | [] => by decide +kernel
  | [x] => by rw [rowT_one]; simp
  | x :: y :: r => by
    have ih := join_len (y :: r)
    rw [rowT_cons (by simp), len_app, len_app]
    have : (" " : Str).length = 1 := by decide +kernel
    rw [List.map_cons, List.sum_cons, List.length_cons]
    omega
theorem sum_le {ws : List Str} {c : Nat} (h : ∀ x ∈ ws, x.length ≤ c) : (ws.map (·.length)).sum ≤ c * ws.length := by
  induction ws with
  | nil => simp
  | cons x r ih =>
    have h1 := h x (List.mem_cons_self ..)
    have h2 := ih fun y hy => h y (List.mem_cons_of_mem _ hy)
    rw [List.map_cons, List.sum_cons, List.length_cons, Nat.mul_add, Nat.mul_one]
    omega
theorem joinS_len (y : Str) : ∀ ws : List Str, (Txt.join y ws).length ≤ (ws.map (·.length)).sum + ws.length * y.length
  | [] => by rw [join_eq]; exact Nat.le_trans (Nat.le_of_eq (show (Str.join y []).length = 0 from rfl)) (Nat.zero_le _)
  | [x] => by rw [join_eq]; show x.length ≤ _; simp
  | x :: z :: r => by
    have ih := joinS_len y (z :: r)
    rw [join_eq] at ih ⊢
    show (x ++ y ++ Str.join y (z :: r)).length ≤ _
    rw [len_app, len_app, List.map_cons, List.sum_cons, List.length_cons, Nat.add_mul]
    omega
theorem recT_len {ts : List T} {n : Nat} (hn : n ≤ 10) (h : ∀ x ∈ ts, x.m ≤ 10 ^ 30 ∧ x.a < n ∧ x.b < n) : (recT ts).length ≤ 39 * ts.length + 4 := by
  cases ts with
  | nil => decide +kernel
  | cons x r =>
    have h1 := joinS_len "; " ((x :: r).map tieT)
    have h2 : (((x :: r).map tieT).map (·.length)).sum ≤ 37 * ((x :: r).map tieT).length := sum_le fun y hy => by
      obtain ⟨z, hz, rfl⟩ := List.mem_map.mp hy
      obtain ⟨a, b, c⟩ := h z hz
      exact tieT_len a (by omega) (by omega)
    have h3 : ("; " : Str).length = 2 := by decide +kernel
    rw [h3] at h1
    rw [List.length_map] at h1 h2
    show (Txt.join "; " ((x :: r).map tieT)).length ≤ _
    omega
theorem recT_none {x : T} {r : List T} : recT (x :: r) ≠ "none" := fun h => by
  have e := congrArg tl h
  rw [e_none] at e
  have e2 : tl (recT (x :: r)) = joinL [59, 32] ((tieT x :: r.map tieT).map tl) := by
    show tl (Txt.join "; " ((x :: r).map tieT)) = _
    rw [join_eq, tl_join, e_s]
    rfl
  rw [e2] at e
  obtain ⟨c, s, hc, _⟩ := sN_head x.m
  have hd : c ∈ tl (sN x.m) := by rw [hc]; exact List.mem_cons_self ..
  have hdig := numL_digits x.m c (by rw [← tl_sN]; exact hd)
  have hh : (joinL [59, 32] ((tieT x :: r.map tieT).map tl)).head? = some c := by
    have ht : tl (tieT x) = c :: (s ++ [58] ++ numL x.a ++ [45] ++ numL x.b) := by
      rw [tl_tieT, ← tl_sN x.m, hc]
      rfl
    cases r with
    | nil =>
      show (tl (tieT x)).head? = _
      rw [ht]
      rfl
    | cons y r =>
      show (tl (tieT x) ++ _).head? = _
      rw [ht]
      rfl
  rw [e] at hh
  have : c = 110 := (Option.some.inj hh).symm
  have h1 := hdig.1
  have h2 := hdig.2
  omega
theorem netT_len {n k : Nat} {ts : List T} (hn : n ≤ 10) (hk : k ≤ 6) (h : ∀ x ∈ ts, x.m ≤ 10 ^ 30 ∧ x.a < n ∧ x.b < n) : (netT n k ts).length ≤ 39 * ts.length + 10 := by
  unfold netT
  rw [len_app, len_app, len_app, len_app]
  have := recT_len hn h
  have := sN_len2 (n := n) (by omega)
  have := sN_len2 (n := k) (by omega)
  have : (" " : Str).length = 1 := by decide +kernel
  omega
theorem part_tie (x : T) : Txt.partition (tieT x) ":" = (sN x.m, (":" : Str), sN x.a ++ "-" ++ sN x.b) := by
  have e : tieT x = sN x.m ++ ":" ++ (sN x.a ++ "-" ++ sN x.b) := by
    unfold tieT
    rw [app_assoc (sN x.m ++ ":"), app_assoc (sN x.m ++ ":")]
  rw [e]
  exact partition_app e_c (sN_free (by decide))
theorem part_ends (a b : Nat) : Txt.partition (sN a ++ "-" ++ sN b) "-" = (sN a, ("-" : Str), sN b) := partition_app e_d (sN_free (by decide))
theorem part_net (n k : Nat) (ts : List T) : Txt.partition (netT n k ts) " " = (sN n, (" " : Str), sN k ++ " " ++ recT ts) := by
  have e : netT n k ts = sN n ++ " " ++ (sN k ++ " " ++ recT ts) := by
    unfold netT
    rw [app_assoc (sN n ++ " "), app_assoc (sN n ++ " "), app_assoc (sN k)]
  rw [e]
  exact partition_app e_b (sN_free (by decide))
theorem part_rest (k : Nat) (r : Str) : Txt.partition (sN k ++ " " ++ r) " " = (sN k, (" " : Str), r) := partition_app e_b (sN_free (by decide))
theorem split_rec {x : T} {r : List T} : Txt.split (recT (x :: r)) "; " = (x :: r).map tieT := split_join e_s (by decide +kernel) (by simp) fun p hp => by
  obtain ⟨y, _, rfl⟩ := List.mem_map.mp hp
  exact tieT_free (by decide) (by decide) (by decide)
/-- what a move's text begins with -/
theorem split_mov {x : T} {r : List T} : (Txt.split (Txt.join ", " ((x :: r).map movT)) ", ") = (x :: r).map movT := split_join e_k (by decide +kernel) (by simp) fun p hp => by
  obtain ⟨y, _, rfl⟩ := List.mem_map.mp hp
  unfold movT
  rw [join_eq, tl_join, e_b]
  show 44 ∉ tl (sN y.m) ++ ([32] ++ (tl (sN y.a) ++ ([32] ++ tl (sN y.b))))
  intro hm
  have f := fun n => sN_free (n := n) (s := 44) (by decide)
  rcases List.mem_append.mp hm with hm | hm
  · exact f _ hm
  rcases List.mem_append.mp hm with hm | hm
  · exact absurd (List.mem_singleton.mp hm) (by decide)
  rcases List.mem_append.mp hm with hm | hm
  · exact f _ hm
  rcases List.mem_append.mp hm with hm | hm
  · exact absurd (List.mem_singleton.mp hm) (by decide)
  · exact f _ hm
theorem movT_first (m : Nat) : movT ⟨m, 0, 1⟩ = sN m ++ " 0 1" := by
  unfold movT
  rw [join_eq]
  show sN m ++ " " ++ (sN 0 ++ " " ++ sN 1) = _
  rw [app_assoc]
  have e : (" " : Str) ++ (sN 0 ++ " " ++ sN 1) = " 0 1" := by decide +kernel
  rw [e]
theorem movT_len {x : T} (h1 : x.m ≤ 10 ^ 30) (h2 : x.a < 100) (h3 : x.b < 100) : (movT x).length ≤ 40 := by
  unfold movT
  have h := joinS_len " " [sN x.m, sN x.a, sN x.b]
  have e1 : (" " : Str).length = 1 := by decide +kernel
  have := sN_len h1
  have := sN_len2 h2
  have := sN_len2 h3
  rw [e1] at h
  have e2 : ([sN x.m, sN x.a, sN x.b].map (·.length)).sum = (sN x.m).length + ((sN x.a).length + ((sN x.b).length + 0)) := rfl
  have e3 : [sN x.m, sN x.a, sN x.b].length = 3 := rfl
  omega
end SP
set_option maxRecDepth 100000
set_option maxHeartbeats 4000000
namespace SP
open PySem PySem.Spec PyProof.Rows L2 TL
theorem sl_of {n m : Nat} (h : n ≤ m) (hm : m ≤ 10000000) : n ≤ sizeLine := Nat.le_trans h (Nat.le_trans hm (by rw [sizeLine_eq]; decide))
structure Ok2 (x : Tie) : Prop where
  m : x.m ≤ 10 ^ 30
  a : x.a < 100
  b : x.b < 100
theorem Ok.two {n : Nat} {x : Tie} (o : Ok n x) (h : n ≤ 10) : Ok2 x := ⟨o.m, by have := o.a; omega, by have := o.b; omega⟩
def spTieText : Sp := fun vs H Q _ => ∃ (p : Addr) (x : Tie), vs = [.ref p] ∧ H p = some (tieO x) ∧ Ok2 x ∧ Q (.str (tieT x)) H
def spRecText : Sp := fun vs H Q _ => ∃ (l : Addr) (ts : List Tie), vs = [.ref l] ∧ RecAt H l ts ∧ ts.length ≤ 60 ∧ (∀ x ∈ ts, Ok2 x) ∧ ∀ H', Same H H' → Q (.str (recT ts)) H'
def spNetText : Sp := fun vs H Q _ => ∃ (n k : Nat) (a l : Addr) (ts : List Tie), vs = [.ref a] ∧ H a = some (netO n k l) ∧ RecAt H l ts ∧ NetOk n k ts ∧ ∀ H', Same H H' → Q (.str (netT n k ts)) H'
def spNumIn : Sp := fun vs H Q _ => ∃ n : Nat, vs = [.str (sN n)] ∧ n ≤ 10 ^ 30 ∧ ∀ H', Same H H' → Q (nV n) H'
def spTieIn : Sp := fun vs H Q _ => ∃ x : Tie, vs = [.str (tieT x)] ∧ Ok2 x ∧ ∀ H' p, Same H H' → H p = none → H' p = some (tieO x) → Q (.ref p) H'
def spReadRec : Sp := fun vs H Q _ => ∃ (n : Nat) (ts : List Tie), vs = [nV n, .str (recT ts)] ∧ n ≤ 10 ∧ (∀ x ∈ ts, Ok n x) ∧ Up ts ∧ ts.length ≤ 60 ∧ ∀ H' p, Same H H' → H p = none → RecAt H' p ts → Q (.ref p) H'
def spReadNet : Sp := fun vs H Q _ => ∃ (n k : Nat) (ts : List Tie), vs = [.str (netT n k ts)] ∧ NetOk n k ts ∧ ∀ H' p l', Same H H' → H p = none → H l' = none → H' p = some (netO n k l') → RecAt H' l' ts → Q (.ref p) H'
theorem Same.refl' (H : Hp) : Same H H := fun _ _ e => e
theorem iteFb {b : Bool} {A B : Prop} (h : b = false) (hB : B) : if b = true then A else B := by
  subst h
  exact iteF hB
theorem iteTb {b : Bool} {A B : Prop} (h : b = true) (hA : A) : if b = true then A else B := by
  subst h
  exact iteT hA
theorem sN_at {x : Str} {i d : Nat} (h : x.cps[i]? = some d) : d ∈ tl x := List.mem_of_getElem? (i := i) (by rw [← h]; simp)
theorem sign_eq {c : Nat} (h : V.str (⟨#[c]⟩ : Str) = V.str ("0" : Str)) : c = 48 := by
  have e := congrArg tl (V.str.inj h)
  have e2 : tl (⟨#[c]⟩ : Str) = [c] := rfl
  have e3 : tl ("0" : Str) = [48] := by decide +kernel
  rw [e2, e3] at e
  exact (List.cons.inj e).1
section
variable {P : Program} {w : World} {K : PySem.W.Frag} {mg : Str → Option Value} {base : Heap} {f : Addr} {fd : FuncData}
abbrev N_tie_text : List Str := ["tie", "moment", "a", "b"]
theorem sc_tie_text : FnScope N_tie_text ["tie"] (defScope s_tie_text) := ⟨rfl, rfl, rfl, by decide +kernel, rfl, by decide +kernel, by decide +kernel⟩
theorem ok_tie_text (T : Txt K mg) (F : FunD K "tie_text" "tie_text" (defArgs s_tie_text) (defBody s_tie_text) (defScope s_tie_text) [] [] f fd) : FnOk P w K mg base CX0 1 f fd ["tie"] spTieText := by
  refine F.ok sc_tie_text (fun vs H Q E h => ?_) (fun cdv A outer s H vs Q E hr h => ?_)
  · obtain ⟨_, _, rfl, _⟩ := h
    rfl
  obtain ⟨p, x, rfl, hp, o, q⟩ := h
  refine ⟨_, PSs.nox (pss_cons (ps_asg (pv 0) (pg_tup rfl (pgs_cons (pg_name (i := 1) sc_tie_text.nd rfl (Or.inl rfl)) (pgs_cons (pg_name (i := 2) sc_tie_text.nd rfl (Or.inl rfl)) (pgs_cons (pg_name (i := 3) sc_tie_text.nd rfl (Or.inl rfl)) pgs_nil)))))
      (pss_one (ps_ret (pe_op op_add_str (pe_op op_add_str (pe_op op_add_str (pe_op op_add_str (pe_callTy call_str_int (by rfl) T.str (by decide +kernel) (pa_cons (pv 1) pa_nil)) pe_str) (pe_callTy call_str_int (by rfl) T.str (by decide +kernel) (pa_cons (pv 2) pa_nil))) pe_str) (pe_callTy call_str_int (by rfl) T.str (by decide +kernel) (pa_cons (pv 3) pa_nil)))))), ?_⟩
  have l1 : (sN x.m).length ≤ 31 := sN_len o.m
  have l2 := sN_len2 o.a
  have l3 := sN_len2 o.b
  have c1 : (":" : Str).length = 1 := by decide +kernel
  have c2 : ("-" : Str).length = 1 := by decide +kernel
  have e1 : (sN x.m ++ ":").length ≤ 32 := by rw [len_app]; omega
  have e2 : (sN x.m ++ ":" ++ sN x.a).length ≤ 34 := by rw [len_app]; omega
  have e3 : (sN x.m ++ ":" ++ sN x.a ++ "-").length ≤ 35 := by rw [len_app]; omega
  refine ⟨_, rfl, p, _, rfl, SqT.of hp, rfl, _, _, rfl, _, _, rfl, _, _, rfl, rfl, ?_⟩
  refine ⟨_, rfl, _, rfl, sN_log o.m, _, _, rfl, rfl, sl_of (m := 40) (by show (sN x.m).length + _ ≤ _; omega) (by decide), ?_⟩
  refine ⟨_, rfl, _, rfl, sN_log (Nat.le_trans (Nat.le_of_lt o.a) (by decide)), _, _, rfl, rfl, sl_of (m := 40) (by show (sN x.m ++ ":").length + (sN x.a).length ≤ _; omega) (by decide), ?_⟩
  refine ⟨_, _, rfl, rfl, sl_of (m := 40) (by show (sN x.m ++ ":" ++ sN x.a).length + _ ≤ _; omega) (by decide), ?_⟩
  refine ⟨_, rfl, _, rfl, sN_log (Nat.le_trans (Nat.le_of_lt o.b) (by decide)), _, _, rfl, rfl, sl_of (m := 40) (by show (sN x.m ++ ":" ++ sN x.a ++ "-").length + (sN x.b).length ≤ _; omega) (by decide), ?_⟩
  exact q
abbrev N_record_text : List Str := ["record", "tie"]
theorem sc_record_text : FnScope N_record_text ["record"] (defScope s_record_text) := ⟨rfl, rfl, rfl, by decide +kernel, rfl, by decide +kernel, by decide +kernel⟩
theorem ok_record_text (T : Txt K mg) (C_tie_text : Cal P w K mg base CX0 "tie_text" 1 ["tie"] spTieText) (F : FunD K "record_text" "record_text" (defArgs s_record_text) (defBody s_record_text) (defScope s_record_text) [] [] f fd) : FnOk P w K mg base CX0 2 f fd ["record"] spRecText := by
  refine F.ok sc_record_text (fun vs H Q E h => ?_) (fun cdv A outer s H vs Q E hr h => ?_)
  · obtain ⟨_, _, rfl, _⟩ := h
    rfl
  obtain ⟨l, ts, rfl, ⟨us, hl, ht⟩, hlen, ok, q⟩ := h
  have hul := ht.len
  refine ⟨_, PSs.nox (pss_cons (ps_if (pt_cmpR (op_eqD hr.units) (pv 0) (pe_lst pa_nil) (nomark _)) (pss_one (ps_ret (pe_g T.NOTHING))) pss_nil)
      (pss_one (ps_ret (pe_join pe_str (pe_lc (own := [("tie", 1)]) rfl sc_record_text.nd (pi_list (pv 0)) (blkOk_by (own := [("tie", 1)]) (N := N_record_text) (sc := defScope s_record_text) (by decide +kernel)) (fun _ _ _ _ _ => (pg_name (i := 1) sc_record_text.nd rfl (Or.inl rfl))) (fun _ _ _ _ _ => pts_nil) (fun _ _ _ _ _ => (pe_cal C_tie_text (hr.mono (by decide)) pass0 (pa_cons (pv 1) pa_nil)))))))), ?_⟩
  refine ⟨_, rfl, Nat.zero_le _, fun e0 he0 => ?_⟩
  have s1 := same_new (o := .lst []) he0
  refine ⟨_, _, .lst (SqL.of (s1 _ _ hl)) (dp_ties (ht.same s1)), .lst (SqL.of upd_same) .nil, shaped_ties _, rfl, _, rfl, ?_⟩
  rw [eqv_nil]
  cases ts with
  | nil =>
    refine iteT ?_
    obtain ⟨v, hv, rv⟩ := T.NOTHING
    exact q _ s1
  | cons x r =>
    refine iteF ?_
    refine ⟨⟨_, rfl⟩, ?_⟩
    refine ⟨_, rfl, l, rfl, ⟨_, SqL.of (s1 _ _ hl)⟩, fun D hD => lc_list (K := K) (a := l) (xs := us) (fun i H' => Same H H' ∧ H' D = some (.lst ((((x :: r).take i).map tieT).map V.str))) ?_ ?_ ?_ ?_⟩
    · exact ⟨s1.trans (same_new hD), upd_same⟩
    · exact fun i H' _ ⟨sm, _⟩ => SqL.of (sm _ _ hl)
    · rintro i v H' hi ⟨sm, hacc⟩
      obtain ⟨p, y, rfl, hy, hp⟩ := ht.get hi
      have hi2 : i < us.length := (List.getElem?_eq_some_iff.mp hi).1
      refine ⟨rfl, _, rfl, p, y, rfl, sm _ _ hp, ok y (List.mem_of_getElem? hy), _, hacc, small1000 (by rw [List.length_map, List.length_map, List.length_take]; omega), same_upd sm (s1.free hD), ?_⟩
      rw [take_succ hy, List.map_append, List.map_append]
      exact upd_same
    rintro H2 ⟨s2, hacc⟩
    rw [hul, List.take_length] at hacc
    refine ⟨_, D, (x :: r).map tieT, rfl, rfl, .inl (SqL.of hacc), ?_, q _ s2⟩
    have h2 : (((x :: r).map tieT).map (·.length)).sum ≤ 37 * ((x :: r).map tieT).length := sum_le fun y hy => by
      obtain ⟨z, hz, rfl⟩ := List.mem_map.mp hy
      have o := ok z hz
      exact tieT_len o.m o.a o.b
    have h3 : ("; " : Str).length = 2 := by decide +kernel
    show _ + _ * ("; " : Str).length ≤ _
    rw [h3]
    rw [List.length_map] at h2 ⊢
    omega
abbrev N_net_text : List Str := ["net", "n", "k", "ties"]
theorem sc_net_text : FnScope N_net_text ["net"] (defScope s_net_text) := ⟨rfl, rfl, rfl, by decide +kernel, rfl, by decide +kernel, by decide +kernel⟩
theorem ok_net_text (T : Txt K mg) (C_is_net : Cal P w K mg base CX0 "is_net" 6 ["thing"] spIsNet) (C_record_text : Cal P w K mg base CX0 "record_text" 2 ["record"] spRecText) (F : FunD K "net_text" "net_text" (defArgs s_net_text) (defBody s_net_text) (defScope s_net_text) [] [] f fd) : FnOk P w K mg base CX0 7 f fd ["net"] spNetText := by
  refine F.ok sc_net_text (fun vs H Q E h => ?_) (fun cdv A outer s H vs Q E hr h => ?_)
  · obtain ⟨_, _, _, _, _, rfl, _⟩ := h
    rfl
  obtain ⟨n, k, a, l, ts, rfl, ha, hl, on, q⟩ := h
  refine ⟨_, PSs.nox (pss_cons (ps_if (pt_not (pt_val (pe_cal C_is_net (hr.mono (by decide)) pass0 (pa_cons (pv 0) pa_nil)))) pss_never pss_nil)
      (pss_cons (ps_asg (pv 0) (pg_tup rfl (pgs_cons (pg_name (i := 1) sc_net_text.nd rfl (Or.inl rfl)) (pgs_cons (pg_name (i := 2) sc_net_text.nd rfl (Or.inl rfl)) (pgs_cons (pg_name (i := 3) sc_net_text.nd rfl (Or.inl rfl)) pgs_nil)))))
      (pss_one (ps_ret (pe_op op_add_str (pe_op op_add_str (pe_op op_add_str (pe_op op_add_str (pe_callTy call_str_int (by rfl) T.str (by decide +kernel) (pa_cons (pv 1) pa_nil)) pe_str) (pe_callTy call_str_int (by rfl) T.str (by decide +kernel) (pa_cons (pv 2) pa_nil))) pe_str) (pe_cal C_record_text (hr.mono (by decide)) pass0 (pa_cons (pv 3) pa_nil))))))), ?_⟩
  refine ⟨_, rfl, n, k, a, l, ts, rfl, ha, hl, on, fun H1 s1 => ⟨true, rfl, iteF ?_⟩⟩
  have n2 := on.n2
  have k2 := on.k2
  have l1 := sN_len2 (n := n) (by omega)
  have l2 := sN_len2 (n := k) (by omega)
  have c1 : (" " : Str).length = 1 := by decide +kernel
  have e1 : (sN n ++ " ").length ≤ 3 := by rw [len_app]; omega
  have e2 : (sN n ++ " " ++ sN k).length ≤ 5 := by rw [len_app]; omega
  have e3 : (sN n ++ " " ++ sN k ++ " ").length ≤ 6 := by rw [len_app]; omega
  refine ⟨_, rfl, a, _, rfl, SqT.of (s1 _ _ ha), rfl, _, _, rfl, _, _, rfl, _, _, rfl, rfl, ?_⟩
  refine ⟨_, rfl, _, rfl, sN_log (Nat.le_trans on.n2 (by decide)), _, _, rfl, rfl, sl_of (m := 40) (by show (sN n).length + (" " : Str).length ≤ _; omega) (by decide), ?_⟩
  refine ⟨_, rfl, _, rfl, sN_log (Nat.le_trans on.k2 (by decide)), _, _, rfl, rfl, sl_of (m := 40) (by show (sN n ++ " ").length + (sN k).length ≤ _; omega) (by decide), ?_⟩
  refine ⟨_, _, rfl, rfl, sl_of (m := 40) (by show (sN n ++ " " ++ sN k).length + (" " : Str).length ≤ _; omega) (by decide), ?_⟩
  refine ⟨_, rfl, l, ts, rfl, hl.same s1, on.len, fun x hx => (on.ok x hx).two n2, fun H2 s2 => ?_⟩
  have hr2 := recT_len (ts := ts) n2 fun x hx => ⟨(on.ok x hx).m, (on.ok x hx).a, (on.ok x hx).b⟩
  have hl60 := on.len
  refine ⟨_, _, rfl, rfl, sl_of (m := 4000) (by show (sN n ++ " " ++ sN k ++ " ").length + (recT ts).length ≤ _; omega) (by decide), ?_⟩
  exact q _ (s1.trans s2)
abbrev N_number_in_texts : List Str := ["text", "sign"]
theorem sc_number_in_texts : FnScope N_number_in_texts ["text"] (defScope s_number_in_texts) := ⟨rfl, rfl, rfl, by decide +kernel, rfl, by decide +kernel, by decide +kernel⟩
theorem ok_number_in_texts (T : Txt K mg) (F : FunD K "number_in" "number_in" (defArgs s_number_in_texts) (defBody s_number_in_texts) (defScope s_number_in_texts) [] [] f fd) : FnOk P w K mg base CX0 1 f fd ["text"] spNumIn := by
  refine F.ok sc_number_in_texts (fun vs H Q E h => ?_) (fun cdv A outer s H vs Q E hr h => ?_)
  · obtain ⟨_, rfl, _⟩ := h
    rfl
  obtain ⟨n, rfl, hn, q⟩ := h
  have l1 := sN_len hn
  have l0 := sN_pos n
  obtain ⟨c, r, hc, h48⟩ := sN_head n
  refine ⟨_, PSs.nox (pss_cons (ps_if (PW.pt (pw_or (pt_not (pt_chain op_le op_le pe_int (pe_callB call_len_str (by rfl) T.len (by decide +kernel) (pa_cons (pv 0) pa_nil)) (pe_g T.MOST_FIGURES_texts))) (pw_or1 (PW.pt (pw_and (pt_cmpR op_eq (pe_ix ix_str (pv 0) pe_int (fun _ _ => rfl)) pe_str (nomark _)) (pw_and1 (pt_cmpR op_ne (pv 0) pe_str (nomark _)))))))) pss_never pss_nil)
      (pss_cons (ps_for PassesOwn.never rfl (pi_str (pv 0)) (pg_name (i := 1) sc_number_in_texts.nd rfl (Or.inl rfl))
      (pss_one (ps_if (pt_cmpR op_notIn_sign (pv 1) (pe_g T.FIGURES_texts) rfl) pss_never pss_nil)))
      (pss_one (ps_ret (pe_callTy call_int_str (by rfl) T.int (by decide +kernel) (pa_cons (pv 0) pa_nil)))))), ?_⟩
  refine ⟨_, rfl, _, rfl, sl_of (m := 40) (by omega) (by decide), _, _, rfl, rfl, ?_⟩
  refine ⟨_, rfl, ite2 (fun _ => ?_) (fun z => absurd (dT (by omega)) z)⟩
  refine ⟨_, _, rfl, rfl, true, congrArg V.bl (dT (by omega)), iteF ?_⟩
  have hat : atI (sN n).cps.toList 0 = some c := atI_nat (j := 0) (by rw [show (sN n).cps.toList = c :: r from hc]; rfl)
  refine ⟨_, rfl, _, _, _, rfl, rfl, sl_of (m := 40) (by omega) (by decide), hat, rfl, _, rfl, ?_⟩
  refine ite2 (fun z => ⟨_, rfl, rfl, _, rfl, iteFb (by rw [show decide (V.str (sN n) = V.str ("0" : Str)) = true from dT (by rw [h48 (sign_eq (of_decide_eq_true z))])]; rfl) ?_⟩) (fun z => ?_)
  all_goals
    refine ⟨_, rfl, _, rfl, for_it (walk_str (z := sN n)) (fun i σ H' => H' = H ∧ ∃ v, σ = [some (.str (sN n)), v]) ⟨rfl, _, rfl⟩ (fun _ _ _ _ _ => trivial) ?_ ?_⟩
    · rintro i v σ H1 H2 hi ⟨rfl, v1, rfl⟩ ⟨rfl, d, hd, rfl⟩
      refine ⟨_, rfl, d, _, rfl, rfl, _, rfl, ?_⟩
      rw [show decide (d ∈ ("0123456789" : Str).cps.toList) = true from dT (sN_dig n d (sN_at hd))]
      exact iteF ⟨rfl, _, rfl⟩
    · rintro σ H1 ⟨rfl, v1, rfl⟩
      exact ⟨_, rfl, _, _, rfl, sN_int hn, by omega, q _ (Same.refl' _)⟩
abbrev N_tie_in : List Str := ["text", "moment", "colon", "ends", "a", "dash", "b"]
theorem sc_tie_in : FnScope N_tie_in ["text"] (defScope s_tie_in) := ⟨rfl, rfl, rfl, by decide +kernel, rfl, by decide +kernel, by decide +kernel⟩
theorem ok_tie_in (T : Txt K mg) (C_number_in_texts : Cal P w K mg base CX0 "number_in_texts" 1 ["text"] spNumIn) (F : FunD K "tie_in" "tie_in" (defArgs s_tie_in) (defBody s_tie_in) (defScope s_tie_in) [] [] f fd) : FnOk P w K mg base CX0 2 f fd ["text"] spTieIn := by
  refine F.ok sc_tie_in (fun vs H Q E h => ?_) (fun cdv A outer s H vs Q E hr h => ?_)
  · obtain ⟨_, rfl, _⟩ := h
    rfl
  obtain ⟨x, rfl, o, q⟩ := h
  have l0 := tieT_len o.m o.a o.b
  refine ⟨_, PSs.nox (pss_cons (ps_asg (pe_partition (pv 0) pe_str) (pg_tup rfl (pgs_cons (pg_name (i := 1) sc_tie_in.nd rfl (Or.inl rfl)) (pgs_cons (pg_name (i := 2) sc_tie_in.nd rfl (Or.inl rfl)) (pgs_cons (pg_name (i := 3) sc_tie_in.nd rfl (Or.inl rfl)) pgs_nil)))))
      (pss_cons (ps_asg (pe_partition (pv 3) pe_str) (pg_tup rfl (pgs_cons (pg_name (i := 4) sc_tie_in.nd rfl (Or.inl rfl)) (pgs_cons (pg_name (i := 5) sc_tie_in.nd rfl (Or.inl rfl)) (pgs_cons (pg_name (i := 6) sc_tie_in.nd rfl (Or.inl rfl)) pgs_nil)))))
      (pss_one (ps_ret (pe_tup (pa_cons (pe_cal C_number_in_texts (hr.mono (by decide)) pass0 (pa_cons (pv 1) pa_nil)) (pa_cons (pe_cal C_number_in_texts (hr.mono (by decide)) pass0 (pa_cons (pv 4) pa_nil)) (pa_cons (pe_cal C_number_in_texts (hr.mono (by decide)) pass0 (pa_cons (pv 6) pa_nil)) pa_nil)))))))), ?_⟩
  refine ⟨_, rfl, ⟨_, rfl⟩, _, _, rfl, rfl, by decide +kernel, sl_of (m := 40) (by omega) (by decide), fun p hp => ?_⟩
  rw [part_tie]
  have s1 := same_new (o := .tup [.str (sN x.m), .str (":" : Str), .str (sN x.a ++ "-" ++ sN x.b)]) hp
  refine ⟨p, _, rfl, SqT.of upd_same, rfl, _, _, rfl, _, _, rfl, _, _, rfl, rfl, ?_⟩
  have l2 : (sN x.a ++ "-" ++ sN x.b).length ≤ 40 := by
    have c2 : ("-" : Str).length = 1 := by decide +kernel
    have := sN_len2 o.a
    have := sN_len2 o.b
    rw [len_app, len_app]
    omega
  refine ⟨_, rfl, ⟨_, rfl⟩, _, _, rfl, rfl, by decide +kernel, sl_of l2 (by decide), fun p2 hp2 => ?_⟩
  rw [part_ends]
  have s2 := s1.trans (same_new (o := .tup [.str (sN x.a), .str ("-" : Str), .str (sN x.b)]) hp2)
  refine ⟨p2, _, rfl, SqT.of upd_same, rfl, _, _, rfl, _, _, rfl, _, _, rfl, rfl, ?_⟩
  refine ⟨_, rfl, x.m, rfl, o.m, fun H3 s3 => ?_⟩
  refine ⟨_, rfl, x.a, rfl, Nat.le_trans (Nat.le_of_lt o.a) (by decide), fun H4 s4 => ?_⟩
  refine ⟨_, rfl, x.b, rfl, Nat.le_trans (Nat.le_of_lt o.b) (by decide), fun H5 s5 => ?_⟩
  have s6 := s2.trans (s3.trans (s4.trans s5))
  refine ⟨by show 3 ≤ sizeLine; decide, fun p3 hp3 => ?_⟩
  exact q _ p3 (s6.trans (same_new hp3)) (s6.free hp3) upd_same
abbrev N_read_record : List Str := ["n", "text", "record", "part"]
theorem sc_read_record : FnScope N_read_record ["n", "text"] (defScope s_read_record) := ⟨rfl, rfl, rfl, by decide +kernel, rfl, by decide +kernel, by decide +kernel⟩
theorem ok_read_record (T : Txt K mg) (C_tie_in : Cal P w K mg base CX0 "tie_in" 2 ["text"] spTieIn) (C_is_record : Cal P w K mg base CX0 "is_record" 5 ["n", "thing"] spRecord) (F : FunD K "read_record" "read_record" (defArgs s_read_record) (defBody s_read_record) (defScope s_read_record) [] [] f fd) : FnOk P w K mg base CX0 6 f fd ["n", "text"] spReadRec := by
  refine F.ok sc_read_record (fun vs H Q E h => ?_) (fun cdv A outer s H vs Q E hr h => ?_)
  · obtain ⟨_, _, rfl, _⟩ := h
    rfl
  obtain ⟨n, ts, rfl, hn, ok, up, hlen, q⟩ := h
  refine ⟨_, PSs.nox (pss_cons (ps_if (pt_cmpR op_eq (pv 1) (pe_g T.NOTHING) (nomark _)) (pss_one (ps_ret (pe_lst pa_nil))) pss_nil)
      (pss_cons (ps_setLc (i := 2) (own := [("part", 3)]) rfl sc_read_record.nd rfl rfl (sw_true rfl rfl rfl (by decide +kernel)) (pi_list (pe_split (pv 1) pe_str)) (blkOk_by (own := [("part", 3)]) (N := N_read_record) (sc := defScope s_read_record) (by decide +kernel)) (fun _ _ _ _ _ => (pg_name (i := 3) sc_read_record.nd rfl (Or.inl rfl))) (fun _ _ _ _ _ => pts_nil) (fun _ _ _ _ _ => (pe_cal C_tie_in (hr.mono (by decide)) pass0 (pa_cons (pv 3) pa_nil))))
      (pss_cons (ps_if (pt_not (pt_val (pe_cal C_is_record (hr.mono (by decide)) pass0 (pa_cons (pv 0) (pa_cons (pv 2) pa_nil))))) pss_never pss_nil)
      (pss_one (ps_ret (pv 2)))))), ?_⟩
  cases ts with
  | nil =>
    refine ⟨_, rfl, rfl, _, rfl, ?_⟩
    rw [show decide (V.str (recT []) = V.str ("none" : Str)) = true from decide_eq_true rfl]
    refine iteT ?_
    refine ⟨Nat.zero_le _, fun p hp => ?_⟩
    exact q _ p (same_new hp) hp ⟨[], upd_same, .nil⟩
  | cons x r =>
    refine ⟨_, rfl, rfl, _, rfl, ?_⟩
    rw [show decide (V.str (recT (x :: r)) = V.str ("none" : Str)) = false from decide_eq_false fun z => recT_none (V.str.inj z)]
    refine iteF ?_
    have l0 := recT_len (ts := x :: r) hn fun y hy => ⟨(ok y hy).m, (ok y hy).a, (ok y hy).b⟩
    refine ⟨_, rfl, ⟨_, rfl⟩, _, _, rfl, rfl, by decide +kernel, sl_of (m := 4000) (by omega) (by decide), fun p hp => ?_⟩
    rw [split_rec]
    have s1 := same_new (o := .lst (((x :: r).map tieT).map V.str)) hp
    refine ⟨p, rfl, ⟨_, SqL.of upd_same⟩, fun D hD => lc_list (K := K) (a := p) (xs := ((x :: r).map tieT).map V.str) (fun i H' => Same (upd H p (.lst (((x :: r).map tieT).map V.str))) H' ∧ ∃ acc, H' D = some (.lst acc) ∧ TsAt H' acc ((x :: r).take i) ∧ acc.length = i) ?_ ?_ ?_ ?_⟩
    · exact ⟨same_new hD, [], upd_same, .nil, rfl⟩
    · exact fun i H' _ ⟨sm, _⟩ => SqL.of (sm _ _ upd_same)
    · rintro i v H' hi ⟨sm, acc, hacc, ta, hal⟩
      rw [List.getElem?_map, List.getElem?_map] at hi
      cases hy : (x :: r)[i]? with
      | none => rw [hy] at hi; cases hi
      | some y =>
        rw [hy] at hi
        obtain rfl : V.str (tieT y) = v := Option.some.inj hi
        have hi2 : i < (x :: r).length := (List.getElem?_eq_some_iff.mp hy).1
        refine ⟨rfl, _, rfl, y, rfl, (ok y (List.mem_of_getElem? hy)).two hn, fun H2 t s2 htn ht => ?_⟩
        have hacc2 := s2 _ _ hacc
        refine ⟨acc, hacc2, small1000 (by omega), same_upd (sm.trans s2) hD, _, upd_same, ?_, by rw [List.length_append, List.length_singleton, hal]⟩
        rw [take_succ hy]
        refine ((ta.same s2).put hacc2).app (.one ?_)
        rw [upd_ne (ne_of ht hacc2 (by intro z; cases z))]
        exact ht
    rintro H2 ⟨s2, acc, hacc, ta, _⟩
    have el : (((x :: r).map tieT).map V.str).length = (x :: r).length := by rw [List.length_map, List.length_map]
    rw [el, List.take_length] at ta
    refine ⟨_, rfl, _, rfl, n, D, x :: r, rfl, ⟨acc, hacc, ta⟩, ok, up, hlen, fun H3 s3 => ⟨true, rfl, iteF ?_⟩⟩
    exact ⟨_, rfl, q _ D (s1.trans (s2.trans s3)) (s1.free hD) ⟨acc, s3 _ _ hacc, ta.same s3⟩⟩
abbrev N_read_net : List Str := ["text", "places", "blank", "rest", "layers", "gap", "ties", "n", "k", "net"]
theorem sc_read_net : FnScope N_read_net ["text"] (defScope s_read_net) := ⟨rfl, rfl, rfl, by decide +kernel, rfl, by decide +kernel, by decide +kernel⟩
theorem ok_read_net (T : Txt K mg) (C_number_in_texts : Cal P w K mg base CX0 "number_in_texts" 1 ["text"] spNumIn) (C_is_many : Cal P w K mg base CX0 "is_many" 2 ["thing"] spMany) (C_read_record : Cal P w K mg base CX0 "read_record" 6 ["n", "text"] spReadRec) (C_is_net : Cal P w K mg base CX0 "is_net" 6 ["thing"] spIsNet) (F : FunD K "read_net" "read_net" (defArgs s_read_net) (defBody s_read_net) (defScope s_read_net) [] [] f fd) : FnOk P w K mg base CX0 7 f fd ["text"] spReadNet := by
  refine F.ok sc_read_net (fun vs H Q E h => ?_) (fun cdv A outer s H vs Q E hr h => ?_)
  · obtain ⟨_, _, _, rfl, _⟩ := h
    rfl
  obtain ⟨n, k, ts, rfl, on, q⟩ := h
  have l0 := netT_len (ts := ts) on.n2 on.k2 fun x hx => ⟨(on.ok x hx).m, (on.ok x hx).a, (on.ok x hx).b⟩
  have hl60 := on.len
  have l1 := recT_len (ts := ts) on.n2 fun x hx => ⟨(on.ok x hx).m, (on.ok x hx).a, (on.ok x hx).b⟩
  refine ⟨_, PSs.nox (pss_cons (ps_asg (pe_partition (pv 0) pe_str) (pg_tup rfl (pgs_cons (pg_name (i := 1) sc_read_net.nd rfl (Or.inl rfl)) (pgs_cons (pg_name (i := 2) sc_read_net.nd rfl (Or.inl rfl)) (pgs_cons (pg_name (i := 3) sc_read_net.nd rfl (Or.inl rfl)) pgs_nil)))))
      (pss_cons (ps_asg (pe_partition (pv 3) pe_str) (pg_tup rfl (pgs_cons (pg_name (i := 4) sc_read_net.nd rfl (Or.inl rfl)) (pgs_cons (pg_name (i := 5) sc_read_net.nd rfl (Or.inl rfl)) (pgs_cons (pg_name (i := 6) sc_read_net.nd rfl (Or.inl rfl)) pgs_nil)))))
      (pss_cons (ps_set (i := 7) sc_read_net.nd rfl (Or.inl rfl) (pe_cal C_number_in_texts (hr.mono (by decide)) pass0 (pa_cons (pv 1) pa_nil)))
      (pss_cons (ps_set (i := 8) sc_read_net.nd rfl (Or.inl rfl) (pe_cal C_number_in_texts (hr.mono (by decide)) pass0 (pa_cons (pv 4) pa_nil)))
      (pss_cons (ps_if (pt_not (pt_val (pe_cal C_is_many (hr.mono (by decide)) pass0 (pa_cons (pv 7) pa_nil)))) pss_never pss_nil)
      (pss_cons (ps_set (i := 9) sc_read_net.nd rfl (Or.inl rfl) (pe_tup (pa_cons (pv 7) (pa_cons (pv 8) (pa_cons (pe_cal C_read_record (hr.mono (by decide)) pass0 (pa_cons (pv 7) (pa_cons (pv 6) pa_nil))) pa_nil)))))
      (pss_cons (ps_if (pt_not (pt_val (pe_cal C_is_net (hr.mono (by decide)) pass0 (pa_cons (pv 9) pa_nil)))) pss_never pss_nil)
      (pss_one (ps_ret (pv 9)))))))))), ?_⟩
  refine ⟨_, rfl, ⟨_, rfl⟩, _, _, rfl, rfl, by decide +kernel, sl_of (m := 4000) (by omega) (by decide), fun p hp => ?_⟩
  rw [part_net]
  have s1 := same_new (o := .tup [.str (sN n), .str (" " : Str), .str (sN k ++ " " ++ recT ts)]) hp
  refine ⟨p, _, rfl, SqT.of upd_same, rfl, _, _, rfl, _, _, rfl, _, _, rfl, rfl, ?_⟩
  have l2 : (sN k ++ " " ++ recT ts).length ≤ 4000 := by
    have c2 : (" " : Str).length = 1 := by decide +kernel
    have k2 := on.k2
    have := sN_len2 (n := k) (by omega)
    rw [len_app, len_app]
    omega
  refine ⟨_, rfl, ⟨_, rfl⟩, _, _, rfl, rfl, by decide +kernel, sl_of l2 (by decide), fun p2 hp2 => ?_⟩
  rw [part_rest]
  have s2 := s1.trans (same_new (o := .tup [.str (sN k), .str (" " : Str), .str (recT ts)]) hp2)
  refine ⟨p2, _, rfl, SqT.of upd_same, rfl, _, _, rfl, _, _, rfl, _, _, rfl, rfl, ?_⟩
  refine ⟨_, rfl, n, rfl, Nat.le_trans on.n2 (by decide), fun H3 s3 => ?_⟩
  refine ⟨_, rfl, k, rfl, Nat.le_trans on.k2 (by decide), fun H4 s4 => ?_⟩
  have n1 := on.n1
  have n2 := on.n2
  refine ⟨_, rfl, _, rfl, true, congrArg V.bl (and_tt (dT (by omega)) (dT (by omega))), iteF ?_⟩
  have s5 := s2.trans (s3.trans s4)
  refine ⟨_, rfl, _, rfl, _, rfl, _, rfl, n, ts, rfl, n2, on.ok, on.up, on.len, fun H6 l s6 hln hl => ?_⟩
  refine ⟨by show 3 ≤ sizeLine; decide, fun d hd => ?_⟩
  have s7 := same_new (o := .tup [nV n, nV k, .ref l]) hd
  have s8 := s5.trans (s6.trans s7)
  refine ⟨_, rfl, n, k, d, l, ts, rfl, upd_same, hl.same s7, on, fun H9 s9 => ⟨true, rfl, iteF ?_⟩⟩
  refine ⟨_, rfl, ?_⟩
  exact q _ d l (s8.trans s9) ((s5.trans s6).free hd) (s5.free hln) (s9 _ _ upd_same) ((hl.same s7).same s9)
end
end SP
set_option maxRecDepth 100000
set_option maxHeartbeats 4000000
namespace SP
open PySem PySem.Spec PyProof.Rows L2 TL
structure DTxt (K : PySem.W.Frag) (mg : Str → Option Value) (C : Addr) : Prop where
  cl : Cls K C
  nK : NoAttr K C "keeper"
  g : mg "Desk" = some (.ref C)
structure CTxt (K : PySem.W.Frag) (w : World) (mg : Str → Option Value) (dC : Addr) : Prop where
  g : Glo mg "COUNTS" (.ref dC)
  kd : ∃ es n, KDict K w dC es n
  v : ∀ q ∈ [(("web" : Str), 2), ("tie", 3), ("forget", 1), ("back", 0), ("net", 0)], ∃ u, PySem.W.nsIn K dC q.1 = some (some u) ∧ RelV (nV q.2) u
def sVs (ws : List Str) : List V := ws.map V.str
def movesT (ms : List Tie) : Str := match ms with
  | [] => "none"
  | x :: r => Txt.join ", " ((x :: r).map movT)
def kd (C d : Addr) (kp : Addr) (dx : Addr) : HO := .ins C dx [("keeper", .ref kp)]
theorem lk_keeper (v : V) : List.lookup ("keeper" : Str) [(("keeper" : Str), v)] = some v := by
  rw [lk_cons, if_pos rfl]
theorem lk_dno (v : V) {m : Str} (h : ¬ m = "keeper") : List.lookup m [(("keeper" : Str), v)] = none := by
  rw [lk_cons, if_neg h]
  rfl
theorem put_keeper (u v : V) : putF "keeper" u [(("keeper" : Str), v)] = [(("keeper" : Str), u)] := by
  show (if ("keeper" : Str) = "keeper" then [(("keeper" : Str), u)] else _) = _
  rw [if_pos rfl]
def spWords : Sp := fun vs H Q _ => ∃ ws : List Str, vs = [.str (rowT ws)] ∧ ws ≠ [] ∧ (∀ x ∈ ws, Wd x) ∧ (rowT ws).length ≤ 1000000 ∧ ∀ H' p, Same H H' → H p = none → H' p = some (.lst (sVs ws)) → Q (.ref p) H'
def spNumsOf (K : PySem.W.Frag) (dC : Addr) : Sp := fun vs H Q _ => ∃ (p : Addr) (w0 : Str) (ns : List Nat), vs = [.ref p] ∧ H p = some (.lst (.str w0 :: sVs (ns.map sN))) ∧ ns.length ≤ 100 ∧ (∀ n ∈ ns, n ≤ 10 ^ 30) ∧
  (∃ u, PySem.W.nsIn K dC w0 = some (some u) ∧ RelV (nV ns.length) u) ∧ ∀ H' q, Same H H' → H q = none → H' q = some (.lst (ns.map nV)) → Q (.ref q) H'
def spPlaces : Sp := fun vs H Q _ => ∃ (p : Addr) (x : Tie), vs = [.ref p] ∧ H p = some (tieO x) ∧ MovOk x ∧ ∀ H', Same H H' → Q (.str (movT x)) H'
def spMovesShown : Sp := fun vs H Q _ => ∃ (l : Addr) (ms : List Tie), vs = [.ref l] ∧ RecAt H l ms ∧ ms.length ≤ 10 ∧ (∀ x ∈ ms, MovOk x) ∧ ∀ H', Same H H' → Q (.str (movesT ms)) H'
def spDInit (CD : Addr) : Sp := fun vs H Q _ => ∃ (d dx : Addr), vs = [.ref d] ∧ H d = some (.ins CD dx []) ∧ Q .non (upd H d (.ins CD dx [("keeper", .non)]))
def spLook (CD : Addr) : Sp := fun vs H Q _ => ∃ (d dx kp : Addr), vs = [.ref d] ∧ H d = some (.ins CD dx [("keeper", .ref kp)]) ∧ Q .non H
/-- a desk with its keeper -/
structure DkAt (H : Hp) (CD C d kp pl : Addr) (L : Addr → Prop) (st : KS) : Prop where
  d : ∃ dx, H d = some (.ins CD dx [("keeper", .ref kp)])
  k : KpAt H C kp pl L st
  ok : KOk st
  fresh : ∀ l, H l = none → L l
theorem DkAt.same {H H' : Hp} {CD C d kp pl : Addr} {L : Addr → Prop} {st : KS} (s : Same H H') (a : DkAt H CD C d kp pl L st) : DkAt H' CD C d kp pl L st :=
  ⟨let ⟨dx, h⟩ := a.d; ⟨dx, s _ _ h⟩, a.k.same s, a.ok, fresh_same s a.fresh⟩
def CanCome (st : KS) (x : Tie) : Prop := Ok st.n x ∧ st.first ≤ x.m ∧ st.kept.length + 1 ≤ 60 ∧ ∀ y ∈ st.kept, y.m ≠ x.m
def CanLay (st : KS) (us : List Tie) : Prop := NetOk st.n st.k us ∧ st.kept.length + us.length ≤ 60 ∧ OneTie (st.kept ++ us)
def GoodMoves (st : KS) (x : Tie) (ms : List Tie) : Prop := (∃ r, ms = ⟨x.m, 0, 1⟩ :: r) ∧ (st.kept = [] → x.a ≠ x.b → ms = [⟨x.m, 0, 1⟩]) ∧ ms.length ≤ 10 ∧ ∀ y ∈ ms, MovOk y
/-- what is asked and what is told, row by row, of a desk that has a keeper -/
def Row1 (C CN : Addr) (kp pl : Addr) (L : Addr → Prop) (st : KS) (H : Hp) (w0 : Str) (ns : List Nat) (Q : VK) (E : XK) : Prop :=
  (∃ x : Tie, w0 = "tie" ∧ ns = [x.m, x.a, x.b] ∧ CanCome st x ∧ ∀ H' ms, Fr [kp, pl] H H' → GoodMoves st x ms → KpAt H' C kp pl L (comeT st x) → Q (.str (movesT ms)) H') ∨
  (∃ t : Nat, w0 = "forget" ∧ ns = [t] ∧ t ≤ 10 ^ 30 ∧ ∀ H', Fr [kp, pl] H H' → KpAt H' C kp pl L (forgetT st t) → Q (.str "ok") H') ∨
  (w0 = "back" ∧ ns = [] ∧ (st.past = [] → ∀ H', Same H H' → E (.ref CN) none H') ∧ ∀ ts f r, st.past = (ts, f) :: r → ∀ H', Fr [kp, pl] H H' → KpAt H' C kp pl L { st with kept := ts, first := f, past := r } → Q (.str "ok") H')
def spLaidOn (CD C : Addr) : Sp := fun vs H Q _ => ∃ (d kp pl : Addr) (L : Addr → Prop) (st : KS) (us : List Tie), vs = [.ref d, .str (netT st.n st.k us)] ∧ DkAt H CD C d kp pl L st ∧ CanLay st us ∧
  ∀ H', Fr [kp, pl] H H' → KpAt H' C kp pl L (layT st us) → Q (.str "ok") H'
def spDeed (CD C CN : Addr) : Sp := fun vs H Q E => ∃ (d kp pl q : Addr) (L : Addr → Prop) (st : KS) (w0 : Str) (ns : List Nat), vs = [.ref d, .str w0, .ref q] ∧ DkAt H CD C d kp pl L st ∧ H q = some (.lst (ns.map nV)) ∧ Row1 C CN kp pl L st H w0 ns Q E
def spAnswered : Sp := fun vs H Q _ => ∃ (d ns a l : Addr) (n k : Nat) (ts : List Tie), vs = [.ref d, .str ("net" : Str), .ref ns, .ref a] ∧ H a = some (netO n k l) ∧ RecAt H l ts ∧ NetOk n k ts ∧ ∀ H', Same H H' → Q (.str (netT n k ts)) H'
def spSay (CD C CN : Addr) : Sp := fun vs H Q E =>
  (∃ (d dx : Addr) (v : V) (n k : Nat), vs = [.ref d, .str (rowT ["web", sN n, sN k])] ∧ 1 ≤ n ∧ n ≤ 10 ∧ 1 ≤ k ∧ k ≤ 6 ∧ H d = some (.ins CD dx [("keeper", v)]) ∧
    ∀ H' kp pl, Fr [d] H H' → H kp = none → H pl = none → kp ≠ pl → H' d = some (.ins CD dx [("keeper", .ref kp)]) → KpAt H' C kp pl (fun l => H l = none ∧ l ≠ kp ∧ l ≠ pl) ⟨n, k, [], 0, []⟩ → Q (.str "ok") H') ∨
  (∃ (d kp pl : Addr) (L : Addr → Prop) (st : KS), DkAt H CD C d kp pl L st ∧
    ((∃ w0 ns, vs = [.ref d, .str (rowT (w0 :: ns.map sN))] ∧ Row1 C CN kp pl L st H w0 ns Q E) ∨
     (vs = [.ref d, .str "net"] ∧ ∀ H', Same H H' → Q (.str (netT st.n st.k st.kept)) H') ∨
     (∃ us, vs = [.ref d, .str ("lay " ++ netT st.n st.k us)] ∧ CanLay st us ∧ ∀ H', Fr [kp, pl] H H' → KpAt H' C kp pl L (layT st us) → Q (.str "ok") H')))
theorem no_empty {ws : List Str} (h : ∀ x ∈ ws, Wd x) : inV (.str "") (sVs ws) = false := by
  unfold inV sVs
  rw [List.any_map, List.any_eq_false]
  intro x hx z
  have z2 : (x == ("" : Str)) = true := z
  exact (h x hx).1 (eq_of_beq z2)
theorem flat_strs (ws : List Str) : (sVs ws).all flatV = true := by
  unfold sVs
  rw [List.all_map, List.all_eq_true]
  exact fun _ _ => rfl
theorem cut1 (x : V) (l : List V) : cutV (x :: l) (some 1) none = l := by
  unfold cutV
  rw [show HT.sIx (x :: l).length 0 (some 1) = 1 from by
    show min (1 : Int).toNat (l.length + 1) = 1
    omega]
  show (l.take _) = l
  exact List.take_of_length_le (by show l.length ≤ l.length + 1 - 1; omega)
section
variable {P : Program} {w : World} {K : PySem.W.Frag} {mg : Str → Option Value} {base : Heap} {f C CN CD dC : Addr} {fd : FuncData}
abbrev N_number_in_desk : List Str := ["word", "sign"]
theorem sc_number_in_desk : FnScope N_number_in_desk ["word"] (defScope s_number_in_desk) := ⟨rfl, rfl, rfl, by decide +kernel, rfl, by decide +kernel, by decide +kernel⟩
theorem ok_number_in_desk (T : Txt K mg) (F : FunD K "number_in" "number_in" (defArgs s_number_in_desk) (defBody s_number_in_desk) (defScope s_number_in_desk) [] [] f fd) : FnOk P w K mg base CX0 1 f fd ["word"] spNumIn := by
  refine F.ok sc_number_in_desk (fun vs H Q E h => ?_) (fun cdv A outer s H vs Q E hr h => ?_)
  · obtain ⟨_, rfl, _⟩ := h
    rfl
  obtain ⟨n, rfl, hn, q⟩ := h
  have l1 := sN_len hn
  have l0 := sN_pos n
  obtain ⟨c, r, hc, h48⟩ := sN_head n
  refine ⟨_, PSs.nox (pss_cons (ps_if (PW.pt (pw_or (pt_not (pt_chain op_le op_le pe_int (pe_callB call_len_str (by rfl) T.len (by decide +kernel) (pa_cons (pv 0) pa_nil)) (pe_g T.MOST_FIGURES_desk))) (pw_or1 (pt_cmpR (op_neD hr.units) (pe_lc (own := [("sign", 1)]) rfl sc_number_in_desk.nd (pi_str (pv 0)) (blkOk_by (own := [("sign", 1)]) (N := N_number_in_desk) (sc := defScope s_number_in_desk) (by decide +kernel)) (fun _ _ _ _ _ => (pg_name (i := 1) sc_number_in_desk.nd rfl (Or.inl rfl))) (fun _ _ _ _ _ => pts_one (pt_cmpR op_notIn_sign (pv 1) (pe_g T.FIGURES_desk) rfl)) (fun _ _ _ _ _ => (pv 1))) (pe_lst pa_nil) (nomark _))))) pss_never pss_nil)
      (pss_cons (ps_if (PW.pt (pw_and (pt_cmpR op_eq (pe_ix ix_str (pv 0) pe_int (fun _ _ => rfl)) pe_str (nomark _)) (pw_and1 (pt_cmpR op_ne (pv 0) pe_str (nomark _))))) pss_never pss_nil)
      (pss_one (ps_ret (pe_callTy call_int_str (by rfl) T.int (by decide +kernel) (pa_cons (pv 0) pa_nil)))))), ?_⟩
  refine ⟨_, rfl, _, rfl, sl_of (m := 40) (by omega) (by decide), _, _, rfl, rfl, ?_⟩
  refine ⟨_, rfl, ite2 (fun _ => ?_) (fun z => absurd (dT (by omega)) z)⟩
  refine ⟨_, _, rfl, rfl, true, congrArg V.bl (dT (by omega)), iteF ?_⟩
  refine ⟨_, rfl, _, rfl, fun D hD => lc_it (walk_str (z := sN n)) (fun i H' => Same H H' ∧ H' D = some (.lst [])) ⟨same_new hD, upd_same⟩ (fun _ _ _ _ => trivial) ?_ ?_⟩
  · rintro i v H1 H2 hi ⟨sm, he⟩ ⟨rfl, d, hd, rfl⟩
    refine ⟨rfl, _, rfl, d, _, rfl, rfl, _, rfl, ?_⟩
    rw [show decide (d ∈ ("0123456789" : Str).cps.toList) = true from dT (sN_dig n d (sN_at hd))]
    exact iteF ⟨sm, he⟩
  rintro H1 ⟨s1, he⟩
  refine ⟨Nat.zero_le _, fun e0 he0 => ?_⟩
  have s2 := same_new (o := .lst []) he0
  refine ⟨.list [], .list [], .lst (SqL.of (s2 _ _ he)) .nil, .lst (SqL.of upd_same) .nil, rfl, rfl, false, rfl, iteF ?_⟩
  have hat : atI (sN n).cps.toList 0 = some c := atI_nat (j := 0) (by rw [show (sN n).cps.toList = c :: r from hc]; rfl)
  refine ⟨_, rfl, _, _, _, rfl, rfl, sl_of (m := 40) (by omega) (by decide), hat, rfl, _, rfl, ?_⟩
  refine ite2 (fun z => ⟨_, rfl, rfl, _, rfl, iteFb (by rw [show decide (V.str (sN n) = V.str ("0" : Str)) = true from dT (by rw [h48 (sign_eq (of_decide_eq_true z))])]; rfl) ?_⟩) (fun z => ?_)
  all_goals exact ⟨_, rfl, _, _, rfl, sN_int hn, by omega, q _ (s1.trans s2)⟩
abbrev N_words_of : List Str := ["row", "words"]
theorem sc_words_of : FnScope N_words_of ["row"] (defScope s_words_of) := ⟨rfl, rfl, rfl, by decide +kernel, rfl, by decide +kernel, by decide +kernel⟩
theorem ok_words_of (T : Txt K mg) (F : FunD K "words_of" "words_of" (defArgs s_words_of) (defBody s_words_of) (defScope s_words_of) [] [] f fd) : FnOk P w K mg base CX0 1 f fd ["row"] spWords := by
  refine F.ok sc_words_of (fun vs H Q E h => ?_) (fun cdv A outer s H vs Q E hr h => ?_)
  · obtain ⟨_, rfl, _⟩ := h
    rfl
  obtain ⟨ws, rfl, hne, hw, hlen, q⟩ := h
  refine ⟨_, PSs.nox (pss_cons (ps_if (pt_not (pt_val (pe_callB call_isi (by rfl) T.isinstance (by decide +kernel) (pa_cons (pv 0) (pa_cons (pe_bltn (v := .ty "str") (by rfl) T.str (by decide +kernel) rfl) pa_nil))))) pss_never pss_nil)
      (pss_cons (ps_set (i := 1) sc_words_of.nd rfl (Or.inl rfl) (pe_split (pv 0) pe_str))
      (pss_cons (ps_if (pt_cmpR op_in_seq pe_str (pv 1) rfl) pss_never pss_nil)
      (pss_one (ps_ret (pv 1)))))), ?_⟩
  refine ⟨_, rfl, _, _, _, _, true, rfl, .ty _, .base (.str _), kit_ty (by decide +kernel), true, rfl, iteF ?_⟩
  refine ⟨_, rfl, ⟨_, rfl⟩, _, _, rfl, rfl, by decide +kernel, sl_of (m := 1000002) (by omega) (by decide), fun p hp => ?_⟩
  rw [split_row hne hw]
  refine ⟨_, rfl, p, _, rfl, .inl (SqL.of upd_same), rfl, flat_strs ws, _, rfl, ?_⟩
  show if inV (.str "") (sVs ws) = true then _ else _
  rw [no_empty hw]
  exact iteF ⟨_, rfl, q _ p (same_new hp) hp upd_same⟩
abbrev N_numbers_of : List Str := ["words", "word"]
theorem sc_numbers_of : FnScope N_numbers_of ["words"] (defScope s_numbers_of) := ⟨rfl, rfl, rfl, by decide +kernel, rfl, by decide +kernel, by decide +kernel⟩
theorem ok_numbers_of (T : Txt K mg) (CT : CTxt K w mg dC) (C_number_in_desk : Cal P w K mg base CX0 "number_in_desk" 1 ["word"] spNumIn) (F : FunD K "numbers_of" "numbers_of" (defArgs s_numbers_of) (defBody s_numbers_of) (defScope s_numbers_of) [] [] f fd) : FnOk P w K mg base CX0 2 f fd ["words"] (spNumsOf K dC) := by
  refine F.ok sc_numbers_of (fun vs H Q E h => ?_) (fun cdv A outer s H vs Q E hr h => ?_)
  · obtain ⟨_, _, _, rfl, _⟩ := h
    rfl
  obtain ⟨p, w0, ns, rfl, hp, hlen, hns, ⟨u, hu, ru⟩, q⟩ := h
  obtain ⟨es, n0, KD⟩ := CT.kd
  refine ⟨_, PSs.nox (pss_cons (ps_if (pt_cmpR op_ne (pe_kget2 KD (pe_g (v := .ref dC) CT.g) (pe_ix ix_list (pv 0) pe_int (fun _ _ => rfl)) (pe_un un_neg pe_int) ⟨rfl, rfl, rfl, rfl⟩) (pe_op op_sub (pe_callB call_len_seq (by rfl) T.len (by decide +kernel) (pa_cons (pv 0) pa_nil)) pe_int) (nomark _)) pss_never pss_nil)
      (pss_one (ps_ret (pe_lc (own := [("word", 1)]) rfl sc_numbers_of.nd (pi_list (pe_slice sl_list (pv 0) (po_some pe_int) po_none)) (blkOk_by (own := [("word", 1)]) (N := N_numbers_of) (sc := defScope s_numbers_of) (by decide +kernel)) (fun _ _ _ _ _ => (pg_name (i := 1) sc_numbers_of.nd rfl (Or.inl rfl))) (fun _ _ _ _ _ => pts_nil) (fun _ _ _ _ _ => (pe_cal C_number_in_desk (hr.mono (by decide)) pass0 (pa_cons (pv 1) pa_nil))))))), ?_⟩
  have hsl : (sVs (ns.map sN)).length = ns.length := by unfold sVs; rw [List.length_map, List.length_map]
  refine ⟨rfl, _, rfl, p, _, _, _, rfl, rfl, SqL.of hp, atI_nat (j := 0) rfl, _, rfl, _, some u, nV ns.length, rfl, hu, (fun _ e => by cases e; exact ru), (fun e => nomatch e), ?_⟩
  refine ⟨_, rfl, p, _, rfl, .inl (SqL.of hp), _, _, rfl, rfl, rfl, _, rfl, ?_⟩
  rw [show decide (nV ns.length = V.int (((V.str w0 :: sVs (ns.map sN)).length : Nat) - 1)) = true from dT (congrArg V.int (by rw [List.length_cons, hsl]; omega))]
  refine iteF ?_
  refine ⟨_, rfl, _, rfl, p, _, rfl, SqL.of hp, fun p2 hp2 => ?_⟩
  rw [cut1]
  have s1 := same_new (o := .lst (sVs (ns.map sN))) hp2
  refine ⟨p2, rfl, ⟨_, SqL.of upd_same⟩, fun D hD => lc_list (K := K) (a := p2) (xs := sVs (ns.map sN)) (fun i H' => Same (upd H p2 (.lst (sVs (ns.map sN)))) H' ∧ H' D = some (.lst ((ns.take i).map nV))) ?_ ?_ ?_ ?_⟩
  · exact ⟨same_new hD, upd_same⟩
  · exact fun i H' _ ⟨sm, _⟩ => SqL.of (sm _ _ upd_same)
  · rintro i v H' hi ⟨sm, hacc⟩
    unfold sVs at hi
    rw [List.getElem?_map, List.getElem?_map] at hi
    cases hy : ns[i]? with
    | none => rw [hy] at hi; cases hi
    | some y =>
      rw [hy] at hi
      obtain rfl : V.str (sN y) = v := Option.some.inj hi
      refine ⟨rfl, _, rfl, y, rfl, hns y (List.mem_of_getElem? hy), fun H2 s2 => ?_⟩
      refine ⟨_, s2 _ _ hacc, small1000 (by rw [List.length_map, List.length_take]; omega), same_upd (sm.trans s2) hD, ?_⟩
      rw [take_succ hy, List.map_append]
      exact upd_same
  rintro H2 ⟨s2, hacc⟩
  rw [hsl, List.take_length] at hacc
  exact q _ D (s1.trans s2) (s1.free hD) hacc
abbrev N_places_shown : List Str := ["places", "place"]
theorem sc_places_shown : FnScope N_places_shown ["places"] (defScope s_places_shown) := ⟨rfl, rfl, rfl, by decide +kernel, rfl, by decide +kernel, by decide +kernel⟩
theorem ok_places_shown (T : Txt K mg) (F : FunD K "places_shown" "places_shown" (defArgs s_places_shown) (defBody s_places_shown) (defScope s_places_shown) [] [] f fd) : FnOk P w K mg base CX0 1 f fd ["places"] spPlaces := by
  refine F.ok sc_places_shown (fun vs H Q E h => ?_) (fun cdv A outer s H vs Q E hr h => ?_)
  · obtain ⟨_, _, rfl, _⟩ := h
    rfl
  obtain ⟨p, x, rfl, hp, ⟨o1, o2, o3⟩, q⟩ := h
  refine ⟨_, PSs.nox (pss_one (ps_ret (pe_join pe_str (pe_lc (own := [("place", 1)]) rfl sc_places_shown.nd (pi_tup (pv 0)) (blkOk_by (own := [("place", 1)]) (N := N_places_shown) (sc := defScope s_places_shown) (by decide +kernel)) (fun _ _ _ _ _ => (pg_name (i := 1) sc_places_shown.nd rfl (Or.inl rfl))) (fun _ _ _ _ _ => pts_nil) (fun _ _ _ _ _ => (pe_callTy call_str_int (by rfl) T.str (by decide +kernel) (pa_cons (pv 1) pa_nil))))))), ?_⟩
  have hb : ∀ n ∈ [x.m, x.a, x.b], n ≤ 10 ^ 30 := by
    intro n hn
    rcases List.mem_cons.mp hn with z | hn
    · rw [z]; exact o1
    rcases List.mem_cons.mp hn with z | hn
    · rw [z]; exact Nat.le_trans o2 (by decide)
    · rw [List.mem_singleton.mp hn]; exact Nat.le_trans o3 (by decide)
  refine ⟨⟨_, rfl⟩, _, rfl, p, rfl, ⟨_, SqT.of hp⟩, fun D hD => lc_tup (K := K) (a := p) (xs := [x.m, x.a, x.b].map nV) (fun i H' => Same H H' ∧ H' D = some (.lst (sVs (([x.m, x.a, x.b].take i).map sN)))) ?_ ?_ ?_ ?_⟩
  · exact ⟨same_new hD, upd_same⟩
  · exact fun i H' _ ⟨sm, _⟩ => SqT.of (sm _ _ hp)
  · rintro i v H' hi ⟨sm, hacc⟩
    rw [List.getElem?_map] at hi
    cases hy : [x.m, x.a, x.b][i]? with
    | none => rw [hy] at hi; cases hi
    | some y =>
      rw [hy] at hi
      obtain rfl : nV y = v := Option.some.inj hi
      refine ⟨rfl, _, rfl, _, rfl, sN_log (hb y (List.mem_of_getElem? hy)), _, hacc, small1000 (by unfold sVs; rw [List.length_map, List.length_map, List.length_take]; show min i 3 ≤ _; omega), same_upd sm hD, ?_⟩
      unfold sVs
      rw [take_succ hy, List.map_append, List.map_append]
      exact upd_same
  rintro H2 ⟨s2, hacc⟩
  refine ⟨_, D, [sN x.m, sN x.a, sN x.b], rfl, rfl, .inl (SqL.of hacc), ?_, q _ s2⟩
  have := sN_len o1
  have := sN_len2 (n := x.a) (by omega)
  have := sN_len2 (n := x.b) (by omega)
  have c1 : (" " : Str).length = 1 := by decide +kernel
  show (sN x.m).length + ((sN x.a).length + ((sN x.b).length + 0)) + 3 * (" " : Str).length ≤ _
  omega
theorem movesT_cons {x : Tie} {r : List Tie} : movesT (x :: r) = Txt.join ", " ((x :: r).map movT) := rfl
abbrev N_moves_shown : List Str := ["told", "move"]
theorem sc_moves_shown : FnScope N_moves_shown ["told"] (defScope s_moves_shown) := ⟨rfl, rfl, rfl, by decide +kernel, rfl, by decide +kernel, by decide +kernel⟩
theorem ok_moves_shown (T : Txt K mg) (C_places_shown : Cal P w K mg base CX0 "places_shown" 1 ["places"] spPlaces) (F : FunD K "moves_shown" "moves_shown" (defArgs s_moves_shown) (defBody s_moves_shown) (defScope s_moves_shown) [] [] f fd) : FnOk P w K mg base CX0 2 f fd ["told"] spMovesShown := by
  refine F.ok sc_moves_shown (fun vs H Q E h => ?_) (fun cdv A outer s H vs Q E hr h => ?_)
  · obtain ⟨_, _, rfl, _⟩ := h
    rfl
  obtain ⟨l, ts, rfl, ⟨us, hl, ht⟩, hlen, ok, q⟩ := h
  have hul := ht.len
  refine ⟨_, PSs.nox (pss_cons (ps_if (pt_cmpR (op_eqD hr.units) (pv 0) (pe_lst pa_nil) (nomark _)) (pss_one (ps_ret pe_str)) pss_nil)
      (pss_one (ps_ret (pe_join pe_str (pe_lc (own := [("move", 1)]) rfl sc_moves_shown.nd (pi_list (pv 0)) (blkOk_by (own := [("move", 1)]) (N := N_moves_shown) (sc := defScope s_moves_shown) (by decide +kernel)) (fun _ _ _ _ _ => (pg_name (i := 1) sc_moves_shown.nd rfl (Or.inl rfl))) (fun _ _ _ _ _ => pts_nil) (fun _ _ _ _ _ => (pe_cal C_places_shown (hr.mono (by decide)) pass0 (pa_cons (pv 1) pa_nil)))))))), ?_⟩
  refine ⟨_, rfl, Nat.zero_le _, fun e0 he0 => ?_⟩
  have s1 := same_new (o := .lst []) he0
  refine ⟨_, _, .lst (SqL.of (s1 _ _ hl)) (dp_ties (ht.same s1)), .lst (SqL.of upd_same) .nil, shaped_ties _, rfl, _, rfl, ?_⟩
  rw [eqv_nil]
  cases ts with
  | nil => exact iteT (q _ s1)
  | cons x r =>
    refine iteF ?_
    refine ⟨⟨_, rfl⟩, ?_⟩
    refine ⟨_, rfl, l, rfl, ⟨_, SqL.of (s1 _ _ hl)⟩, fun D hD => lc_list (K := K) (a := l) (xs := us) (fun i H' => Same H H' ∧ H' D = some (.lst (sVs (((x :: r).take i).map movT)))) ?_ ?_ ?_ ?_⟩
    · exact ⟨s1.trans (same_new hD), upd_same⟩
    · exact fun i H' _ ⟨sm, _⟩ => SqL.of (sm _ _ hl)
    · rintro i v H' hi ⟨sm, hacc⟩
      obtain ⟨p, y, rfl, hy, hp⟩ := ht.get hi
      have hi2 : i < us.length := (List.getElem?_eq_some_iff.mp hi).1
      refine ⟨rfl, _, rfl, p, y, rfl, sm _ _ hp, ok y (List.mem_of_getElem? hy), fun H2 s2 => ⟨_, s2 _ _ hacc, small1000 (by unfold sVs; rw [List.length_map, List.length_map, List.length_take]; omega), same_upd (sm.trans s2) (s1.free hD), ?_⟩⟩
      unfold sVs
      rw [take_succ hy, List.map_append, List.map_append]
      exact upd_same
    rintro H2 ⟨s2, hacc⟩
    rw [hul, List.take_length] at hacc
    refine ⟨_, D, (x :: r).map movT, rfl, rfl, .inl (SqL.of hacc), ?_, q _ s2⟩
    have h2 : (((x :: r).map movT).map (·.length)).sum ≤ 40 * ((x :: r).map movT).length := sum_le fun y hy => by
      obtain ⟨z, hz, rfl⟩ := List.mem_map.mp hy
      obtain ⟨o1, o2, o3⟩ := ok z hz
      exact movT_len o1 (by omega) (by omega)
    have h3 : (", " : Str).length = 2 := by decide +kernel
    show _ + _ * (", " : Str).length ≤ _
    rw [h3]
    rw [List.length_map] at h2 ⊢
    omega
abbrev N_DeskInit : List Str := ["self"]
theorem sc_DeskInit : FnScope N_DeskInit ["self"] (defScope s_DeskInit) := ⟨rfl, rfl, rfl, by decide +kernel, rfl, by decide +kernel, by decide +kernel⟩
theorem ok_DeskInit (T : Txt K mg) (DT : DTxt K mg CD) (F : FunD K "__init__" "Desk.__init__" (defArgs s_DeskInit) (defBody s_DeskInit) (defScope s_DeskInit) [] [] f fd) : FnOk P w K mg base CX0 1 f fd ["self"] (spDInit CD) := by
  refine F.ok sc_DeskInit (fun vs H Q E h => ?_) (fun cdv A outer s H vs Q E hr h => ?_)
  · obtain ⟨_, _, rfl, _⟩ := h
    rfl
  obtain ⟨d, dx, rfl, hd, q⟩ := h
  refine ⟨_, PSs.nox (pss_one (ps_fld (pv 0) pe_non rfl)), ?_⟩
  exact ⟨_, rfl, d, CD, dx, _, rfl, hd, DT.cl, DT.nK, by show 0 < 1000; decide, q⟩
abbrev N_Desk_look_for_keeper : List Str := ["self"]
theorem sc_Desk_look_for_keeper : FnScope N_Desk_look_for_keeper ["self"] (defScope s_Desk_look_for_keeper) := ⟨rfl, rfl, rfl, by decide +kernel, rfl, by decide +kernel, by decide +kernel⟩
theorem ok_Desk_look_for_keeper (T : Txt K mg) (DT : DTxt K mg CD) (F : FunD K "look_for_keeper" "Desk.look_for_keeper" (defArgs s_Desk_look_for_keeper) (defBody s_Desk_look_for_keeper) (defScope s_Desk_look_for_keeper) [] [] f fd) : FnOk P w K mg base CX0 1 f fd ["self"] (spLook CD) := by
  refine F.ok sc_Desk_look_for_keeper (fun vs H Q E h => ?_) (fun cdv A outer s H vs Q E hr h => ?_)
  · obtain ⟨_, _, _, rfl, _⟩ := h
    rfl
  obtain ⟨d, dx, kp, rfl, hd, q⟩ := h
  refine ⟨_, PSs.nox (pss_one (ps_if (pt_cmpR op_isN (pe_fld (pv 0) rfl) pe_non (nomark _)) pss_never pss_nil)), ?_⟩
  refine ⟨_, rfl, d, CD, dx, _, _, rfl, hd, DT.cl, DT.nK, lk_keeper _, rfl, false, rfl, iteF ?_⟩
  exact q
abbrev N_Desk_laid_on : List Str := ["self", "text"]
theorem sc_Desk_laid_on : FnScope N_Desk_laid_on ["self", "text"] (defScope s_Desk_laid_on) := ⟨rfl, rfl, rfl, by decide +kernel, rfl, by decide +kernel, by decide +kernel⟩
theorem ok_Desk_laid_on (T : Txt K mg) (KT : KTxt K mg C) (DT : DTxt K mg CD) (M_look : CalM P w K mg base CX0 CD "look_for_keeper" 1 ["self"] (spLook CD)) (C_read_net : Cal P w K mg base CX0 "read_net" 7 ["text"] spReadNet)
    (M_lay : CalM P w K mg base CX0 C "lay" 9 ["self", "net"] (spLay C)) (F : FunD K "laid_on" "Desk.laid_on" (defArgs s_Desk_laid_on) (defBody s_Desk_laid_on) (defScope s_Desk_laid_on) [] [] f fd) : FnOk P w K mg base CX0 10 f fd ["self", "text"] (spLaidOn CD C) := by
  refine F.ok sc_Desk_laid_on (fun vs H Q E h => ?_) (fun cdv A outer s H vs Q E hr h => ?_)
  · obtain ⟨_, _, _, _, _, _, rfl, _⟩ := h
    rfl
  obtain ⟨d, kp, pl, L, st, us, rfl, hD, ⟨on, hlen, one⟩, q⟩ := h
  obtain ⟨dx, hd⟩ := hD.d
  have hK := hD.k
  obtain ⟨⟨kdx, ka, _, hkp, _⟩, _⟩ := hD.k
  refine ⟨_, PSs.nox (pss_cons (ps_expr (pe_calm0 M_look DT.cl (hr.mono (by decide)) pass0 (pv 0)))
      (pss_cons (ps_expr (pe_calm M_lay KT.cl (hr.mono (by decide)) pass0 (pe_fld (pv 0) rfl) (pa_cons (pe_cal C_read_net (hr.mono (by decide)) pass0 (pa_cons (pv 1) pa_nil)) pa_nil)))
      (pss_one (ps_ret pe_str)))), ?_⟩
  refine ⟨_, rfl, d, dx, _, rfl, hd, lk_dno _ (by decide +kernel), d, dx, kp, rfl, hd, ?_⟩
  refine ⟨_, rfl, d, CD, dx, _, _, rfl, hd, DT.cl, DT.nK, lk_keeper _, kp, kdx, _, rfl, hkp, lk_no _ _ _ (by decide +kernel) (by decide +kernel) (by decide +kernel), ?_⟩
  refine ⟨_, rfl, st.n, st.k, us, rfl, on, fun H1 b l1 s1 hbn hln hb hl => ?_⟩
  refine ⟨kp, pl, b, l1, L, st, us, rfl, hK.same s1, hD.ok, fresh_same s1 hD.fresh, hb, hl, on, hlen, one, fun H2 f2 hK2 => ?_⟩
  exact q H2 ((Fr.of s1).trans f2) hK2
abbrev N_Desk_deed_told : List Str := ["self", "word", "numbers"]
theorem sc_Desk_deed_told : FnScope N_Desk_deed_told ["self", "word", "numbers"] (defScope s_Desk_deed_told) := ⟨rfl, rfl, rfl, by decide +kernel, rfl, by decide +kernel, by decide +kernel⟩
theorem ok_Desk_deed_told (T : Txt K mg) (KT : KTxt K mg C) (DT : DTxt K mg CD) (C_moves_shown : Cal P w K mg base CX0 "moves_shown" 2 ["told"] spMovesShown)
    (M_come : CalM P w K mg base CX0 C "come" 9 ["self", "tie"] (spCome C)) (M_forget : CalM P w K mg base CX0 C "forget" 9 ["self", "t"] (spForget C)) (M_back : CalM P w K mg base (L2.CX P w) C "back" 1 ["self"] (spBack C CN))
    (F : FunD K "deed_told" "Desk.deed_told" (defArgs s_Desk_deed_told) (defBody s_Desk_deed_told) (defScope s_Desk_deed_told) [] [] f fd) : FnOk P w K mg base (L2.CX P w) 10 f fd ["self", "word", "numbers"] (spDeed CD C CN) := by
  refine F.ok sc_Desk_deed_told (fun vs H Q E h => ?_) (fun cdv A outer s H vs Q E hr h => ?_)
  · obtain ⟨_, _, _, _, _, _, _, _, rfl, _⟩ := h
    rfl
  obtain ⟨d, kp, pl, nq, L, st, w0, ns, rfl, hD, hnq, hrow⟩ := h
  obtain ⟨dx, hd⟩ := hD.d
  have hK := hD.k
  obtain ⟨⟨kdx, ka, _, hkp, _⟩, _⟩ := hD.k
  refine ⟨_, (pss_cons (ps_if (pt_cmpR op_eq (pv 1) pe_str (nomark _)) (pss_one (ps_ret (pe_cal C_moves_shown (hr.mono (by decide)) pass0 (pa_cons (pe_calm M_come KT.cl (hr.mono (by decide)) pass0 (pe_fld (pv 0) rfl) (pa_cons (pe_callTy call_tuple_of (by rfl) T.tuple (by decide +kernel) (pa_cons (pv 2) pa_nil)) pa_nil)) pa_nil)))) pss_nil)
      (pss_cons (ps_if (pt_cmpR op_eq (pv 1) pe_str (nomark _)) (pss_one (ps_expr (pe_calm M_forget KT.cl (hr.mono (by decide)) pass0 (pe_fld (pv 0) rfl) (pa_cons (pe_ix ix_list (pv 2) pe_int (fun _ _ => rfl)) pa_nil)))) (pss_one (ps_expr (pe_calm0 M_back KT.cl (hr.mono (by decide)) (passes_call (takes_of rfl rfl rfl rfl) fun _ _ _ _ h => h) (pe_fld (pv 0) rfl)))))
      (pss_one (ps_ret pe_str)))), ?_⟩
  rcases hrow with ⟨x, rfl, rfl, ⟨ox, hfirst, hl1, hnew⟩, q⟩ | ⟨t, rfl, rfl, ht, q⟩ | ⟨rfl, rfl, qe, q⟩
  · refine ⟨_, rfl, rfl, true, rfl, iteT ?_⟩
    refine ⟨_, rfl, d, CD, dx, _, _, rfl, hd, DT.cl, DT.nK, lk_keeper _, kp, kdx, _, rfl, hkp, lk_no _ _ _ (by decide +kernel) (by decide +kernel) (by decide +kernel), ?_⟩
    refine ⟨_, rfl, nq, _, rfl, .inl ⟨SqL.of hnq, fun p hp => ?_⟩⟩
    have s1 := same_new (o := .tup [nV x.m, nV x.a, nV x.b]) hp
    refine ⟨kp, pl, p, L, st, x, rfl, hK.same s1, hD.ok, fresh_same s1 hD.fresh, upd_same, ox, hfirst, hl1, hnew, fun H2 r ms f2 hrn hms hmo hhd hex hml hK2 => ?_⟩
    refine ⟨r, ms, rfl, hms, hml, hmo, fun H3 s3 => ?_⟩
    refine q H3 ms (((Fr.of s1).trans f2).trans (Fr.of s3)) ⟨?_, hex, hml, hmo⟩ (hK2.same s3)
    cases ms with
    | nil => cases hhd
    | cons y r => exact ⟨r, congrArg (· :: r) (Option.some.inj hhd)⟩
  · refine ⟨_, rfl, rfl, false, rfl, iteF ?_⟩
    refine ⟨_, rfl, rfl, true, rfl, iteT ?_⟩
    refine ⟨_, rfl, d, CD, dx, _, _, rfl, hd, DT.cl, DT.nK, lk_keeper _, kp, kdx, _, rfl, hkp, lk_no _ _ _ (by decide +kernel) (by decide +kernel) (by decide +kernel), ?_⟩
    refine ⟨_, rfl, nq, _, _, _, rfl, rfl, SqL.of hnq, atI_nat (j := 0) rfl, ?_⟩
    exact ⟨kp, pl, L, st, t, rfl, ht, hK, hD.ok, hD.fresh, fun H2 f2 hK2 => q H2 f2 hK2⟩
  · refine ⟨_, rfl, rfl, false, rfl, iteF ?_⟩
    refine ⟨_, rfl, rfl, false, rfl, iteF ?_⟩
    refine ⟨_, rfl, d, CD, dx, _, _, rfl, hd, DT.cl, DT.nK, lk_keeper _, kp, kdx, _, rfl, hkp, lk_no _ _ _ (by decide +kernel) (by decide +kernel) (by decide +kernel), ?_⟩
    exact ⟨kp, pl, L, st, rfl, hK, hD.ok, qe, fun ts g r e H2 f2 hK2 => q ts g r e H2 f2 hK2⟩
abbrev N_Desk_answered : List Str := ["self", "word", "numbers", "net", "places"]
theorem sc_Desk_answered : FnScope N_Desk_answered ["self", "word", "numbers", "net"] (defScope s_Desk_answered) := ⟨rfl, rfl, rfl, by decide +kernel, rfl, by decide +kernel, by decide +kernel⟩
theorem ok_Desk_answered (T : Txt K mg) (C_net_text : Cal P w K mg base CX0 "net_text" 7 ["net"] spNetText) (F : FunD K "answered" "Desk.answered" (defArgs s_Desk_answered) (defBody s_Desk_answered) (defScope s_Desk_answered) [] [] f fd) : FnOk P w K mg base CX0 8 f fd ["self", "word", "numbers", "net"] spAnswered := by
  refine F.ok sc_Desk_answered (fun vs H Q E h => ?_) (fun cdv A outer s H vs Q E hr h => ?_)
  · obtain ⟨_, _, _, _, _, _, _, rfl, _⟩ := h
    rfl
  obtain ⟨d, ns, a, l, n, k, ts, rfl, ha, hl, on, q⟩ := h
  refine ⟨_, PSs.nox (pss_cons (ps_if (pt_cmpR op_eq (pv 1) pe_str (nomark _)) (pss_one (ps_ret (pe_cal C_net_text (hr.mono (by decide)) pass0 (pa_cons (pv 3) pa_nil)))) pss_nil) pss_never), ?_⟩
  refine ⟨_, rfl, rfl, true, rfl, iteT ?_⟩
  exact ⟨_, rfl, n, k, a, l, ts, rfl, ha, hl, on, q⟩
end
end SP
set_option maxRecDepth 100000
set_option maxHeartbeats 4000000
namespace SP
open PySem PySem.Spec PyProof.Rows L2 TL
theorem wd_word {x : Str} (h1 : (tl x).all (fun c => c != 32) = true) (h2 : tl x ≠ []) : Wd x := ⟨fun z => h2 (by rw [z]; decide +kernel), fun z => by
  have := List.all_eq_true.mp h1 32 z
  simp at this⟩
theorem wd_cons {w0 : Str} {ns : List Nat} (h : Wd w0) : ∀ x ∈ w0 :: ns.map sN, Wd x := fun x hx => by
  rcases List.mem_cons.mp hx with z | hx
  · rw [z]; exact h
  · obtain ⟨n, _, rfl⟩ := List.mem_map.mp hx
    exact wd_sN n
theorem row_len {w0 : Str} {ns : List Nat} (h0 : w0.length ≤ 10) (h1 : ns.length ≤ 3) (h2 : ∀ n ∈ ns, n ≤ 10 ^ 30) : (rowT (w0 :: ns.map sN)).length ≤ 1000000 := by
  have h := join_len (w0 :: ns.map sN)
  have h3 : ((ns.map sN).map (·.length)).sum ≤ 31 * (ns.map sN).length := sum_le fun x hx => by
    obtain ⟨n, hn, rfl⟩ := List.mem_map.mp hx
    exact sN_len (h2 n hn)
  rw [List.map_cons, List.sum_cons, List.length_cons] at h
  rw [List.length_map] at h h3
  omega
theorem wd_tie : Wd "tie" := wd_word (by decide +kernel) (by decide +kernel)
theorem wd_web : Wd "web" := wd_word (by decide +kernel) (by decide +kernel)
theorem wd_forget : Wd "forget" := wd_word (by decide +kernel) (by decide +kernel)
theorem wd_back : Wd "back" := wd_word (by decide +kernel) (by decide +kernel)
theorem wd_net : Wd "net" := wd_word (by decide +kernel) (by decide +kernel)
theorem wd_lay : Wd "lay" := wd_word (by decide +kernel) (by decide +kernel)
/-- what changed was not there ahead -/
theorem Fr.new {M : List Addr} {H H1 H2 : Hp} (s : Same H H1) (f : Fr M H1 H2) (h : ∀ m ∈ M, H m = none) : Same H H2 := fun b o e => f b o (s b o e) fun z => by
  rw [h b z] at e
  cases e
theorem wsR_len : ∀ ts : List T, (wsR ts).length ≤ ts.length + 1
  | [] => by show 1 ≤ 1; omega
  | [x] => by show 1 ≤ 2; omega
  | x :: y :: r => by
    have := wsR_len (y :: r)
    show (wsR (y :: r)).length + 1 ≤ (y :: r).length + 1 + 1
    omega
theorem wsR_le : ∀ {ts : List T}, (∀ y ∈ ts, Ok2 y) → ∀ x ∈ wsR ts, x.length ≤ 40
  | [], _, x, h => by
    rw [List.mem_singleton.mp h]
    decide +kernel
  | [t], o, x, h => by
    rw [List.mem_singleton.mp h]
    have z := o t (.head _)
    exact Nat.le_trans (tieT_len z.m z.a z.b) (by decide)
  | t :: y :: r, o, x, h => by
    rcases List.mem_cons.mp h with h | h
    · have z := o t (.head _)
      have := tieT_len z.m z.a z.b
      have c1 : (";" : Str).length = 1 := by decide +kernel
      rw [h, len_app]
      omega
    · exact wsR_le (fun z hz => o z (.tail _ hz)) x h
theorem Row1.same {C CN kp pl : Addr} {L : Addr → Prop} {st : KS} {H H' : Hp} {w0 : Str} {ns : List Nat} {Q : VK} {E : XK} (s : Same H H') (h : Row1 C CN kp pl L st H w0 ns Q E) : Row1 C CN kp pl L st H' w0 ns Q E := by
  rcases h with ⟨x, a, b, c, q⟩ | ⟨t, a, b, c, q⟩ | ⟨a, b, qe, q⟩
  · exact .inl ⟨x, a, b, c, fun H2 ms f2 => q H2 ms ((Fr.of s).trans f2)⟩
  · exact .inr (.inl ⟨t, a, b, c, fun H2 f2 => q H2 ((Fr.of s).trans f2)⟩)
  · exact .inr (.inr ⟨a, b, fun e H2 s2 => qe e H2 (s.trans s2), fun ts f r e H2 f2 => q ts f r e H2 ((Fr.of s).trans f2)⟩)
theorem Row1.bound {C CN kp pl : Addr} {L : Addr → Prop} {st : KS} {H : Hp} {w0 : Str} {ns : List Nat} {Q : VK} {E : XK} (n2 : st.n ≤ 10) (h : Row1 C CN kp pl L st H w0 ns Q E) :
    Wd w0 ∧ w0.length ≤ 10 ∧ ns.length ≤ 3 ∧ (∀ n ∈ ns, n ≤ 10 ^ 30) ∧ (w0, ns.length) ∈ [(("web" : Str), 2), ("tie", 3), ("forget", 1), ("back", 0), ("net", 0)] ∧ decide (V.str w0 = V.str ("lay" : Str)) = false ∧ decide (V.str w0 = V.str ("web" : Str)) = false ∧ inV (.str w0) [.str ("tie" : Str), .str ("forget" : Str), .str ("back" : Str)] = true := by
  rcases h with ⟨x, rfl, rfl, ⟨⟨h1, h2, _, h4⟩, _⟩, _⟩ | ⟨t, rfl, rfl, ht, _⟩ | ⟨rfl, rfl, _⟩
  · refine ⟨wd_tie, by decide +kernel, by show 3 ≤ 3; omega, fun n hn => ?_, .tail _ (.head _), by decide +kernel, by decide +kernel, by decide +kernel⟩
    rcases List.mem_cons.mp hn with z | hn
    · omega
    rcases List.mem_cons.mp hn with z | hn
    · rw [z]; exact Nat.le_trans (show x.a ≤ 10 by omega) (by decide)
    · rw [List.mem_singleton.mp hn]; exact Nat.le_trans (show x.b ≤ 10 by omega) (by decide)
  · refine ⟨wd_forget, by decide +kernel, by show 1 ≤ 3; omega, fun n hn => ?_, .tail _ (.tail _ (.head _)), by decide +kernel, by decide +kernel, by decide +kernel⟩
    rw [List.mem_singleton.mp hn]
    exact ht
  · exact ⟨wd_back, by decide +kernel, by show 0 ≤ 3; omega, (fun n hn => nomatch hn), .tail _ (.tail _ (.tail _ (.head _))), by decide +kernel, by decide +kernel, by decide +kernel⟩
section
variable {P : Program} {w : World} {K : PySem.W.Frag} {mg : Str → Option Value} {base : Heap} {f C CN CD dC : Addr} {fd : FuncData}
abbrev N_Desk_say : List Str := ["self", "row", "words", "numbers"]
theorem sc_Desk_say : FnScope N_Desk_say ["self", "row"] (defScope s_Desk_say) := ⟨rfl, rfl, rfl, by decide +kernel, rfl, by decide +kernel, by decide +kernel⟩
theorem ok_Desk_say (T : Txt K mg) (KT : KTxt K mg C) (DT : DTxt K mg CD) (CT : CTxt K w mg dC) (C_words_of : Cal P w K mg base CX0 "words_of" 1 ["row"] spWords) (C_numbers_of : Cal P w K mg base CX0 "numbers_of" 2 ["words"] (spNumsOf K dC))
    (M_look : CalM P w K mg base CX0 CD "look_for_keeper" 1 ["self"] (spLook CD)) (M_laid_on : CalM P w K mg base CX0 CD "laid_on" 10 ["self", "text"] (spLaidOn CD C)) (M_deed_told : CalM P w K mg base (L2.CX P w) CD "deed_told" 10 ["self", "word", "numbers"] (spDeed CD C CN))
    (M_answered : CalM P w K mg base CX0 CD "answered" 8 ["self", "word", "numbers", "net"] spAnswered) (M_net : CalM P w K mg base CX0 C "net" 1 ["self"] (spNet C)) (I_Keeper : CalI P w K mg base CX0 C 5 ["self", "n", "k"] (spKInit C))
    (F : FunD K "say" "Desk.say" (defArgs s_Desk_say) (defBody s_Desk_say) (defScope s_Desk_say) [] [] f fd) : FnOk P w K mg base (L2.CX P w) 11 f fd ["self", "row"] (spSay CD C CN) := by
  refine F.ok sc_Desk_say (fun vs H Q E h => ?_) (fun cdv A outer s H vs Q E hr h => ?_)
  · rcases h with ⟨_, _, _, _, _, rfl, _⟩ | ⟨_, _, _, _, _, _, ⟨_, _, rfl, _⟩ | ⟨rfl, _⟩ | ⟨_, rfl, _⟩⟩
    all_goals rfl
  refine ⟨_, (pss_cons (ps_set (i := 2) sc_Desk_say.nd rfl (Or.inl rfl) (pe_cal C_words_of (hr.mono (by decide)) pass0 (pa_cons (pv 1) pa_nil)))
      (pss_cons (ps_if (PW.pt (pw_and (pt_cmpR op_eq (pe_ix ix_list (pv 2) pe_int (fun _ _ => rfl)) pe_str (nomark _)) (pw_and1 (pt_cmpR op_gt (pe_callB call_len_seq (by rfl) T.len (by decide +kernel) (pa_cons (pv 2) pa_nil)) pe_int (nomark _))))) (pss_one (ps_ret (pe_calm M_laid_on DT.cl (hr.mono (by decide)) pass0 (pv 0) (pa_cons (pe_join pe_str (pe_slice sl_list (pv 2) (po_some pe_int) po_none)) pa_nil)))) pss_nil)
      (pss_cons (ps_set (i := 3) sc_Desk_say.nd rfl (Or.inl rfl) (pe_cal C_numbers_of (hr.mono (by decide)) pass0 (pa_cons (pv 2) pa_nil)))
      (pss_cons (ps_if (pt_cmpR op_eq (pe_ix ix_list (pv 2) pe_int (fun _ _ => rfl)) pe_str (nomark _)) (pss_cons (ps_fld (pv 0) (pe_cali I_Keeper KT.g (hr.mono (by decide)) pass0 (pa_cons (pe_ix ix_list (pv 3) pe_int (fun _ _ => rfl)) (pa_cons (pe_ix ix_list (pv 3) pe_int (fun _ _ => rfl)) pa_nil))) rfl)
      (pss_one (ps_ret pe_str))) pss_nil)
      (pss_cons (ps_expr (pe_calm0 M_look DT.cl (hr.mono (by decide)) pass0 (pv 0)))
      (pss_cons (ps_if (pt_cmpR op_in_seq (pe_ix ix_list (pv 2) pe_int (fun _ _ => rfl)) (pe_tup (pa_cons pe_str (pa_cons pe_str (pa_cons pe_str pa_nil)))) rfl) (pss_one (ps_ret (pe_calm M_deed_told DT.cl (hr.mono (by decide)) (passes_call (takes_of rfl rfl rfl rfl) fun _ _ _ _ h => h) (pv 0) (pa_cons (pe_ix ix_list (pv 2) pe_int (fun _ _ => rfl)) (pa_cons (pv 3) pa_nil))))) pss_nil)
      (pss_one (ps_ret (pe_calm M_answered DT.cl (hr.mono (by decide)) pass0 (pv 0) (pa_cons (pe_ix ix_list (pv 2) pe_int (fun _ _ => rfl)) (pa_cons (pv 3) (pa_cons (pe_calm0 M_net KT.cl (hr.mono (by decide)) pass0 (pe_fld (pv 0) rfl)) pa_nil)))))))))))), ?_⟩
  rcases h with ⟨d, dx, v, n, k, rfl, n1, n2, k1, k2, hd, q⟩ | ⟨d, kp, pl, L, st, hD, h⟩
  · -- web
    have hb : ∀ m ∈ [n, k], m ≤ 10 ^ 30 := fun m hm => by
      rcases List.mem_cons.mp hm with z | hm
      · rw [z]; exact Nat.le_trans n2 (by decide)
      · rw [List.mem_singleton.mp hm]; exact Nat.le_trans k2 (by decide)
    refine ⟨_, rfl, "web" :: [n, k].map sN, rfl, by simp, wd_cons wd_web, row_len (by decide +kernel) (by show 2 ≤ 3; omega) hb, fun H1 p s1 hpn hp => ?_⟩
    refine ⟨_, rfl, p, _, _, _, rfl, rfl, SqL.of hp, atI_nat (j := 0) rfl, rfl, false, rfl, ?_⟩
    refine iteF ?_
    refine ⟨_, rfl, p, "web", [n, k], rfl, hp, by show 2 ≤ 100; omega, hb, CT.v _ (.head _), fun H2 nq s2 hnqn hnq => ?_⟩
    have hp2 := s2 _ _ hp
    have hd2 := s2 _ _ (s1 _ _ hd)
    refine ⟨_, rfl, p, _, _, _, rfl, rfl, SqL.of hp2, atI_nat (j := 0) rfl, rfl, true, rfl, iteT ?_⟩
    refine ⟨_, rfl, nq, _, _, _, rfl, rfl, SqL.of hnq, atI_nat (j := 0) rfl, _, rfl, nq, _, _, _, rfl, rfl, SqL.of hnq, atI_nat (j := 1) rfl, ?_⟩
    refine fun kp kdx hkpn hkdxn hne => ⟨kp, kdx, n, k, rfl, n1, n2, k1, k2, upd_same, fun H3 pl f3 hpln hK => ⟨rfl, ?_⟩⟩
    have hkp2 : (upd H2 kdx (.own kp)) kp = none := by rw [upd_ne hne.symm]; exact hkpn
    have sA : Same H (upd (upd H2 kdx (.own kp)) kp (.ins C kdx [])) := (s1.trans s2).trans ((same_new hkdxn).trans (same_new hkp2))
    have hkp0 : H kp = none := (s1.trans s2).free hkpn
    have sB : Same H H3 := Fr.new sA f3 fun m hm => by rw [List.mem_singleton.mp hm]; exact hkp0
    have hd3 := sB _ _ hd
    refine ⟨_, rfl, d, CD, dx, _, rfl, hd3, DT.cl, DT.nK, by show 1 < 1000; decide, ?_⟩
    rw [put_keeper]
    have npl0 : H pl = none := sA.free hpln
    have ndkp : kp ≠ d := (ne_of_none hd hkp0).symm
    have ndpl : pl ≠ d := (ne_of_none hd npl0).symm
    have nkppl : kp ≠ pl := ne_of_none upd_same hpln
    refine q _ kp pl ((Fr.of sB).trans (Fr.upd (.head _) hd3 (by intro xs z; cases z))) hkp0 npl0 nkppl upd_same ?_
    refine KpAt.mono ?_ (fun z => z.2.2 rfl) (KpAt.fr (M := [d]) (Fr.upd (.head _) hd3 (by intro xs z; cases z)) (fun z => ndkp (List.mem_singleton.mp z)) (fun z => ndpl (List.mem_singleton.mp z)) (fun l hl z => ?_) hK)
    · rintro l ⟨hl1, hl2⟩ _
      exact ⟨sA.free hl1, (fun z => by rw [z, upd_same] at hl1; cases hl1), hl2⟩
    · have h1 := hl.1
      rw [List.mem_singleton.mp z, sA _ _ hd] at h1
      cases h1
  obtain ⟨dx, hd⟩ := hD.d
  have hK := hD.k
  obtain ⟨⟨kdx, ka, _, hkp, _⟩, _⟩ := hD.k
  have n2 := hD.ok.net.n2
  rcases h with ⟨w0, ns, rfl, hrow⟩ | ⟨rfl, q⟩ | ⟨us, rfl, ⟨on, hlen, one⟩, q⟩
  · -- a deed
    obtain ⟨hw0, hl0, hnl, hb, hmem, hlay, hweb, hin⟩ := hrow.bound n2
    refine ⟨_, rfl, w0 :: ns.map sN, rfl, by simp, wd_cons hw0, row_len hl0 hnl hb, fun H1 p s1 hpn hp => ?_⟩
    refine ⟨_, rfl, p, _, _, _, rfl, rfl, SqL.of hp, atI_nat (j := 0) rfl, rfl, _, rfl, iteFb hlay ?_⟩
    refine ⟨_, rfl, p, w0, ns, rfl, hp, by omega, hb, CT.v _ hmem, fun H2 nq s2 hnqn hnq => ?_⟩
    have hp2 := s2 _ _ hp
    have s3 := s1.trans s2
    have hd2 := s3 _ _ hd
    refine ⟨_, rfl, p, _, _, _, rfl, rfl, SqL.of hp2, atI_nat (j := 0) rfl, rfl, _, rfl, iteFb hweb ?_⟩
    refine ⟨_, rfl, d, dx, _, rfl, hd2, lk_dno _ (by decide +kernel), d, dx, kp, rfl, hd2, ?_⟩
    refine ⟨_, rfl, p, _, _, _, rfl, rfl, SqL.of hp2, atI_nat (j := 0) rfl, by show 3 ≤ sizeLine; decide, fun t ht => ⟨t, _, rfl, .inr (SqT.of upd_same), rfl, rfl, _, rfl, iteTb hin ?_⟩⟩
    have s4 := same_new (o := .tup [.str ("tie" : Str), .str ("forget" : Str), .str ("back" : Str)]) ht
    have s5 := s3.trans s4
    refine ⟨_, rfl, d, dx, _, rfl, s4 _ _ hd2, lk_dno _ (by decide +kernel), _, rfl, p, _, _, _, rfl, rfl, SqL.of (s4 _ _ hp2), atI_nat (j := 0) rfl, _, rfl, ?_⟩
    exact ⟨d, kp, pl, nq, L, st, w0, ns, rfl, hD.same s5, s4 _ _ hnq, hrow.same s5⟩
  · -- net
    refine ⟨_, rfl, ["net"], congrArg (fun z => [V.str z]) rowT_one.symm, by simp, fun x hx => by rw [List.mem_singleton.mp hx]; exact wd_net, by rw [rowT_one]; decide +kernel, fun H1 p s1 hpn hp => ?_⟩
    refine ⟨_, rfl, p, _, _, _, rfl, rfl, SqL.of hp, atI_nat (j := 0) rfl, rfl, false, rfl, iteF ?_⟩
    refine ⟨_, rfl, p, "net", [], rfl, hp, by show 0 ≤ 100; omega, (fun n hn => nomatch hn), CT.v _ (.tail _ (.tail _ (.tail _ (.tail _ (.head _))))), fun H2 nq s2 hnqn hnq => ?_⟩
    have hp2 := s2 _ _ hp
    have s3 := s1.trans s2
    have hd2 := s3 _ _ hd
    refine ⟨_, rfl, p, _, _, _, rfl, rfl, SqL.of hp2, atI_nat (j := 0) rfl, rfl, false, rfl, iteF ?_⟩
    refine ⟨_, rfl, d, dx, _, rfl, hd2, lk_dno _ (by decide +kernel), d, dx, kp, rfl, hd2, ?_⟩
    refine ⟨_, rfl, p, _, _, _, rfl, rfl, SqL.of hp2, atI_nat (j := 0) rfl, by show 3 ≤ sizeLine; decide, fun t ht => ⟨t, _, rfl, .inr (SqT.of upd_same), rfl, rfl, _, rfl, iteFb (by decide +kernel) ?_⟩⟩
    have s4 := same_new (o := .tup [.str ("tie" : Str), .str ("forget" : Str), .str ("back" : Str)]) ht
    have s5 := s3.trans s4
    refine ⟨_, rfl, d, dx, _, rfl, s4 _ _ hd2, lk_dno _ (by decide +kernel), _, rfl, p, _, _, _, rfl, rfl, SqL.of (s4 _ _ hp2), atI_nat (j := 0) rfl, _, rfl, ?_⟩
    refine ⟨_, rfl, d, CD, dx, _, _, rfl, s4 _ _ hd2, DT.cl, DT.nK, lk_keeper _, kp, kdx, _, rfl, s5 _ _ hkp, lk_no _ _ _ (by decide +kernel) (by decide +kernel) (by decide +kernel), ?_⟩
    refine ⟨kp, pl, L, st, rfl, hK.same s5, Nat.le_trans hD.ok.net.len (by decide), fun H6 a l s6 _ _ ha hl => ?_⟩
    exact ⟨d, nq, a, l, st.n, st.k, st.kept, rfl, ha, hl, hD.ok.net, fun H7 s7 => q H7 ((s5.trans s6).trans s7)⟩
  · -- lay
    have k2 := on.k2
    have hb : ∀ x ∈ sN st.n :: sN st.k :: wsR us, Wd x ∧ x.length ≤ 40 := fun x hx => by
      rcases List.mem_cons.mp hx with z | hx
      · rw [z]; exact ⟨wd_sN _, Nat.le_trans (sN_len2 (by omega)) (by decide)⟩
      rcases List.mem_cons.mp hx with z | hx
      · rw [z]; exact ⟨wd_sN _, Nat.le_trans (sN_len2 (by omega)) (by decide)⟩
      · exact ⟨wd_wsR us x hx, wsR_le (fun y hy => (on.ok y hy).two n2) x hx⟩
    have hwl := wsR_len us
    have hul := on.len
    have hsum := sum_le fun x hx => (hb x hx).2
    rw [List.length_cons, List.length_cons] at hsum
    refine ⟨_, rfl, "lay" :: sN st.n :: sN st.k :: wsR us, congrArg (fun z => [V.str z]) (lay_row _ _ _).symm, by simp, fun x hx => ?_, ?_, fun H1 p s1 hpn hp => ?_⟩
    · rcases List.mem_cons.mp hx with z | hx
      · rw [z]; exact wd_lay
      · exact (hb x hx).1
    · have h := join_len ("lay" :: sN st.n :: sN st.k :: wsR us)
      rw [List.map_cons, List.sum_cons, List.length_cons, List.length_cons, List.length_cons] at h
      have : ("lay" : Str).length = 3 := by decide +kernel
      omega
    refine ⟨_, rfl, p, _, _, _, rfl, rfl, SqL.of hp, atI_nat (j := 0) rfl, rfl, true, rfl, iteT ?_⟩
    refine ⟨_, rfl, p, _, rfl, .inl (SqL.of hp), _, _, rfl, rfl, _, rfl, iteTb (dT ?_) ?_⟩
    · unfold sVs
      rw [List.length_map, List.length_cons, List.length_cons]
      omega
    refine ⟨_, rfl, d, dx, _, rfl, s1 _ _ hd, lk_dno _ (by decide +kernel), ⟨_, rfl⟩, _, rfl, _, rfl, p, _, rfl, SqL.of hp, fun p2 hp2 => ?_⟩
    have ec : cutV (sVs ("lay" :: sN st.n :: sN st.k :: wsR us)) (some 1) none = sVs (sN st.n :: sN st.k :: wsR us) := cut1 _ _
    rw [ec]
    have s2 := same_new (o := .lst (sVs (sN st.n :: sN st.k :: wsR us))) hp2
    have s3 := s1.trans s2
    refine ⟨_, p2, sN st.n :: sN st.k :: wsR us, rfl, rfl, .inl (SqL.of upd_same), ?_, ?_⟩
    · have : (" " : Str).length = 1 := by decide +kernel
      show _ + (sN st.n :: sN st.k :: wsR us).length * (" " : Str).length ≤ _
      rw [this, List.length_cons, List.length_cons]
      omega
    · exact ⟨d, kp, pl, L, st, us, congrArg (fun z => [V.ref d, V.str z]) (netT_row _ _ _), hD.same s3, ⟨on, hlen, one⟩, fun H2 f2 hK2 => q H2 ((Fr.of s3).trans f2) hK2⟩
end
end SP
set_option maxRecDepth 100000
set_option maxHeartbeats 4000000
namespace SP
open PySem PySem.Spec PyProof.Rows L2 TL
/-- a pot: what is left, how many drawn without it (at most c), the seed -/
def PotAt (H : Hp) (p : Addr) (c : Nat) : Prop := ∃ r i x : Nat, H p = some (.lst [nV r, nV i, nV x]) ∧ i ≤ c
theorem PotAt.le {H : Hp} {p : Addr} {c d : Nat} (h : PotAt H p c) (l : c ≤ d) : PotAt H p d := let ⟨r, i, x, e, z⟩ := h; ⟨r, i, x, e, Nat.le_trans z l⟩
theorem PotAt.same {H H' : Hp} {p : Addr} {c : Nat} (s : Same H H') (h : PotAt H p c) : PotAt H' p c := let ⟨r, i, x, e, z⟩ := h; ⟨r, i, x, s _ _ e, z⟩
def iVs (ns : List Int) : List V := ns.map V.int
theorem sql_same {K : PySem.W.Frag} {H H' : Hp} {a : Addr} {xs : List V} (s : Same H H') (h : SqL K H a xs) : SqL K H' a xs := by
  rcases h with (h | ⟨o, h⟩) | h
  · exact .inl (.inl (s _ _ h))
  · exact .inl (.inr ⟨o, s _ _ h⟩)
  · exact .inr h
def spFolded (K : PySem.W.Frag) : Sp := fun vs H Q _ => ∃ (a : Addr) (ns : List Int), vs = [.ref a, .int 3] ∧ SqL K H a (iVs ns) ∧ ns.length ≤ sizeLine ∧ ∀ H' q ys, Same H H' → H q = none → H' q = some (.lst (iVs ys)) → 1 ≤ ys.length → ys.length ≤ 3 → Q (.ref q) H'
def spBegun : Sp := fun vs H Q _ => ∃ i : Int, vs = [.int i] ∧ ∀ H' q, Same H H' → H q = none → PotAt H' q 0 → Q (.ref q) H'
def spTake : Sp := fun vs H Q _ => ∃ (p : Addr) (c sz : Nat), vs = [.ref p, nV sz] ∧ 1 ≤ sz ∧ sz < 2 ^ 200 ∧ c ≤ 1000000 ∧ PotAt H p c ∧ ∀ H' d, Fr [p] H H' → PotAt H' p (c + 1) → d < sz → Q (nV d) H'
def spWide : Sp := fun vs H Q _ => ∃ (p : Addr) (c sz : Nat), vs = [.ref p, nV sz] ∧ 1 ≤ sz ∧ sz < 2 ^ 200 ∧ c ≤ 900000 ∧ PotAt H p c ∧ ∀ H' d, Fr [p] H H' → PotAt H' p (c + 5) → d < sz → Q (nV d) H'
def spFew : Sp := fun vs H Q _ => ∃ (p : Addr) (c : Nat), vs = [.ref p] ∧ c ≤ 1000000 ∧ PotAt H p c ∧ ∀ H' d, Fr [p] H H' → PotAt H' p (c + 1) → 1 ≤ d → d ≤ 5 → Q (nV d) H'
theorem nat_of {i : Int} (h : 0 ≤ i) : V.int i = nV i.toNat := congrArg V.int (by omega)
theorem rep0 : ∀ m : Nat, (List.replicate m [V.int 0]).flatten = iVs (List.replicate m 0)
  | 0 => rfl
  | m + 1 => by
    rw [List.replicate_succ, List.flatten_cons, rep0 m]
    rfl
theorem ints_set (ys : List Int) (j : Nat) (v : Int) : (iVs ys).set j (.int v) = iVs (ys.set j v) := by
  unfold iVs
  rw [List.map_set]
section
variable {P : Program} {w : World} {K : PySem.W.Frag} {mg : Str → Option Value} {base : Heap} {f : Addr} {fd : FuncData}
abbrev N__law_folded : List Str := ["cells", "many", "found", "k", "cell"]
theorem sc__law_folded : FnScope N__law_folded ["cells", "many"] (defScope s__law_folded) := ⟨rfl, rfl, rfl, by decide +kernel, rfl, by decide +kernel, by decide +kernel⟩
theorem ok__law_folded (T : Txt K mg) (F : FunD K "_law_folded" "_law_folded" (defArgs s__law_folded) (defBody s__law_folded) (defScope s__law_folded) [] [] f fd) : FnOk P w K mg base CX0 1 f fd ["cells", "many"] (spFolded K) := by
  refine F.ok sc__law_folded (fun vs H Q E h => ?_) (fun cdv A outer s H vs Q E hr h => ?_)
  · obtain ⟨_, _, rfl, _⟩ := h
    rfl
  obtain ⟨a, ns, rfl, ha, hns, q⟩ := h
  refine ⟨_, PSs.nox (pss_cons (ps_set (i := 2) sc__law_folded.nd rfl (Or.inl rfl) (pe_op op_rep (pe_lst (pa_cons pe_int pa_nil)) (pe_callB (call_min2 rfl) (by rfl) T.min (by decide +kernel) (pa_cons (pv 1) (pa_cons (pe_callB (call_max2 rfl) (by rfl) T.max (by decide +kernel) (pa_cons pe_int (pa_cons (pe_callB call_len_seq (by rfl) T.len (by decide +kernel) (pa_cons (pv 0) pa_nil)) pa_nil))) pa_nil)))))
      (pss_cons (ps_for PassesOwn.never rfl (pi_enum (by rfl) T.enumerate (pa_cons (pv 0) pa_nil)) (pg_tup rfl (pgs_cons (pg_name (i := 3) sc__law_folded.nd rfl (Or.inl rfl)) (pgs_cons (pg_name (i := 4) sc__law_folded.nd rfl (Or.inl rfl)) pgs_nil)))
      (pss_one (ps_asg (pe_op op_add (pe_op op_mul (pe_ix ix_list (pv 2) (pe_op op_mod (pv 3) (pe_callB call_len_seq (by rfl) T.len (by decide +kernel) (pa_cons (pv 2) pa_nil))) (fun _ _ => rfl)) pe_int) (pv 4)) (pg_sub (pv 2) (pe_op op_mod (pv 3) (pe_callB call_len_seq (by rfl) T.len (by decide +kernel) (pa_cons (pv 2) pa_nil))) set_list))))
      (pss_one (ps_ret (pv 2))))), ?_⟩
  have hl : (iVs ns).length = ns.length := by unfold iVs; rw [List.length_map]
  refine ⟨by show 1 ≤ sizeLine; decide, fun e he => ?_⟩
  have s1 := same_new (o := .lst [V.int 0]) he
  refine ⟨_, rfl, _, rfl, a, _, rfl, .inl (sql_same s1 ha), _, _, rfl, _, _, rfl, ?_⟩
  have hk : ∀ l : Int, 0 ≤ l → 1 ≤ (if (if l > 1 then l else 1) < 3 then (if l > 1 then l else 1) else 3) ∧ (if (if l > 1 then l else 1) < 3 then (if l > 1 then l else 1) else 3) ≤ 3 := fun l h => by
    split <;> split <;> omega
  have hk2 := hk ((iVs ns).length : Int) (by omega)
  revert hk2
  generalize (if (if ((iVs ns).length : Int) > 1 then ((iVs ns).length : Int) else 1) < 3 then (if ((iVs ns).length : Int) > 1 then ((iVs ns).length : Int) else 1) else 3) = m
  rintro ⟨m1, m2⟩
  refine ⟨e, m, _, rfl, rfl, upd_same, by omega, by omega, sl_of (m := 3) (by show 1 * m.toNat ≤ 3; omega) (by decide), fun g hg => ?_⟩
  have s2 := s1.trans (same_new (o := .lst (List.replicate m.toNat [V.int 0]).flatten) hg)
  rw [rep0] at *
  have hg0 : H g = none := s1.free hg
  refine ⟨_, rfl, a, iVs ns, rfl, sql_same s2 ha, for_it (walk_enum (K := K) (a := a) (xs := iVs ns)) (fun i σ H' => (∃ v1 v2, σ = [some (.ref a), some (.int 3), some (.ref g), v1, v2]) ∧ Same H H' ∧ ∃ ys, H' g = some (.lst (iVs ys)) ∧ ys.length = m.toNat) ?_ ?_ ?_ ?_⟩
  · exact ⟨⟨_, _, rfl⟩, s2, _, upd_same, by rw [List.length_replicate]⟩
  · exact fun i σ H' _ ⟨_, sm, _⟩ => sql_same sm ha
  · rintro i v σ H1 H2 hi ⟨⟨v1, v2, rfl⟩, sm, ys, hys, hyl⟩ ⟨t, x, y, rfl, htn, rfl, hx, hy⟩
    obtain rfl : V.int (i : Nat) = x := Option.some.inj hx
    have hy2 : ∃ c, y = V.int c := by
      have hy3 : (ns.map V.int)[i]? = some y := hy
      rw [List.getElem?_map] at hy3
      cases e2 : ns[i]? with
      | none => rw [e2] at hy3; cases hy3
      | some c => rw [e2] at hy3; exact ⟨c, (Option.some.inj hy3).symm⟩
    obtain ⟨c, rfl⟩ := hy2
    have s3 := same_new (o := .tup [V.int (i : Nat), .int c]) htn
    have hg3 := s3 _ _ hys
    refine ⟨t, _, rfl, SqT.of upd_same, rfl, _, _, rfl, _, _, rfl, rfl, ?_⟩
    have hyv : (iVs ys).length = m.toNat := by unfold iVs; rw [List.length_map, hyl]
    have hm0 : (0 : Int) < ((iVs ys).length : Int) := by omega
    have hj0 := Int.emod_nonneg (i : Int) (show ((iVs ys).length : Int) ≠ 0 by omega)
    have hj1 := Int.emod_lt_of_pos (i : Int) hm0
    have ej : (i : Int) % ((iVs ys).length : Int) = (((i : Int) % ((iVs ys).length : Int)).toNat : Int) := by omega
    have hjl : ((i : Int) % ((iVs ys).length : Int)).toNat < ys.length := by omega
    have hjl2 : ((i : Int) % ((iVs ys).length : Int)).toNat < (iVs ys).length := by omega
    have hget : (iVs ys)[((i : Int) % ((iVs ys).length : Int)).toNat]? = some (.int ys[((i : Int) % ((iVs ys).length : Int)).toNat]) := by
      show (ys.map V.int)[_]? = _
      rw [List.getElem?_map, List.getElem?_eq_getElem hjl]
      rfl
    refine ⟨_, rfl, _, rfl, _, rfl, g, _, rfl, .inl (SqL.of hg3), _, _, rfl, rfl, hm0, g, _, _, _, rfl, rfl, SqL.of hg3, at_of ej hget, _, _, rfl, rfl, .inr ⟨by decide, by decide⟩, _, rfl, _, _, rfl, rfl, ?_⟩
    refine ⟨_, rfl, _, rfl, _, rfl, g, _, rfl, .inl (SqL.of hg3), _, _, rfl, rfl, hm0, g, _, _, _, rfl, rfl, hg3, by rw [ej]; exact ixN_nat hjl2, ?_⟩
    refine ⟨⟨_, _, rfl⟩, same_upd (sm.trans s3) hg0, ys.set ((i : Int) % ((iVs ys).length : Int)).toNat (ys[((i : Int) % ((iVs ys).length : Int)).toNat] * 7 + c), ?_, by rw [List.length_set, hyl]⟩
    rw [upd_same, ints_set]
  · rintro σ H1 ⟨⟨v1, v2, rfl⟩, sm, ys, hys, hyl⟩
    exact ⟨_, rfl, q H1 g ys sm hg0 hys (by omega) (by omega)⟩
abbrev N__law_begun : List Str := ["cell", "rest"]
theorem sc__law_begun : FnScope N__law_begun ["cell"] (defScope s__law_begun) := ⟨rfl, rfl, rfl, by decide +kernel, rfl, by decide +kernel, by decide +kernel⟩
theorem ok__law_begun (T : Txt K mg) (F : FunD K "_law_begun" "_law_begun" (defArgs s__law_begun) (defBody s__law_begun) (defScope s__law_begun) [] [] f fd) : FnOk P w K mg base CX0 1 f fd ["cell"] spBegun := by
  refine F.ok sc__law_begun (fun vs H Q E h => ?_) (fun cdv A outer s H vs Q E hr h => ?_)
  · obtain ⟨_, rfl, _⟩ := h
    rfl
  obtain ⟨i, rfl, q⟩ := h
  refine ⟨_, PSs.nox (pss_cons (ps_set (i := 1) sc__law_begun.nd rfl (Or.inl rfl) pe_int)
      (pss_cons (ps_if (pt_cmpR op_ge (pe_callB call_abs (by rfl) T.abs (by decide +kernel) (pa_cons (pv 0) pa_nil)) (pe_op op_pow pe_int pe_int) (nomark _)) (pss_one (ps_set (i := 1) sc__law_begun.nd rfl (Or.inl rfl) (pe_op op_add (pe_op op_sub (pe_callB call_abs (by rfl) T.abs (by decide +kernel) (pa_cons (pv 0) pa_nil)) (pe_op op_pow pe_int pe_int)) pe_int))) pss_nil)
      (pss_one (ps_ret (pe_lst (pa_cons (pv 1) (pa_cons pe_int (pa_cons (pe_op op_mod (pv 0) pe_int) pa_nil)))))))), ?_⟩
  have hc : CPow 10 18 := ⟨by decide, by decide, by decide⟩
  have fin : ∀ r x : Int, 0 ≤ r → 0 ≤ x → ∀ t, H t = none → Q (.ref t) (upd H t (.lst [.int r, .int 0, .int x])) := fun r x h1 h2 t ht => by
    refine q _ t (same_new ht) ht ⟨r.toNat, 0, x.toNat, ?_, Nat.le_refl _⟩
    rw [upd_same, nat_of h1, nat_of h2]
    rfl
  refine ⟨_, rfl, _, rfl, _, _, rfl, rfl, hc, _, _, rfl, rfl, _, rfl, ite2 (fun c => ?_) (fun c => ?_)⟩
  · have c2 := of_decide_eq_true c
    refine ⟨_, rfl, _, rfl, _, _, rfl, rfl, hc, _, _, rfl, rfl, _, _, rfl, rfl, ?_⟩
    refine ⟨_, rfl, _, rfl, _, _, rfl, rfl, (show (0 : Int) < 2147483647 by decide), by show 3 ≤ sizeLine; decide, fun t ht => fin _ _ ?_ (Int.emod_nonneg _ (by decide)) t ht⟩
    show (0 : Int) ≤ _ - 10 ^ (18 : Int).toNat + 1
    have c3 : (10 : Int) ^ (18 : Int).toNat ≤ (if i < 0 then -i else i) := c2
    omega
  · refine ⟨_, rfl, _, rfl, _, _, rfl, rfl, (show (0 : Int) < 2147483647 by decide), by show 3 ≤ sizeLine; decide, fun t ht => fin _ _ (by decide) (Int.emod_nonneg _ (by decide)) t ht⟩
abbrev N__law_take : List Str := ["pot", "size", "digit", "mixed"]
theorem sc__law_take : FnScope N__law_take ["pot", "size"] (defScope s__law_take) := ⟨rfl, rfl, rfl, by decide +kernel, rfl, by decide +kernel, by decide +kernel⟩
theorem ok__law_take (T : Txt K mg) (F : FunD K "_law_take" "_law_take" (defArgs s__law_take) (defBody s__law_take) (defScope s__law_take) [] [] f fd) : FnOk P w K mg base CX0 1 f fd ["pot", "size"] spTake := by
  refine F.ok sc__law_take (fun vs H Q E h => ?_) (fun cdv A outer s H vs Q E hr h => ?_)
  · obtain ⟨_, _, _, rfl, _⟩ := h
    rfl
  obtain ⟨p, c, sz, rfl, h1, h2, hc, ⟨r, i, x, hp, hi⟩, q⟩ := h
  refine ⟨_, PSs.nox (pss_cons (ps_if (pt_cmpR op_gt (pe_ix ix_list (pv 0) pe_int (fun _ _ => rfl)) pe_int (nomark _)) (pss_cons (ps_set (i := 2) sc__law_take.nd rfl (Or.inl rfl) (pe_op op_mod (pe_ix ix_list (pv 0) pe_int (fun _ _ => rfl)) (pv 1)))
      (pss_cons (ps_asg (pe_op op_fdivW (pe_ix ix_list (pv 0) pe_int (fun _ _ => rfl)) (pv 1)) (pg_sub (pv 0) pe_int set_list))
      (pss_one (ps_ret (pv 2))))) pss_nil)
      (pss_cons (ps_asg (pe_op op_add (pe_ix ix_list (pv 0) pe_int (fun _ _ => rfl)) pe_int) (pg_sub (pv 0) pe_int set_list))
      (pss_cons (ps_set (i := 3) sc__law_take.nd rfl (Or.inl rfl) (pe_op op_mod (pe_op op_add (pe_op op_add (pe_op op_add (pe_ix ix_list (pv 0) pe_int (fun _ _ => rfl)) (pe_op op_mul (pe_op op_mul pe_int (pe_ix ix_list (pv 0) pe_int (fun _ _ => rfl))) (pe_ix ix_list (pv 0) pe_int (fun _ _ => rfl)))) (pe_op op_mul pe_int (pe_ix ix_list (pv 0) pe_int (fun _ _ => rfl)))) pe_int) pe_int))
      (pss_cons (ps_set (i := 3) sc__law_take.nd rfl (Or.inl rfl) (pe_op op_mod (pe_op op_mul (pe_op op_mod (pe_op op_mul (pv 3) (pv 3)) pe_int) pe_int) pe_int))
      (pss_one (ps_ret (pe_op op_mod (pe_op op_fdiv (pv 3) pe_int) (pv 1)))))))), ?_⟩
  have a0 : atI [nV r, nV i, nV x] 0 = some (nV r) := atI_nat (j := 0) rfl
  have a1 : atI [nV r, nV i, nV x] 1 = some (nV i) := atI_nat (j := 1) rfl
  have sp : (0 : Int) < (sz : Int) := by omega
  refine ⟨_, rfl, p, _, _, _, rfl, rfl, SqL.of hp, a0, _, _, rfl, rfl, _, rfl, ite2 (fun d => ?_) (fun d => ?_)⟩
  · refine ⟨_, rfl, p, _, _, _, rfl, rfl, SqL.of hp, a0, _, rfl, _, _, rfl, rfl, sp, ?_⟩
    refine ⟨_, rfl, p, _, _, _, rfl, rfl, SqL.of hp, a0, _, rfl, _, _, rfl, rfl, wide_div sp (by omega) (b := 200) (by decide) (by decide), ?_⟩
    refine ⟨_, rfl, p, _, _, _, rfl, rfl, hp, ixN_nat (j := 0) (by show 0 < 3; omega), ?_⟩
    refine ⟨_, rfl, ?_⟩
    have e1 : ((r : Int) % (sz : Int)) = ((r % sz : Nat) : Int) := by omega
    have e2 : ((r : Int) / (sz : Int)) = ((r / sz : Nat) : Int) := by omega
    show Q (.int ((r : Int) % (sz : Int))) (upd H p (.lst [.int ((r : Int) / (sz : Int)), nV i, nV x]))
    rw [e1, e2]
    exact q _ (r % sz) (Fr.upd (.head _) hp (by intro xs z; cases z)) ⟨r / sz, i, x, upd_same, by omega⟩ (Nat.mod_lt _ h1)
  · refine ⟨_, rfl, p, _, _, _, rfl, rfl, SqL.of hp, a1, _, _, rfl, rfl, ?_⟩
    refine ⟨_, rfl, p, _, _, _, rfl, rfl, hp, ixN_nat (j := 1) (by show 1 < 3; omega), ?_⟩
    have hp2 : upd H p (.lst [nV r, .int ((i : Int) + 1), nV x]) p = some (.lst [nV r, .int ((i : Int) + 1), nV x]) := upd_same
    have b1 : atI [nV r, V.int ((i : Int) + 1), nV x] 1 = some (V.int ((i : Int) + 1)) := atI_nat (j := 1) rfl
    have b2 : atI [nV r, V.int ((i : Int) + 1), nV x] 2 = some (nV x) := atI_nat (j := 2) rfl
    have small : -(2 ^ 64) < ((i : Int) + 1) ∧ ((i : Int) + 1) < 2 ^ 64 := ⟨by omega, by omega⟩
    refine ⟨_, rfl, p, _, _, _, rfl, rfl, SqL.of hp2, b2, _, rfl, p, _, _, _, rfl, rfl, SqL.of hp2, b1, _, _, rfl, rfl, .inl ⟨by decide, by decide⟩, ?_⟩
    refine ⟨_, rfl, p, _, _, _, rfl, rfl, SqL.of hp2, b1, _, _, rfl, rfl, .inr small, _, _, rfl, rfl, ?_⟩
    refine ⟨_, rfl, p, _, _, _, rfl, rfl, SqL.of hp2, b1, _, _, rfl, rfl, .inl ⟨by decide, by decide⟩, _, _, rfl, rfl, _, _, rfl, rfl, ?_⟩
    refine ⟨_, _, rfl, rfl, (show (0 : Int) < 2147483647 by decide), ?_⟩
    refine ⟨_, rfl, _, rfl, _, _, rfl, rfl, .inl ⟨Int.lt_of_lt_of_le (by decide) (Int.emod_nonneg _ (by decide)), Int.lt_trans (Int.emod_lt_of_pos _ (by decide)) (by decide)⟩, ?_⟩
    refine ⟨_, _, rfl, rfl, (show (0 : Int) < 1000000007 by decide), _, _, rfl, rfl, .inr ⟨by decide, by decide⟩, _, _, rfl, rfl, (show (0 : Int) < 998244353 by decide), ?_⟩
    refine ⟨_, rfl, _, _, rfl, rfl, ⟨by decide, by decide⟩, _, rfl, _, _, rfl, rfl, sp, ?_⟩
    have fin : ∀ e : Int, Q (.int (e % (sz : Int))) (upd H p (.lst [nV r, .int ((i : Int) + 1), nV x])) := fun e => by
      have g1 := Int.emod_nonneg e (show (sz : Int) ≠ 0 by omega)
      have g2 := Int.emod_lt_of_pos e sp
      rw [nat_of g1]
      exact q _ _ (Fr.upd (.head _) hp (by intro xs z; cases z)) ⟨r, i + 1, x, upd_same, by omega⟩ (by omega)
    exact fin _
abbrev N__law_wide : List Str := ["pot", "size", "number", "turn"]
theorem sc__law_wide : FnScope N__law_wide ["pot", "size"] (defScope s__law_wide) := ⟨rfl, rfl, rfl, by decide +kernel, rfl, by decide +kernel, by decide +kernel⟩
theorem ok__law_wide (T : Txt K mg) (C__law_take : Cal P w K mg base CX0 "_law_take" 1 ["pot", "size"] spTake) (F : FunD K "_law_wide" "_law_wide" (defArgs s__law_wide) (defBody s__law_wide) (defScope s__law_wide) [] [] f fd) : FnOk P w K mg base CX0 2 f fd ["pot", "size"] spWide := by
  refine F.ok sc__law_wide (fun vs H Q E h => ?_) (fun cdv A outer s H vs Q E hr h => ?_)
  · obtain ⟨_, _, _, rfl, _⟩ := h
    rfl
  obtain ⟨p, c, sz, rfl, h1, h2, hc, hP, q⟩ := h
  have hP0 := hP
  obtain ⟨r, i, x, hp, hi⟩ := hP
  refine ⟨_, PSs.nox (pss_cons (ps_if (PW.pt (pw_or (pt_cmpR op_gt (pe_ix ix_list (pv 0) pe_int (fun _ _ => rfl)) pe_int (nomark _)) (pw_or1 (pt_cmpR op_lt (pv 1) (pe_op op_pow pe_int pe_int) (nomark _))))) (pss_one (ps_ret (pe_cal C__law_take (hr.mono (by decide)) pass0 (pa_cons (pv 0) (pa_cons (pv 1) pa_nil))))) pss_nil)
      (pss_cons (ps_set (i := 2) sc__law_wide.nd rfl (Or.inl rfl) pe_int)
      (pss_cons (ps_for PassesOwn.never rfl (pi_range1 (by rfl) T.range (pa_cons pe_int pa_nil)) (pg_name (i := 3) sc__law_wide.nd rfl (Or.inl rfl))
      (pss_one (ps_set (i := 2) sc__law_wide.nd rfl (Or.inl rfl) (pe_op op_add (pe_op op_mul (pv 2) pe_int) (pe_cal C__law_take (hr.mono (by decide)) pass0 (pa_cons (pv 0) (pa_cons pe_int pa_nil)))))))
      (pss_one (ps_ret (pe_op op_mod (pv 2) (pv 1))))))), ?_⟩
  have a0 : atI [nV r, nV i, nV x] 0 = some (nV r) := atI_nat (j := 0) rfl
  have sp : (0 : Int) < (sz : Int) := by omega
  refine ⟨_, rfl, p, _, _, _, rfl, rfl, SqL.of hp, a0, _, _, rfl, rfl, _, rfl, ite2 (fun d => ?_) (fun d => ?_)⟩
  · exact ⟨_, rfl, _, rfl, p, c, sz, rfl, h1, h2, by omega, hP0, fun H1 d f1 hp1 hd => q H1 d f1 (hp1.le (by omega)) hd⟩
  have hc1 : c ≤ 1000000 := by omega
  refine ⟨_, rfl, _, _, rfl, rfl, ⟨by decide, by decide, by decide⟩, _, _, rfl, rfl, ?_⟩
  have e6 : (10 : Int) ^ (6 : Int).toNat = 1000000 := by decide
  rw [e6]
  by_cases hz : (sz : Int) < 1000000
  · refine ⟨true, congrArg V.bl (dT hz), iteT ?_⟩
    exact ⟨_, rfl, _, rfl, p, c, sz, rfl, h1, h2, hc1, hP0, fun H1 d f1 hp1 hd => q H1 d f1 (hp1.le (Nat.add_le_add_left (by decide) c)) hd⟩
  refine ⟨false, congrArg V.bl (decide_eq_false hz), iteF ?_⟩
  refine ⟨5, rfl, by decide, by decide, for_range (lo := 0) (n := 5) (fun i σ H' => (∃ m v, σ = [some (.ref p), some (nV sz), some (nV m), v]) ∧ Fr [p] H H' ∧ PotAt H' p (c + i)) ?_ ?_ ?_⟩
  · exact ⟨⟨0, none, rfl⟩, fun _ _ e _ => e, hP0⟩
  · rintro i σ H1 hi ⟨⟨m, v, rfl⟩, f1, hp1⟩
    refine ⟨_, rfl, _, _, rfl, rfl, .inr ⟨by decide, by decide⟩, _, rfl, p, c + i, 1000003, rfl, by decide, by decide, by omega, hp1, fun H2 d f2 hp2 hd => ?_⟩
    refine ⟨_, _, rfl, rfl, ⟨m * 1000003 + d, some (V.int (0 + (i : Nat))), ?_⟩, f1.trans f2, hp2⟩
    have e1 : V.int ((m : Int) * 1000003 + (d : Int)) = nV (m * 1000003 + d) := congrArg V.int (by omega)
    rw [← e1]
    rfl
  · rintro σ H1 ⟨⟨m, v, rfl⟩, f1, hp1⟩
    refine ⟨_, rfl, _, rfl, _, _, rfl, rfl, (show (0 : Int) < (sz : Int) by omega), ?_⟩
    have e2 : ((m : Int) % (sz : Int)) = ((m % sz : Nat) : Int) := by omega
    show Q (.int ((m : Int) % (sz : Int))) H1
    rw [e2]
    exact q _ (m % sz) f1 hp1 (Nat.mod_lt _ h1)
abbrev N__law_few_places : List Str := ["pot"]
theorem sc__law_few_places : FnScope N__law_few_places ["pot"] (defScope s__law_few_places) := ⟨rfl, rfl, rfl, by decide +kernel, rfl, by decide +kernel, by decide +kernel⟩
theorem ok__law_few_places (T : Txt K mg) (C__law_take : Cal P w K mg base CX0 "_law_take" 1 ["pot", "size"] spTake) (F : FunD K "_law_few_places" "_law_few_places" (defArgs s__law_few_places) (defBody s__law_few_places) (defScope s__law_few_places) [] [] f fd) : FnOk P w K mg base CX0 2 f fd ["pot"] spFew := by
  refine F.ok sc__law_few_places (fun vs H Q E h => ?_) (fun cdv A outer s H vs Q E hr h => ?_)
  · obtain ⟨_, _, rfl, _⟩ := h
    rfl
  obtain ⟨p, c, rfl, hc, hp, q⟩ := h
  refine ⟨_, PSs.nox (pss_one (ps_ret (pe_op op_add pe_int (pe_cal C__law_take (hr.mono (by decide)) pass0 (pa_cons (pv 0) (pa_cons pe_int pa_nil)))))), ?_⟩
  refine ⟨_, rfl, p, c, 5, rfl, by omega, by decide, hc, hp, fun H1 d f1 hp1 hd => ⟨_, _, rfl, rfl, ?_⟩⟩
  have e : (1 : Int) + (d : Int) = ((1 + d : Nat) : Int) := by omega
  show Q (.int ((1 : Int) + (d : Int))) H1
  rw [e]
  exact q H1 (1 + d) f1 hp1 (by omega) (by omega)
end
end SP
set_option maxRecDepth 100000
set_option maxHeartbeats 4000000
namespace SP
open PySem PySem.Spec PyProof.Rows L2 TL
theorem lf_snoc {r : Row} {a b : Nat} : ∀ {rows : List Row}, lf (rows ++ [r]) a b = if lf rows a b = 0 then (if at_ r a = at_ r b then 0 else rows.length + 1) else lf rows a b
  | [] => by
    show (if at_ r a ≠ at_ r b then 1 else (if (0 : Nat) = 0 then 0 else 0 + 1)) = (if (0 : Nat) = 0 then (if at_ r a = at_ r b then 0 else 0 + 1) else 0)
    by_cases h : at_ r a = at_ r b
    · rw [if_neg (not_not_intro h), if_pos rfl, if_pos rfl, if_pos h]
    · rw [if_pos h, if_pos rfl, if_neg h]
  | s :: rs => by
    have ih := lf_snoc (r := r) (a := a) (b := b) (rows := rs)
    show (if at_ s a ≠ at_ s b then 1 else (if lf (rs ++ [r]) a b = 0 then 0 else lf (rs ++ [r]) a b + 1)) = (if (if at_ s a ≠ at_ s b then 1 else (if lf rs a b = 0 then 0 else lf rs a b + 1)) = 0 then (if at_ r a = at_ r b then 0 else rs.length + 1 + 1) else (if at_ s a ≠ at_ s b then 1 else (if lf rs a b = 0 then 0 else lf rs a b + 1)))
    rw [ih]
    by_cases h : at_ s a = at_ s b
    · simp only [if_neg (not_not_intro h)]
      by_cases h2 : lf rs a b = 0
      · simp only [if_pos h2]
        by_cases h3 : at_ r a = at_ r b
        · simp [h3]
        · simp [h3]
      · simp [if_neg h2]
    · simp [h]
/-- a tie's number, and the rows, behind the first i layers -/
def pn (mk : List Row) (x : T) (i : Nat) : Nat := lf (mk.take i) x.a x.b
def pst (mk : List Row) (x : T) (i : Nat) : List Row := if pn mk x i = 0 then mk else mk.set (pn mk x i - 1) (rl (mk.getD (pn mk x i - 1) []) x.a x.b)
theorem pn_zero {mk : List Row} {x : T} : pn mk x 0 = 0 := by unfold pn; rw [List.take_zero]; rfl
theorem pst_zero {mk : List Row} {x : T} : pst mk x 0 = mk := by unfold pst; rw [if_pos pn_zero]
theorem pst_end {mk : List Row} {x : T} : pst mk x mk.length = st rl mk x := by unfold pst pn st; rw [List.take_length]
theorem pn_end {mk : List Row} {x : T} : pn mk x mk.length = lf mk x.a x.b := by unfold pn; rw [List.take_length]
theorem pst_len {mk : List Row} {x : T} {i : Nat} : (pst mk x i).length = mk.length := by
  unfold pst
  split
  · rfl
  · rw [List.length_set]
theorem pn_succ {mk : List Row} {x : T} {i : Nat} {r : Row} (h : mk[i]? = some r) : pn mk x (i + 1) = if pn mk x i = 0 then (if at_ r x.a = at_ r x.b then 0 else i + 1) else pn mk x i := by
  have hi : i < mk.length := (List.getElem?_eq_some_iff.mp h).1
  unfold pn
  rw [take_succ h, lf_snoc, List.length_take, Nat.min_eq_left (Nat.le_of_lt hi)]
theorem ints_at {α : Type} {pre post : List α} {v : α} : (pre ++ v :: post)[pre.length]? = some v := by
  rw [List.getElem?_append_right (Nat.le_refl _), Nat.sub_self]
  rfl
theorem set_at {α : Type} {pre post : List α} {v u : α} : (pre ++ v :: post).set pre.length u = pre ++ u :: post := by
  rw [List.set_append_right _ _ (Nat.le_refl _), Nat.sub_self]
  rfl
def spLLayers : Sp := fun vs H Q _ => ∃ (n k : Nat) (l : Addr) (ts : List T), vs = [nV n, .ref l, nV k] ∧ n ≤ 1000 ∧ 1 ≤ k ∧ k ≤ 6 ∧ RecAt H l ts ∧ ts.length ≤ 1000 ∧ (∀ x ∈ ts, Fits n x) ∧
  ∀ H' p, Same H H' → H p = none → H' p = some (.lst ((layeredN rl n k ts).map nV)) → Q (.ref p) H'
theorem rep0n : ∀ m : Nat, (List.replicate m [V.int 0]).flatten = (List.replicate m 0).map nV
  | 0 => rfl
  | m + 1 => by
    rw [List.replicate_succ, List.flatten_cons, rep0n m]
    rfl
theorem dN (a b : Nat) : decide (nV a = nV b) = decide (a = b) := by
  by_cases h : a = b
  · rw [h, dT rfl, dT rfl]
  · rw [decide_eq_false h, decide_eq_false fun z => h (by have := V.int.inj z; omega)]
theorem at_get {r : Row} {i : Nat} (h : i < r.length) : (r.map nV)[i]? = some (nV (at_ r i)) := by
  rw [List.getElem?_map, List.getElem?_eq_getElem h]
  unfold at_
  rw [List.getD_eq_getElem?_getD, List.getElem?_eq_getElem h]
  rfl
section
variable {P : Program} {w : World} {K : PySem.W.Frag} {mg : Str → Option Value} {base : Heap} {f : Addr} {fd : FuncData}
abbrev N__law_layers_of : List Str := ["n", "ties", "k", "layer", "labels", "numbers", "at", "moment", "a", "b", "old", "new", "one"]
theorem sc__law_layers_of : FnScope N__law_layers_of ["n", "ties", "k"] (defScope s__law_layers_of) := ⟨rfl, rfl, rfl, by decide +kernel, rfl, by decide +kernel, by decide +kernel⟩
theorem ok__law_layers_of (T : Txt K mg) (F : FunD K "_law_layers_of" "_law_layers_of" (defArgs s__law_layers_of) (defBody s__law_layers_of) (defScope s__law_layers_of) [] [] f fd) : FnOk P w K mg base CX0 1 f fd ["n", "ties", "k"] spLLayers := by
  refine F.ok sc__law_layers_of (fun vs H Q E h => ?_) (fun cdv A outer s H vs Q E hr h => ?_)
  · obtain ⟨_, _, _, _, rfl, _⟩ := h
    rfl
  obtain ⟨n, k, l, ts, rfl, hn, k1, k2, ⟨us, hl, ht⟩, hlen, hfit, q⟩ := h
  have hul := ht.len
  refine ⟨_, PSs.nox (pss_cons (ps_setLc (i := 4) (own := [("layer", 3)]) rfl sc__law_layers_of.nd rfl rfl (sw_true rfl rfl rfl (by decide +kernel)) (pi_range1 (by rfl) T.range (pa_cons (pv 2) pa_nil)) (blkOk_by (own := [("layer", 3)]) (N := N__law_layers_of) (sc := defScope s__law_layers_of) (by decide +kernel)) (fun _ _ _ _ _ => (pg_name (i := 3) sc__law_layers_of.nd rfl (Or.inl rfl))) (fun _ _ _ _ _ => pts_nil) (fun _ _ _ _ _ => (pe_listRg rfl (by rfl) T.list (prg_1 (by rfl) T.range (pv 0)))))
      (pss_cons (ps_set (i := 5) sc__law_layers_of.nd rfl (Or.inl rfl) (pe_op op_rep (pe_lst (pa_cons pe_int pa_nil)) (pe_callB call_len_seq (by rfl) T.len (by decide +kernel) (pa_cons (pv 1) pa_nil))))
      (pss_cons (ps_for PassesOwn.never rfl (pi_range3 (by rfl) T.range (pa_cons (pe_op op_sub (pe_callB call_len_seq (by rfl) T.len (by decide +kernel) (pa_cons (pv 1) pa_nil)) pe_int) (pa_cons (pe_un un_neg pe_int) (pa_cons (pe_un un_neg pe_int) pa_nil)))) (pg_name (i := 6) sc__law_layers_of.nd rfl (Or.inl rfl))
      (pss_cons (ps_asg (pe_ix ix_list (pv 1) (pv 6) (fun _ _ => rfl)) (pg_tup rfl (pgs_cons (pg_name (i := 7) sc__law_layers_of.nd rfl (Or.inl rfl)) (pgs_cons (pg_name (i := 8) sc__law_layers_of.nd rfl (Or.inl rfl)) (pgs_cons (pg_name (i := 9) sc__law_layers_of.nd rfl (Or.inl rfl)) pgs_nil)))))
      (pss_one (ps_for PassesOwn.never rfl (pi_range1 (by rfl) T.range (pa_cons (pv 2) pa_nil)) (pg_name (i := 3) sc__law_layers_of.nd rfl (Or.inl rfl))
      (pss_cons (ps_set (i := 10) sc__law_layers_of.nd rfl (Or.inr rfl) (pe_ix ix_list (pe_ix ix_list (pv 4) (pv 3) (fun _ _ => rfl)) (pv 8) (fun _ _ => rfl)))
      (pss_cons (ps_set (i := 11) sc__law_layers_of.nd rfl (Or.inr rfl) (pe_ix ix_list (pe_ix ix_list (pv 4) (pv 3) (fun _ _ => rfl)) (pv 9) (fun _ _ => rfl)))
      (pss_one (ps_if (PW.pt (pw_and (pt_cmpR op_eq (pe_ix ix_list (pv 5) (pv 6) (fun _ _ => rfl)) pe_int (nomark _)) (pw_and1 (pt_cmpR op_ne (pv 10) (pv 11) (nomark _))))) (pss_cons (ps_asg (pe_op op_add (pv 3) pe_int) (pg_sub (pv 5) (pv 6) set_list))
      (pss_one (ps_asg (pe_lc (own := [("one", 12)]) rfl sc__law_layers_of.nd (pi_list (pe_ix ix_list (pv 4) (pv 3) (fun _ _ => rfl))) (blkOk_by (own := [("one", 12)]) (N := N__law_layers_of) (sc := defScope s__law_layers_of) (by decide +kernel)) (fun _ _ _ _ _ => (pg_name (i := 12) sc__law_layers_of.nd rfl (Or.inl rfl))) (fun _ _ _ _ _ => pts_nil) (fun _ _ _ _ _ => (pe_ix (ix_listK K) (pe_lst (pa_cons (pv 12) (pa_cons (pv 11) pa_nil))) (pe_callTy call_int1 (by rfl) T.int (by decide +kernel) (pa_cons (pe_cmpR op_eq (pv 12) (pv 10) (nomark _)) pa_nil)) (fun _ _ => rfl)))) (pg_sub (pv 4) (pv 3) set_list)))) pss_nil))))))))
      (pss_one (ps_ret (pv 5)))))), ?_⟩
  refine ⟨_, rfl, (k : Int), rfl, by omega, by omega, fun M hM => lc_range (lo := 0) (n := k) (fun i H' => Same H H' ∧ ∃ vs, H' M = some (.lst vs) ∧ RowsAt H' M vs (List.replicate i (List.range n)) ∧ vs.length = i) ?_ ?_ ?_⟩
  · exact ⟨same_new hM, [], upd_same, .nil, rfl⟩
  · rintro i H' hi ⟨sm, vs, hv, hrs, hvl⟩
    refine ⟨rfl, _, rfl, (n : Int), rfl, RgOk.of_le (by omega) (by omega) (by omega) (by omega), fun r hr2 => ?_⟩
    have nrM : r ≠ M := (ne_of_none hv hr2).symm
    have er : rgV 0 (n : Int) = (List.range n).map nV := by
      unfold rgV
      rw [show (((n : Int) - 0).toNat) = n by omega]
      exact List.map_congr_left fun x _ => by
        show V.int (0 + (x : Int)) = V.int (x : Int)
        rw [Int.zero_add]
    have hv2 : upd H' r (.lst (rgV 0 (n : Int))) M = some (.lst vs) := by rw [upd_ne nrM.symm]; exact hv
    refine ⟨vs, hv2, small1000 (by omega), same_upd (same_upd sm (sm.free hr2)) hM, _, upd_same, ?_, by rw [List.length_append, List.length_singleton, hvl]⟩
    rw [List.replicate_succ']
    refine RowsAt.upd (RowsAt.app ?_ nrM (hrs.same (same_new hr2)))
    rw [upd_same, er]
  rintro H1 ⟨s1, vs1, hv1, hrs1, _⟩
  -- numbers
  refine ⟨by show 1 ≤ sizeLine; decide, fun e he => ?_⟩
  have s2 := same_new (o := .lst [V.int 0]) he
  refine ⟨_, rfl, l, us, rfl, .inl (SqL.of (s2 _ _ (s1 _ _ hl))), e, _, _, rfl, rfl, upd_same, by omega, by omega, sl_of (m := 1000) (by show 1 * (us.length : Int).toNat ≤ 1000; omega) (by decide), fun N hN => ?_⟩
  rw [show ((us.length : Int)).toNat = ts.length by omega, rep0n] at *
  have s3 := s2.trans (same_new (o := .lst ((List.replicate ts.length 0).map nV)) hN)
  have hN1 : H1 N = none := s2.free hN
  have hN0 : H N = none := s1.free hN1
  have nNM : N ≠ M := (ne_of_none hv1 hN1).symm
  have nolst : ∀ {H' : Hp} {vs : List V} {rs : List Row}, RowsAt H' M vs rs → H' N = none → ∀ v ∈ vs, v ≠ .ref N := by
    intro H' vs rs h hN2
    induction h with
    | nil => exact fun v hv => nomatch hv
    | cons hp _ _ ih =>
      intro v hv e
      rcases List.mem_cons.mp hv with z | z
      · rw [z] at e
        cases e
        rw [hN2] at hp
        cases hp
      · exact ih v z e
  refine ⟨_, rfl, l, us, rfl, .inl (SqL.of (s3 _ _ (s1 _ _ hl))), ?_⟩
  have hrg : RgC (((ts.length : Nat) : Int) - 1) (-1) (-1) ts.length := by
    have z := RgC.neg (i := ((ts.length : Nat) : Int) - 1) (j := -1) (by omega) (by omega) (by decide) (by decide)
    rw [show (((ts.length : Nat) : Int) - 1 - -1).toNat = ts.length by omega] at z
    exact z
  refine ⟨_, _, rfl, rfl, _, rfl, _, rfl, ((ts.length : Nat) : Int) - 1, -1, -1, ts.length, by rw [hul], hrg, for_rangeC (lo := ((ts.length : Nat) : Int) - 1) (c := -1) (n := ts.length) (fun i σ H' => (∃ v0 v1 v2 v3 v4 v5 v6 v7, σ = [some (nV n), some (.ref l), some (nV k), v0, some (.ref M), some (.ref N), v1, v2, v3, v4, v5, v6, v7]) ∧ Same H H' ∧
    (∃ vs, H' M = some (.lst vs) ∧ RowsAt H' M vs (marksOf rl (marks0 n k) (ts.reverse.take i)) ∧ ∀ v ∈ vs, v ≠ .ref N) ∧ H' N = some (.lst ((List.replicate (ts.length - i) 0 ++ (run rl (marks0 n k) (ts.reverse.take i)).reverse).map nV))) ?_ ?_ ?_⟩
  · refine ⟨⟨_, _, _, _, _, _, _, _, rfl⟩, s1.trans s3, ⟨vs1, s3 _ _ hv1, hrs1.same s3, nolst hrs1 hN1⟩, ?_⟩
    rw [upd_same, List.take_zero]
    show _ = some (HO.lst ((List.replicate ts.length 0 ++ []).map nV))
    rw [List.append_nil]
  · rintro i σ H2 hi ⟨⟨v0, v1, v2, v3, v4, v5, v6, v7, rfl⟩, sm, ⟨vs, hv, hrs, hnv⟩, hnum⟩
    have eat : ((ts.length : Nat) : Int) - 1 + (i : Nat) * (-1) = ((ts.length - 1 - i : Nat) : Int) := by omega
    have hx0 : ts.length - 1 - i < ts.length := by omega
    obtain ⟨x, hx⟩ : ∃ x, ts[ts.length - 1 - i]? = some x := ⟨_, List.getElem?_eq_getElem hx0⟩
    obtain ⟨p, hp1, hp2⟩ := ht.gett hx
    have hxr : ts.reverse[i]? = some x := by
      rw [List.getElem?_reverse (by omega)]
      exact hx
    obtain ⟨hxa, hxb⟩ := hfit x (List.mem_of_getElem? hx)
    have wd : Wide n (marksOf rl (marks0 n k) (ts.reverse.take i)) := marks_wide joins_rl (fun y hy => hfit y (List.mem_reverse.mp (List.mem_of_mem_take hy))) (marks0_wide n k)
    have hmkl : (marksOf rl (marks0 n k) (ts.reverse.take i)).length = k := by rw [marks_len]; unfold marks0; rw [List.length_replicate]
    rw [take_succ hxr, marks_snoc, run_snoc]
    generalize hmk : marksOf rl (marks0 n k) (ts.reverse.take i) = mk at *
    generalize hpo : (run rl (marks0 n k) (ts.reverse.take i)) = po at *
    have hpre : (List.replicate (ts.length - 1 - i) 0 : List Nat).length = ts.length - 1 - i := List.length_replicate
    have hrep : List.replicate (ts.length - i) 0 ++ po.reverse = List.replicate (ts.length - 1 - i) 0 ++ 0 :: po.reverse := by
      rw [show ts.length - i = ts.length - 1 - i + 1 by omega, List.replicate_succ', List.append_assoc]
      rfl
    rw [hrep] at hnum
    refine ⟨_, rfl, _, rfl, l, us, _, _, rfl, rfl, SqL.of (sm _ _ hl), at_of eat hp1, p, _, rfl, SqT.of (sm _ _ hp2), rfl, _, _, rfl, _, _, rfl, _, _, rfl, rfl, ?_⟩
    refine ⟨_, rfl, (k : Int), rfl, by omega, by omega, for_range (lo := 0) (n := k) (fun m σ H' => (∃ w0 w1 w2 w3, σ = [some (nV n), some (.ref l), some (nV k), w0, some (.ref M), some (.ref N), some (.int (((ts.length : Nat) : Int) - 1 + (i : Nat) * (-1))), some (nV x.m), some (nV x.a), some (nV x.b), w1, w2, w3]) ∧ Same H H' ∧
      (∃ vs, H' M = some (.lst vs) ∧ RowsAt H' M vs (pst mk x m) ∧ ∀ v ∈ vs, v ≠ .ref N) ∧ H' N = some (.lst ((List.replicate (ts.length - 1 - i) 0 ++ pn mk x m :: po.reverse).map nV))) ?_ ?_ ?_⟩
    · refine ⟨⟨_, _, _, _, rfl⟩, sm, ⟨vs, hv, by rw [pst_zero]; exact hrs, hnv⟩, by rw [pn_zero]; exact hnum⟩
    · rintro m σ H3 hm ⟨⟨w0, w1, w2, w3, rfl⟩, sm3, ⟨vs3, hv3, hrs3, hnv3⟩, hnum3⟩
      have em : (0 : Int) + (m : Nat) = ((m : Nat) : Int) := by omega
      have hmk2 : m < mk.length := by omega
      obtain ⟨r, hr2⟩ : ∃ r, mk[m]? = some r := ⟨_, List.getElem?_eq_getElem hmk2⟩
      have hpm : pn mk x m ≤ m := by
        have z := lf_le (rows := mk.take m) (a := x.a) (b := x.b)
        rw [List.length_take] at z
        unfold pn
        omega
      have hr3 : (pst mk x m)[m]? = some r := by
        unfold pst
        split
        · exact hr2
        · rw [List.getElem?_set_ne (by omega)]
          exact hr2
      have hvl : vs3.length = mk.length := by rw [hrs3.len, pst_len]
      obtain ⟨q0, r', er, hr4, hq0, hqM⟩ := hrs3.get (i := m) (List.getElem?_eq_getElem (by omega))
      rw [hr3] at hr4
      cases hr4
      have hget : vs3[m]? = some (.ref q0) := by rw [List.getElem?_eq_getElem (by omega), er]
      have hrl : r.length = n := wd r (List.mem_of_getElem? hr2)
      have hga : (r.map nV)[x.a]? = some (nV (at_ r x.a)) := at_get (by omega)
      have hgb : (r.map nV)[x.b]? = some (nV (at_ r x.b)) := at_get (by omega)
      have hgn : ((List.replicate (ts.length - 1 - i) 0 ++ pn mk x m :: po.reverse).map nV)[ts.length - 1 - i]? = some (nV (pn mk x m)) := by
        rw [List.getElem?_map]
        have z := ints_at (pre := List.replicate (ts.length - 1 - i) 0) (post := po.reverse) (v := pn mk x m)
        rw [hpre] at z
        rw [z]
        rfl
      have hnl : ts.length - 1 - i < ((List.replicate (ts.length - 1 - i) 0 ++ pn mk x m :: po.reverse).map nV).length := (List.getElem?_eq_some_iff.mp hgn).1
      have hM3 : SqL K H3 M vs3 := SqL.of hv3
      refine ⟨_, rfl, _, rfl, M, vs3, _, _, rfl, rfl, hM3, at_of em hget, _, rfl, q0, _, _, _, rfl, rfl, SqL.of hq0, atI_nat hga, ?_⟩
      refine ⟨_, rfl, _, rfl, M, vs3, _, _, rfl, rfl, hM3, at_of em hget, _, rfl, q0, _, _, _, rfl, rfl, SqL.of hq0, atI_nat hgb, ?_⟩
      refine ⟨_, rfl, _, rfl, N, _, _, _, rfl, rfl, SqL.of hnum3, at_of eat hgn, rfl, _, rfl, ?_⟩
      by_cases hz : pn mk x m = 0
      · refine iteTb (dT (by rw [hz]; rfl)) ?_
        refine ⟨_, rfl, _, rfl, rfl, _, rfl, ?_⟩
        by_cases hab : at_ r x.a = at_ r x.b
        · refine iteFb (by rw [hab, dT rfl]; rfl) ?_
          have e1 : pn mk x (m + 1) = pn mk x m := by rw [pn_succ hr2, if_pos hz, if_pos hab, hz]
          have e2 : pst mk x (m + 1) = pst mk x m := by unfold pst; rw [e1]
          refine ⟨⟨_, _, _, _, rfl⟩, sm3, ⟨vs3, hv3, by rw [e2]; exact hrs3, hnv3⟩, by rw [e1]; exact hnum3⟩
        · refine iteTb (by rw [dN, decide_eq_false hab]; rfl) ?_
          have e1 : pn mk x (m + 1) = m + 1 := by rw [pn_succ hr2, if_pos hz, if_neg hab]
          have e2 : pst mk x (m + 1) = mk.set m (rl r x.a x.b) := by
            unfold pst
            rw [e1, if_neg (Nat.succ_ne_zero _), Nat.add_sub_cancel, getD_of hr2]
          have e3 : pst mk x m = mk := by unfold pst; rw [if_pos hz]
          rw [e3] at hrs3
          -- numbers[at] = layer + 1
          refine ⟨_, rfl, _, _, rfl, rfl, _, rfl, _, rfl, N, _, _, _, rfl, rfl, hnum3, by rw [eat]; exact ixN_nat hnl, ?_⟩
          have e4 : ((List.replicate (ts.length - 1 - i) 0 ++ pn mk x m :: po.reverse).map nV).set (ts.length - 1 - i) (V.int (0 + (m : Nat) + 1)) = (List.replicate (ts.length - 1 - i) 0 ++ (m + 1) :: po.reverse).map nV := by
            have e5 : V.int (0 + (m : Nat) + 1) = nV (m + 1) := congrArg V.int (by omega)
            rw [e5, ← List.map_set]
            have z := set_at (pre := List.replicate (ts.length - 1 - i) 0) (post := po.reverse) (v := pn mk x m) (u := m + 1)
            rw [hpre] at z
            rw [z]
          rw [e4]
          have hv4 : upd H3 N (.lst ((List.replicate (ts.length - 1 - i) 0 ++ (m + 1) :: po.reverse).map nV)) M = some (.lst vs3) := by rw [upd_ne nNM.symm]; exact hv3
          have hq04 : upd H3 N (.lst ((List.replicate (ts.length - 1 - i) 0 ++ (m + 1) :: po.reverse).map nV)) q0 = some (.lst (r.map nV)) := by
            rw [upd_ne (fun z => hnv3 _ (List.mem_of_getElem? hget) (by rw [z]))]
            exact hq0
          have sm4 : Same H (upd H3 N (.lst ((List.replicate (ts.length - 1 - i) 0 ++ (m + 1) :: po.reverse).map nV))) := same_upd sm3 hN0
          have hrs4 := hrs3.upd' (o := .lst ((List.replicate (ts.length - 1 - i) 0 ++ (m + 1) :: po.reverse).map nV)) hnv3
          have hn4 : upd H3 N (.lst ((List.replicate (ts.length - 1 - i) 0 ++ (m + 1) :: po.reverse).map nV)) N = some (.lst ((List.replicate (ts.length - 1 - i) 0 ++ (m + 1) :: po.reverse).map nV)) := upd_same
          revert hv4 hq04 sm4 hrs4 hn4
          generalize upd H3 N (.lst ((List.replicate (ts.length - 1 - i) 0 ++ (m + 1) :: po.reverse).map nV)) = H4
          intro hv4 hq04 sm4 hrs4 hn4
          refine ⟨_, rfl, _, rfl, M, vs3, _, _, rfl, rfl, SqL.of hv4, at_of em hget, q0, rfl, ⟨_, SqL.of hq04⟩, fun D hD => lc_list (K := K) (a := q0) (xs := r.map nV) (fun j H' => Same H4 H' ∧ H' D = some (.lst (((r.take j).map fun y => if y = at_ r x.a then at_ r x.b else y).map nV))) ?_ ?_ ?_ ?_⟩
          · exact ⟨same_new hD, upd_same⟩
          · exact fun j H' _ ⟨sm5, _⟩ => SqL.of (sm5 _ _ hq04)
          · rintro j v H5 hj ⟨sm5, hacc⟩
            rw [List.getElem?_map] at hj
            cases hy : r[j]? with
            | none => rw [hy] at hj; cases hj
            | some y =>
              rw [hy] at hj
              obtain rfl : nV y = v := Option.some.inj hj
              have hjl : j < r.length := (List.getElem?_eq_some_iff.mp hy).1
              refine ⟨rfl, _, rfl, _, rfl, by show 2 ≤ sizeLine; decide, fun t htn => ?_⟩
              refine ⟨_, rfl, _, rfl, rfl, .inr ⟨_, rfl, ?_⟩⟩
              have s6 := same_new (o := .lst [nV y, nV (at_ r x.b)]) htn
              have hidx : atI [nV y, nV (at_ r x.b)] (if decide (nV y = nV (at_ r x.a)) = true then 1 else 0) = some (nV (if y = at_ r x.a then at_ r x.b else y)) := by
                rw [dN]
                by_cases hya : y = at_ r x.a
                · rw [dT hya, if_pos rfl, if_pos hya]
                  exact atI_nat (j := 1) rfl
                · rw [decide_eq_false hya, if_neg Bool.false_ne_true, if_neg hya]
                  exact atI_nat (j := 0) rfl
              refine ⟨t, _, _, _, rfl, rfl, SqL.of upd_same, hidx, ?_⟩
              refine ⟨_, s6 _ _ hacc, small1000 (by rw [List.length_map, List.length_map, List.length_take]; omega), same_upd (sm5.trans s6) hD, ?_⟩
              rw [take_succ hy, List.map_append, List.map_append]
              exact upd_same
          rintro H5 ⟨s5, hacc⟩
          rw [List.length_map, List.take_length] at hacc
          have hacc2 : H5 D = some (.lst ((rl r x.a x.b).map nV)) := hacc
          have hv5 := s5 _ _ hv4
          have hn5 := s5 _ _ hn4
          have nDM : D ≠ M := (ne_of_none hv4 hD).symm
          have nDN : D ≠ N := (ne_of_none hn4 hD).symm
          refine ⟨_, rfl, _, rfl, M, vs3, _, _, rfl, rfl, hv5, by rw [em]; exact ixN_nat (by omega), ?_⟩
          refine ⟨⟨_, _, _, _, rfl⟩, same_upd (sm4.trans s5) hM, ⟨vs3.set m (.ref D), upd_same, ?_, ?_⟩, ?_⟩
          · rw [e2]
            exact RowsAt.upd ((hrs4.same s5).set hacc2 nDM m)
          · intro v hv6 e
            rcases List.mem_or_eq_of_mem_set hv6 with z | z
            · exact hnv3 v z e
            · rw [z] at e
              cases e
              exact nDN rfl
          · rw [upd_ne nNM, e1]
            exact hn5
      · refine iteFb (by rw [show V.int 0 = nV 0 from rfl, dN, decide_eq_false hz]) ?_
        have e1 : pn mk x (m + 1) = pn mk x m := by rw [pn_succ hr2, if_neg hz]
        have e2 : pst mk x (m + 1) = pst mk x m := by unfold pst; rw [e1]
        refine ⟨⟨_, _, _, _, rfl⟩, sm3, ⟨vs3, hv3, by rw [e2]; exact hrs3, hnv3⟩, by rw [e1]; exact hnum3⟩
    · rintro σ H3 ⟨⟨w0, w1, w2, w3, rfl⟩, sm3, ⟨vs3, hv3, hrs3, hnv3⟩, hnum3⟩
      refine ⟨⟨_, _, _, _, _, _, _, _, rfl⟩, sm3, ⟨vs3, hv3, ?_, hnv3⟩, ?_⟩
      · rw [← hmkl, pst_end] at hrs3
        exact hrs3
      · rw [← hmkl, pn_end] at hnum3
        rw [hnum3, List.reverse_append, show ts.length - (i + 1) = ts.length - 1 - i by omega]
        rfl
  · rintro σ H2 ⟨⟨v0, v1, v2, v3, v4, v5, v6, v7, rfl⟩, sm, _, hnum⟩
    rw [List.take_of_length_le (by rw [List.length_reverse]; omega), Nat.sub_self] at hnum
    exact ⟨_, rfl, q H2 N sm hN0 hnum⟩
abbrev N__law_since : List Str := ["ties", "t", "tie"]
theorem sc__law_since : FnScope N__law_since ["ties", "t"] (defScope s__law_since) := ⟨rfl, rfl, rfl, by decide +kernel, rfl, by decide +kernel, by decide +kernel⟩
theorem ok__law_since (T : Txt K mg) (F : FunD K "_law_since" "_law_since" (defArgs s__law_since) (defBody s__law_since) (defScope s__law_since) [] [] f fd) : FnOk P w K mg base CX0 1 f fd ["ties", "t"] spSince := by
  refine F.ok sc__law_since (fun vs H Q E h => ?_) (fun cdv A outer s H vs Q E hr h => ?_)
  · obtain ⟨_, _, _, rfl, _⟩ := h
    rfl
  obtain ⟨l, ts, t, rfl, ⟨us, hl, ht⟩, hlen, q⟩ := h
  refine ⟨_, PSs.nox (pss_one (ps_ret (pe_lc (own := [("tie", 2)]) rfl sc__law_since.nd (pi_list (pv 0)) (blkOk_by (own := [("tie", 2)]) (N := N__law_since) (sc := defScope s__law_since) (by decide +kernel)) (fun _ _ _ _ _ => (pg_name (i := 2) sc__law_since.nd rfl (Or.inl rfl))) (fun _ _ _ _ _ => pts_one (pt_cmpR op_ge (pe_ix (ix_tupK K) (pv 2) pe_int (fun _ _ => rfl)) (pv 1) (nomark _))) (fun _ _ _ _ _ => (pv 2))))), ?_⟩
  refine ⟨_, rfl, l, rfl, ⟨_, SqL.of hl⟩, fun D hD => lc_list (K := K) (a := l) (xs := us) (fun i H' => Same H H' ∧ ∃ acc, H' D = some (.lst acc) ∧ TsAt H' acc (sinceD t (ts.take i)) ∧ acc.length ≤ i) ?_ ?_ ?_ ?_⟩
  · exact ⟨same_new hD, [], upd_same, by rw [List.take_zero]; exact .nil, Nat.le_refl _⟩
  · exact fun i H' _ ⟨sm, _⟩ => SqL.of (sm _ _ hl)
  · rintro i v H' hi ⟨sm, acc, hacc, ta, hal⟩
    obtain ⟨p, x, rfl, hx, hp⟩ := ht.get hi
    have hp' := sm _ _ hp
    have hi2 : i < us.length := (List.getElem?_eq_some_iff.mp hi).1
    have hul := ht.len
    refine ⟨rfl, _, rfl, p, _, _, _, rfl, rfl, SqT.of hp', atI_nat (j := 0) rfl, _, rfl, _, _, rfl, rfl, _, rfl, ite2 (fun c => ?_) (fun c => ?_)⟩
    · have c2 : (t : Int) ≤ (x.m : Int) := of_decide_eq_true c
      refine ⟨_, rfl, acc, hacc, small1000 (by omega), same_upd sm hD, _, upd_same, ?_, by rw [List.length_append, List.length_singleton]; omega⟩
      rw [take_succ hx]
      unfold sinceD
      rw [List.filter_append, List.filter_cons_of_pos (by simp; omega), List.filter_nil]
      refine (ta.put hacc).app (.one ?_)
      rw [upd_ne (ne_of hp' hacc (by intro z; cases z))]
      exact hp'
    · have c2 : ¬ (t : Int) ≤ (x.m : Int) := fun z => c (decide_eq_true z)
      refine ⟨sm, acc, hacc, ?_, by omega⟩
      rw [take_succ hx]
      unfold sinceD
      rw [List.filter_append, List.filter_cons_of_neg (by simp; omega), List.filter_nil, List.append_nil]
      exact ta
  · rintro H' ⟨sm, acc, hacc, ta, _⟩
    rw [List.take_of_length_le (Nat.le_of_eq ht.len.symm)] at ta
    exact q H' D sm hD ⟨acc, hacc, ta⟩
abbrev N__law_net_of : List Str := ["n", "ties", "k", "numbers", "tie", "number"]
theorem sc__law_net_of : FnScope N__law_net_of ["n", "ties", "k"] (defScope s__law_net_of) := ⟨rfl, rfl, rfl, by decide +kernel, rfl, by decide +kernel, by decide +kernel⟩
theorem ok__law_net_of (T : Txt K mg) (C__law_layers_of : Cal P w K mg base CX0 "_law_layers_of" 1 ["n", "ties", "k"] spLLayers) (F : FunD K "_law_net_of" "_law_net_of" (defArgs s__law_net_of) (defBody s__law_net_of) (defScope s__law_net_of) [] [] f fd) : FnOk P w K mg base CX0 2 f fd ["n", "ties", "k"] spNetOf := by
  refine F.ok sc__law_net_of (fun vs H Q E h => ?_) (fun cdv A outer s H vs Q E hr h => ?_)
  · obtain ⟨_, _, _, _, rfl, _⟩ := h
    rfl
  obtain ⟨n, k, l, ts, rfl, hn, k1, k2, hl, hlen, hfit, q⟩ := h
  refine ⟨_, PSs.nox (pss_cons (ps_set (i := 3) sc__law_net_of.nd rfl (Or.inl rfl) (pe_cal C__law_layers_of (hr.mono (by decide)) pass0 (pa_cons (pv 0) (pa_cons (pv 1) (pa_cons (pv 2) pa_nil)))))
      (pss_one (ps_ret (pe_tup (pa_cons (pv 0) (pa_cons (pv 2) (pa_cons (pe_lc (own := [("tie", 4), ("number", 5)]) rfl sc__law_net_of.nd (pi_zip (by rfl) T.zip (pa_cons (pv 1) (pa_cons (pv 3) pa_nil))) (blkOk_by (own := [("tie", 4), ("number", 5)]) (N := N__law_net_of) (sc := defScope s__law_net_of) (by decide +kernel)) (fun _ _ _ _ _ => (pg_tupK K (n := 2) rfl (pgs_cons (pg_name (i := 4) sc__law_net_of.nd rfl (Or.inl rfl)) (pgs_cons (pg_name (i := 5) sc__law_net_of.nd rfl (Or.inl rfl)) pgs_nil)))) (fun _ _ _ _ _ => pts_one (pt_cmpR op_gt (pv 5) pe_int (nomark _))) (fun _ _ _ _ _ => (pv 4))) pa_nil))))))), ?_⟩
  refine ⟨_, rfl, _, rfl, _, rfl, n, k, l, ts, rfl, hn, k1, k2, hl, hlen, hfit, fun H1 p s1 hpn hp => ?_⟩
  rw [layered_rl hfit] at hp
  obtain ⟨us, hl1, ht⟩ := hl.same s1
  have hul := ht.len
  have hnl : ((layeredN jn n k ts).map nV).length = ts.length := by rw [List.length_map, layeredN_len]
  refine ⟨_, rfl, _, rfl, _, rfl, _, rfl, l, p, us, _, rfl, SqL.of hl1, SqL.of hp, fun D hD => ?_⟩
  refine lc_it (walk_zip (K := K) (a := l) (b := p) (xs := us) (ys := (layeredN jn n k ts).map nV) (n := ts.length) (by rw [hnl, hul, Nat.min_self]))
    (fun i H' => Same H1 H' ∧ ∃ acc, H' D = some (.lst acc) ∧ TsAt H' acc ((((ts.zip (layeredN jn n k ts)).take i).filter fun p => decide (0 < p.2)).map (·.1)) ∧ acc.length ≤ i) ?_ ?_ ?_ ?_
  · exact ⟨same_new hD, [], upd_same, .nil, Nat.le_refl _⟩
  · exact fun i H' _ ⟨sm, _⟩ => ⟨SqL.of (sm _ _ hl1), SqL.of (sm _ _ hp)⟩
  · rintro i v H2 H3 hi ⟨sm, acc, hacc, ta, hal⟩ ⟨t, y, z, rfl, htn, rfl, hy, hz⟩
    obtain ⟨pt, x, rfl, hx, hpt⟩ := ht.get hy
    have hz2 : ∃ j, (layeredN jn n k ts)[i]? = some j ∧ z = nV j := by
      have hz3 : ((layeredN jn n k ts).map nV)[i]? = some z := hz
      rw [List.getElem?_map] at hz3
      cases e : (layeredN jn n k ts)[i]? with
      | none => rw [e] at hz3; cases hz3
      | some j => rw [e] at hz3; exact ⟨j, rfl, (Option.some.inj hz3).symm⟩
    obtain ⟨j, hj, rfl⟩ := hz2
    have ntD : D ≠ t := ne_of_none hacc htn
    have sm2 : Same H1 (upd H2 t (.tup [.ref pt, nV j])) := fun b o e => by
      rw [upd_ne (ne_of_none (sm _ _ e) htn)]
      exact sm _ _ e
    have hacc2 : upd H2 t (.tup [.ref pt, nV j]) D = some (.lst acc) := by rw [upd_ne ntD]; exact hacc
    have ta2 := ta.same (same_new (o := .tup [.ref pt, nV j]) htn)
    refine ⟨t, _, rfl, SqT.of upd_same, rfl, _, _, rfl, _, _, rfl, rfl, rfl, ?_⟩
    rw [take_zip hx hj, List.filter_append, List.map_append]
    refine ⟨_, rfl, _, _, rfl, rfl, _, rfl, ite2 (fun c => ?_) (fun c => ?_)⟩
    · have c2 : (0 : Int) < (j : Int) := of_decide_eq_true c
      refine ⟨_, rfl, acc, hacc2, small1000 (by omega), same_upd sm2 hD, _, upd_same, ?_, by rw [List.length_append, List.length_singleton]; omega⟩
      rw [List.filter_cons_of_pos (by simp; omega)]
      refine (ta2.put hacc2).app (.one ?_)
      rw [upd_ne (ne_of (sm2 _ _ hpt) hacc2 (by intro z; cases z))]
      exact sm2 _ _ hpt
    · have c2 : ¬ (0 : Int) < (j : Int) := fun z => c (decide_eq_true z)
      refine ⟨sm2, acc, hacc2, ?_, by omega⟩
      rw [List.filter_cons_of_neg (by simp; omega)]
      show TsAt _ acc (_ ++ [])
      rw [List.append_nil]
      exact ta2
  · rintro H2 ⟨s2, acc, hacc, ta, _⟩
    rw [List.take_of_length_le (by rw [List.length_zip, layeredN_len]; omega), netA_zip] at ta
    refine ⟨by show 3 ≤ sizeLine; decide, fun d hd => ?_⟩
    have sH := s1.trans s2
    refine q _ d D (same_upd sH (sH.free hd)) (sH.free hd) (s1.free hD) upd_same ⟨acc, ?_, ta.same (same_new hd)⟩
    rw [upd_ne (ne_of_none hacc hd)]
    exact hacc
end
end SP
set_option maxRecDepth 100000
set_option maxHeartbeats 4000000
namespace SP
open PySem PySem.Spec PyProof.Rows L2 TL
inductive KvAt (H : Hp) (n : Nat) : List (Key × V) → List Tie → Prop where
  | nil : KvAt H n [] []
  | cons {p : Addr} {x : Tie} {kvs : List (Key × V)} {ts : List Tie} : H p = some (tieO x) → Ok n x → KvAt H n kvs ts → KvAt H n ((kN x.m, .ref p) :: kvs) (x :: ts)
theorem KvAt.fr {M : List Addr} {H H' : Hp} {n : Nat} (f : Fr M H H') : ∀ {kvs : List (Key × V)} {ts : List Tie}, KvAt H n kvs ts → KvAt H' n kvs ts
  | _, _, .nil => .nil
  | _, _, .cons h o t => .cons (f.tup h) o (t.fr f)
theorem KvAt.len {H : Hp} {n : Nat} : ∀ {kvs : List (Key × V)} {ts : List Tie}, KvAt H n kvs ts → kvs.length = ts.length
  | _, _, .nil => rfl
  | _, _, .cons _ _ t => congrArg (· + 1) t.len
theorem KvAt.ok {H : Hp} {n : Nat} : ∀ {kvs : List (Key × V)} {ts : List Tie}, KvAt H n kvs ts → ∀ x ∈ ts, Ok n x
  | _, _, .nil, _, h => nomatch h
  | _, _, .cons _ o t, x, h => by
    rcases List.mem_cons.mp h with z | z
    · rw [z]; exact o
    · exact t.ok x z
theorem KvAt.ts {H : Hp} {n : Nat} : ∀ {kvs : List (Key × V)} {ts : List Tie}, KvAt H n kvs ts → TsAt H (kvs.map (·.2)) ts
  | _, _, .nil => .nil
  | _, _, .cons h _ t => .cons h t.ts
theorem kN_inj {a b : Nat} (h : kN a = kN b) : a = b := by
  have := Sum.inl.inj h
  omega
theorem KvAt.any {H : Hp} {n m : Nat} : ∀ {kvs : List (Key × V)} {ts : List Tie}, KvAt H n kvs ts → (kvs.any fun kv => decide (kv.1 = kN m)) = ts.any fun y => decide (y.m = m)
  | _, _, .nil => rfl
  | _, _, .cons (x := x) h o t => by
    rw [List.any_cons, List.any_cons, t.any]
    congr 1
    by_cases e : x.m = m
    · rw [dT e, dT (by rw [e])]
    · rw [decide_eq_false e, decide_eq_false fun z => e (kN_inj z)]
theorem KvAt.repl {H : Hp} {n : Nat} {t : Addr} {x : Tie} (hx : H t = some (tieO x)) (ox : Ok n x) : ∀ {kvs : List (Key × V)} {ts : List Tie}, KvAt H n kvs ts →
    KvAt H n (kvs.map fun kv => if kv.1 = kN x.m then (kv.1, .ref t) else kv) (ts.map fun y => if y.m = x.m then x else y)
  | _, _, .nil => .nil
  | _, _, .cons (x := y) h o t => by
    rw [List.map_cons, List.map_cons]
    by_cases e : y.m = x.m
    · rw [if_pos e, if_pos (show kN y.m = kN x.m by rw [e])]
      show KvAt H n ((kN y.m, _) :: _) _
      rw [e]
      exact .cons hx ox (t.repl hx ox)
    · rw [if_neg e, if_neg (fun z => e (kN_inj z))]
      exact .cons h o (t.repl hx ox)
theorem KvAt.app {H : Hp} {n : Nat} {t : Addr} {x : Tie} (hx : H t = some (tieO x)) (ox : Ok n x) : ∀ {kvs : List (Key × V)} {ts : List Tie}, KvAt H n kvs ts → KvAt H n (kvs ++ [(kN x.m, .ref t)]) (ts ++ [x])
  | _, _, .nil => .cons hx ox .nil
  | _, _, .cons h o t => .cons h o (t.app hx ox)
theorem KvAt.put {H : Hp} {n : Nat} {t : Addr} {x : Tie} {kvs : List (Key × V)} {ts : List Tie} (h : KvAt H n kvs ts) (hx : H t = some (tieO x)) (ox : Ok n x) (nd : (ts.map (·.m)).Nodup) :
    ∃ us, KvAt H n (putK kvs (kN x.m) (.ref t)) us ∧ (us.map (·.m)).Nodup ∧ us.length ≤ ts.length + 1 := by
  unfold putK
  rw [h.any]
  by_cases e : (ts.any fun y => decide (y.m = x.m)) = true
  · rw [if_pos e]
    refine ⟨_, h.repl hx ox, ?_, by rw [List.length_map]; omega⟩
    rw [List.map_map]
    have e2 : ts.map ((fun y : Tie => y.m) ∘ fun y => if y.m = x.m then x else y) = ts.map (·.m) := List.map_congr_left fun y _ => by
      show (if y.m = x.m then x else y).m = y.m
      split
      · rename_i z
        exact z.symm
      · rfl
    rw [e2]
    exact nd
  · rw [if_neg e]
    refine ⟨_, h.app hx ox, ?_, by rw [List.length_append, List.length_singleton]; omega⟩
    rw [List.map_append, List.nodup_append]
    refine ⟨nd, List.nodup_cons.mpr ⟨(fun z => nomatch z), List.nodup_nil⟩, fun a ha b hb z => e ?_⟩
    obtain ⟨y, hy, rfl⟩ := List.mem_map.mp ha
    have hb2 : b = x.m := List.mem_singleton.mp hb
    exact List.any_eq_true.mpr ⟨y, hy, dT (by rw [z, hb2])⟩
theorem KvAt.get {H : Hp} {n : Nat} : ∀ {kvs : List (Key × V)} {ts : List Tie} {i : Nat} {k : Key} {v : V}, KvAt H n kvs ts → (ts.map (·.m)).Nodup → kvs[i]? = some (k, v) → valV kvs k = some v
  | _, _, _, _, _, .nil, _, e => by simp at e
  | _, _, 0, k, v, .cons (x := x) h o t, _, e => by
    have e2 : (kN x.m, V.ref _) = (k, v) := Option.some.inj e
    cases e2
    exact valV_pos rfl
  | _, _, i + 1, k, v, .cons (x := x) (kvs := kvs) (ts := ts) h o t, nd, e => by
    have e2 : kvs[i]? = some (k, v) := e
    have nd2 := List.nodup_cons.mp nd
    rw [valV_neg ?_]
    · exact t.get nd2.2 e2
    · intro z
      have hm : (k, v) ∈ kvs := List.mem_of_getElem? e2
      have hk : ∃ y ∈ ts, k = kN y.m := by
        clear e e2 nd nd2 z
        induction t with
        | nil => exact nomatch hm
        | cons h2 o2 t2 ih =>
          rcases List.mem_cons.mp hm with q | q
          · cases q
            exact ⟨_, .head _, rfl⟩
          · obtain ⟨y, hy, e⟩ := ih q
            exact ⟨y, .tail _ hy, e⟩
      obtain ⟨y, hy, e3⟩ := hk
      refine nd2.1 (List.mem_map.mpr ⟨y, hy, ?_⟩)
      exact (kN_inj ((show kN x.m = k from z).trans e3)).symm
def spSome : Sp := fun vs H Q _ => ∃ (p : Addr) (n c : Nat), vs = [.ref p, nV n] ∧ 1 ≤ n ∧ n ≤ 10 ∧ c ≤ 10000 ∧ PotAt H p c ∧
  ∀ H' l ts, Fr [p] H H' → H l = none → RecAt H' l ts → PotAt H' p (c + 200) → (∀ x ∈ ts, Ok n x) → (ts.map (·.m)).Nodup → ts.length ≤ 10 → Q (.ref l) H'
def spLText : Sp := fun vs H Q _ => ∃ (n k : Nat) (a l : Addr) (ts : List Tie), vs = [.ref a] ∧ H a = some (netO n k l) ∧ RecAt H l ts ∧ n ≤ 10 ∧ k ≤ 6 ∧ ts.length ≤ 60 ∧ (∀ x ∈ ts, Ok n x) ∧ ∀ H', Same H H' → Q (.str (netT n k ts)) H'
section
variable {P : Program} {w : World} {K : PySem.W.Frag} {mg : Str → Option Value} {base : Heap} {f : Addr} {fd : FuncData}
abbrev N__law_some_ties : List Str := ["pot", "n", "found", "turn", "moment", "a", "b"]
theorem sc__law_some_ties : FnScope N__law_some_ties ["pot", "n"] (defScope s__law_some_ties) := ⟨rfl, rfl, rfl, by decide +kernel, rfl, by decide +kernel, by decide +kernel⟩
theorem ok__law_some_ties (T : Txt K mg) (C__law_take : Cal P w K mg base CX0 "_law_take" 1 ["pot", "size"] spTake) (C__law_wide : Cal P w K mg base CX0 "_law_wide" 2 ["pot", "size"] spWide) (F : FunD K "_law_some_ties" "_law_some_ties" (defArgs s__law_some_ties) (defBody s__law_some_ties) (defScope s__law_some_ties) [] [] f fd) : FnOk P w K mg base CX0 3 f fd ["pot", "n"] spSome := by
  refine F.ok sc__law_some_ties (fun vs H Q E h => ?_) (fun cdv A outer s H vs Q E hr h => ?_)
  · obtain ⟨_, _, _, rfl, _⟩ := h
    rfl
  obtain ⟨p, n, c, rfl, n1, n2, hc, hP, q⟩ := h
  have e30 : (10 : Int) ^ (30 : Int).toNat = ((10 ^ 30 : Nat) : Int) := by decide
  have cp : CPow 10 30 := ⟨by decide, by decide, by decide⟩
  refine ⟨_, PSs.nox (pss_cons (ps_set (i := 2) sc__law_some_ties.nd rfl (Or.inr rfl) pe_dnewK)
      (pss_cons (ps_for PassesOwn.never rfl (pi_range1 (by rfl) T.range (pa_cons (pe_cal C__law_take (hr.mono (by decide)) pass0 (pa_cons (pv 0) (pa_cons pe_int pa_nil))) pa_nil)) (pg_name (i := 3) sc__law_some_ties.nd rfl (Or.inl rfl))
      (pss_cons (ps_set (i := 4) sc__law_some_ties.nd rfl (Or.inl rfl) (pe_cal C__law_take (hr.mono (by decide)) pass0 (pa_cons (pv 0) (pa_cons pe_int pa_nil))))
      (pss_cons (ps_if (pt_cmpR op_eq (pe_cal C__law_take (hr.mono (by decide)) pass0 (pa_cons (pv 0) (pa_cons pe_int pa_nil))) pe_int (nomark _)) (pss_one (ps_set (i := 4) sc__law_some_ties.nd rfl (Or.inl rfl) (pe_ix ix_list (pe_lst (pa_cons (pe_cal C__law_wide (hr.mono (by decide)) pass0 (pa_cons (pv 0) (pa_cons (pe_op op_pow pe_int pe_int) pa_nil))) (pa_cons (pe_op op_pow pe_int pe_int) pa_nil))) (pe_callTy call_int1 (by rfl) T.int (by decide +kernel) (pa_cons (pe_cmpR op_eq (pe_cal C__law_take (hr.mono (by decide)) pass0 (pa_cons (pv 0) (pa_cons pe_int pa_nil))) pe_int (nomark _)) pa_nil)) (fun _ _ => rfl)))) pss_nil)
      (pss_cons (ps_set (i := 5) sc__law_some_ties.nd rfl (Or.inl rfl) (pe_cal C__law_take (hr.mono (by decide)) pass0 (pa_cons (pv 0) (pa_cons (pv 1) pa_nil))))
      (pss_cons (ps_set (i := 6) sc__law_some_ties.nd rfl (Or.inl rfl) (pe_cal C__law_take (hr.mono (by decide)) pass0 (pa_cons (pv 0) (pa_cons (pv 1) pa_nil))))
      (pss_one (ps_dput (hu_of hr) (pv 2) (pv 4) (pe_tup (pa_cons (pv 4) (pa_cons (pe_callB (call_min2 rfl) (by rfl) T.min (by decide +kernel) (pa_cons (pv 5) (pa_cons (pv 6) pa_nil))) (pa_cons (pe_callB (call_max2 rfl) (by rfl) T.max (by decide +kernel) (pa_cons (pv 5) (pa_cons (pv 6) pa_nil))) pa_nil)))) rfl)))))))
      (pss_one (ps_ret (pe_lock (pe_lc (own := [("moment", 4)]) rfl sc__law_some_ties.nd (pi_keys (pv 2)) (blkOk_by (own := [("moment", 4)]) (N := N__law_some_ties) (sc := defScope s__law_some_ties) (by decide +kernel)) (fun _ _ _ _ _ => (pg_name (i := 4) sc__law_some_ties.nd rfl (Or.inl rfl))) (fun _ _ _ _ _ => pts_nil) (fun _ _ _ _ _ => (pe_dget (hu_of hr) (pv 2) (pv 4) (fun _ _ => rfl))))))))), ?_⟩
  refine fun d hd => ?_
  have s0 := same_new (o := .dK []) hd
  have hpd : d ≠ p := by
    obtain ⟨_, _, _, z, _⟩ := hP
    exact (ne_of_none z hd).symm
  refine ⟨_, rfl, p, c, 11, rfl, by decide, by decide, by omega, hP.same s0, fun H1 m1 f1 hp1 hm1 => ?_⟩
  have hd1 : H1 d = some (.dK []) := f1.at (fun z => hpd (List.mem_singleton.mp z)) upd_same
  refine ⟨(m1 : Int), rfl, by omega, by omega, for_range (lo := 0) (n := m1) (fun i σ H' => (∃ v1 v2 v3 v4, σ = [some (.ref p), some (nV n), some (.ref d), v1, v2, v3, v4]) ∧ Fr [p] H H' ∧ PotAt H' p (c + 1 + 12 * i) ∧
    ∃ kvs ts, H' d = some (.dK kvs) ∧ KvAt H' n kvs ts ∧ (ts.map (·.m)).Nodup ∧ ts.length ≤ i) ?_ ?_ ?_⟩
  · exact ⟨⟨_, _, _, _, rfl⟩, (Fr.of s0).trans f1, hp1, [], [], hd1, .nil, List.nodup_nil, Nat.le_refl _⟩
  · rintro i σ H2 hi ⟨⟨v1, v2, v3, v4, rfl⟩, f2, hp2, kvs, ts, hd2, hkv, hnd, htl⟩
    have up : ∀ {H' H''} (g : Fr [p] H' H''), H' d = some (.dK kvs) → H'' d = some (.dK kvs) := fun g e => g.at (fun z => hpd (List.mem_singleton.mp z)) e
    refine ⟨_, rfl, p, c + 1 + 12 * i, 30, rfl, by decide, by decide, by omega, hp2, fun H3 m f3 hp3 hm => ?_⟩
    have hmb : m ≤ 10 ^ 30 := Nat.le_trans (Nat.le_of_lt hm) (by decide)
    have hd3 := up f3 hd2
    refine ⟨_, rfl, p, c + 1 + 12 * i + 1, 4, rfl, by decide, by decide, by omega, hp3, fun H4 g f4 hp4 hg => ?_⟩
    have hd4 := up f4 hd3
    have f24 := (f2.trans f3).trans f4
    have hk4 := (hkv.fr f3).fr f4
    have n200 : n < 2 ^ 200 := Nat.lt_of_le_of_lt n2 (by decide)
    have hnp : d ∉ [p] := fun z => hpd (List.mem_singleton.mp z)
    have rest : ∀ (H6 : Hp) (mo : Nat), mo ≤ 10 ^ 30 → Fr [p] H H6 → PotAt H6 p (c + 1 + 12 * i + 8) → H6 d = some (.dK kvs) → KvAt H6 n kvs ts → ∀ (H7 : Hp) (a : Nat), Fr [p] H6 H7 → PotAt H7 p (c + 1 + 12 * i + 8 + 1) → a < n → ∀ (H8 : Hp) (b : Nat), Fr [p] H7 H8 → PotAt H8 p (c + 1 + 12 * i + 8 + 1 + 1) → b < n → ∀ t, H8 t = none →
        let H9 := upd H8 t (.tup [nV mo, .int (if (b : Int) < (a : Int) then (b : Int) else (a : Int)), .int (if (b : Int) > (a : Int) then (b : Int) else (a : Int))])
        H9 d = some (.dK kvs) ∧ Fr [p] H (upd H9 d (.dK (putK kvs (kN mo) (.ref t)))) ∧ PotAt (upd H9 d (.dK (putK kvs (kN mo) (.ref t)))) p (c + 1 + 12 * (i + 1)) ∧
        ∃ us, KvAt (upd H9 d (.dK (putK kvs (kN mo) (.ref t)))) n (putK kvs (kN mo) (.ref t)) us ∧ (us.map (·.m)).Nodup ∧ us.length ≤ i + 1 := by
      intro H6 mo hmo f26 hp6 hd6 hk6 H7 a f7 hp7 ha H8 b f8 hp8 hb t ht
      have ea : V.int (if (b : Int) < (a : Int) then (b : Int) else (a : Int)) = nV (min a b) := congrArg V.int (by split <;> omega)
      have eb : V.int (if (b : Int) > (a : Int) then (b : Int) else (a : Int)) = nV (max a b) := congrArg V.int (by split <;> omega)
      rw [ea, eb]
      have hd8 := f8.at hnp (f7.at hnp hd6)
      have hk8 := (hk6.fr f7).fr f8
      have s9 := same_new (o := .tup [nV mo, nV (min a b), nV (max a b)]) ht
      have hd9 := s9 _ _ hd8
      have ox : Ok n ⟨mo, min a b, max a b⟩ := ⟨by show min a b < n; omega, by show max a b < n; omega, by show min a b ≤ max a b; omega, hmo⟩
      have f9 : Fr [p] H (upd H8 t (.tup [nV mo, nV (min a b), nV (max a b)])) := ((f26.trans f7).trans f8).trans (Fr.of s9)
      have f10 : Fr [p] H (upd (upd H8 t (.tup [nV mo, nV (min a b), nV (max a b)])) d (.dK (putK kvs (kN mo) (.ref t)))) := fun u o e hm => by
        rw [upd_ne (ne_of_none e hd)]
        exact f9 u o e hm
      have f11 : Fr [d] (upd H8 t (.tup [nV mo, nV (min a b), nV (max a b)])) (upd (upd H8 t (.tup [nV mo, nV (min a b), nV (max a b)])) d (.dK (putK kvs (kN mo) (.ref t)))) := Fr.upd (.head _) hd9 (by intro xs z; cases z)
      obtain ⟨us, h1, h2, h3⟩ := ((hk8.fr (Fr.of (M := [d]) s9)).fr f11).put (t := t) (x := ⟨mo, min a b, max a b⟩) (f11.tup upd_same) ox hnd
      refine ⟨hd9, f10, ?_, us, h1, h2, by omega⟩
      obtain ⟨r, j, x, e1, e2⟩ := hp8
      refine ⟨r, j, x, ?_, by omega⟩
      rw [upd_ne hpd.symm]
      exact s9 _ _ e1
    refine ⟨rfl, _, rfl, ite2 (fun _ => ?_) (fun _ => ?_)⟩
    · refine ⟨_, rfl, _, _, rfl, rfl, cp, p, c + 1 + 12 * i + 1 + 1, 10 ^ 30, congrArg (fun z => [V.ref p, V.int z]) e30, by decide, by decide, by omega, hp4, fun H5 wd f5 hp5 hwd => ?_⟩
      refine ⟨_, _, rfl, rfl, cp, by show 2 ≤ sizeLine; decide, fun t ht => ?_⟩
      have s5 := same_new (o := .lst [nV wd, .int (10 ^ (30 : Int).toNat)]) ht
      have htp : t ∉ [p] := fun z => by
        obtain ⟨_, _, _, y, _⟩ := hp5
        rw [← List.mem_singleton.mp z, ht] at y
        cases y
      refine ⟨_, rfl, p, c + 1 + 12 * i + 1 + 1 + 5, 4, rfl, by decide, by decide, by omega, hp5.same s5, fun H6 g2 f6 hp6 hg2 => ?_⟩
      refine ⟨rfl, .inr ⟨_, rfl, ?_⟩⟩
      obtain ⟨mo, hmo, hidx⟩ : ∃ mo, mo ≤ 10 ^ 30 ∧ atI [nV wd, .int (10 ^ (30 : Int).toNat)] (if decide (nV g2 = V.int 3) = true then 1 else 0) = some (nV mo) := by
        by_cases hg3 : decide (nV g2 = V.int 3) = true
        · rw [if_pos hg3]
          exact ⟨10 ^ 30, Nat.le_refl _, (atI_nat (j := 1) rfl).trans (congrArg (fun z => some (V.int z)) e30)⟩
        · rw [if_neg hg3]
          exact ⟨wd, Nat.le_of_lt hwd, atI_nat (j := 0) rfl⟩
      refine ⟨t, _, _, _, rfl, rfl, SqL.of (f6.at htp upd_same), hidx, ?_⟩
      have f46 : Fr [p] H4 H6 := (f5.trans (Fr.of s5)).trans f6
      have hp6' : PotAt H6 p (c + 1 + 12 * i + 8) := hp6.le (by omega)
      refine ⟨_, rfl, _, rfl, p, c + 1 + 12 * i + 8, n, rfl, n1, n200, by omega, hp6', fun H7 a f7 hp7 ha => ?_⟩
      refine ⟨_, rfl, _, rfl, p, c + 1 + 12 * i + 8 + 1, n, rfl, n1, n200, by omega, hp7, fun H8 b f8 hp8 hb => ?_⟩
      refine ⟨_, rfl, _, rfl, _, rfl, _, _, rfl, _, rfl, _, rfl, _, _, rfl, by show 3 ≤ sizeLine; decide, fun t2 ht2 => ?_⟩
      obtain ⟨r1, r2, r3, us, r4, r5, r6⟩ := rest H6 mo hmo (f24.trans f46) hp6' (f46.at hnp hd4) (hk4.fr f46) H7 a f7 hp7 ha H8 b f8 hp8 hb t2 ht2
      exact ⟨_, rfl, _, rfl, d, _, rfl, DPut.k (k := kN mo) r1 (small1000 (by have := hkv.len; omega)), ⟨_, _, _, _, rfl⟩, r2, r3, _, us, upd_same, r4, r5, r6⟩
    · have hp6' : PotAt H4 p (c + 1 + 12 * i + 8) := hp4.le (by omega)
      refine ⟨_, rfl, _, rfl, p, c + 1 + 12 * i + 8, n, rfl, n1, n200, by omega, hp6', fun H7 a f7 hp7 ha => ?_⟩
      refine ⟨_, rfl, _, rfl, p, c + 1 + 12 * i + 8 + 1, n, rfl, n1, n200, by omega, hp7, fun H8 b f8 hp8 hb => ?_⟩
      refine ⟨_, rfl, _, rfl, _, rfl, _, _, rfl, _, rfl, _, rfl, _, _, rfl, by show 3 ≤ sizeLine; decide, fun t2 ht2 => ?_⟩
      obtain ⟨r1, r2, r3, us, r4, r5, r6⟩ := rest H4 m hmb f24 hp6' hd4 hk4 H7 a f7 hp7 ha H8 b f8 hp8 hb t2 ht2
      exact ⟨_, rfl, _, rfl, d, _, rfl, DPut.k (k := kN m) r1 (small1000 (by have := hkv.len; omega)), ⟨_, _, _, _, rfl⟩, r2, r3, _, us, upd_same, r4, r5, r6⟩
  · rintro σ H2 ⟨⟨v1, v2, v3, v4, rfl⟩, f2, hp2, kvs, ts, hd2, hkv, hnd, htl⟩
    refine ⟨d, .dK kvs, hd2, trivial, fun od => ?_⟩
    refine ⟨_, rfl, d, od, rfl, .inl ⟨kvs, upd_same, fun D hD => ?_⟩⟩
    have nDd : D ≠ d := (ne_of_none upd_same hD).symm
    have hD2 : H2 D = none := by rw [upd_ne nDd] at hD; exact hD
    refine lc_it (walk_keys (d := d) (o := od) (kvs := kvs)) (fun i H' => Same (upd H2 d (.frz od (.dK kvs))) H' ∧ H' D = some (.lst ((kvs.take i).map (·.2)))) ?_ ?_ ?_ ?_
    · exact ⟨same_new hD, upd_same⟩
    · exact fun i H' _ ⟨sm, _⟩ => sm _ _ upd_same
    · rintro i x H3 H4 hi ⟨sm, hacc⟩ ⟨rfl, k, v, hkv2, rfl⟩
      have hv := hkv.get hnd hkv2
      have hkl := hkv.len
      refine ⟨rfl, _, rfl, _, rfl, d, v, rfl, .inl ⟨kvs, k, .inr ⟨od, sm _ _ upd_same⟩, rfl, hv.symm⟩, ?_⟩
      refine ⟨_, hacc, small1000 (by rw [List.length_map, List.length_take]; omega), same_upd sm hD, ?_⟩
      rw [take_succ hkv2, List.map_append]
      exact upd_same
    · rintro H3 ⟨sm, hacc⟩
      rw [List.take_length] at hacc
      refine ⟨sm _ _ upd_same, ?_⟩
      have f3 : Fr [p] H2 (upd H3 d (.dK kvs)) := fun b o e _ => by
        by_cases z : b = d
        · rw [z, upd_same, ← hd2, ← z, e]
        · rw [upd_ne z]
          exact sm _ _ (by rw [upd_ne z]; exact e)
      have hDH : H D = none := by
        cases e : H D with
        | none => rfl
        | some o =>
          have hDp : D ≠ p := fun z => by
            obtain ⟨_, _, _, y, _⟩ := hp2
            rw [← z, hD2] at y
            cases y
          rw [f2.at (fun z => hDp (List.mem_singleton.mp z)) e] at hD2
          cases hD2
      refine q _ D ts (f2.trans f3) hDH ⟨_, ?_, (hkv.fr f3).ts⟩ ?_ hkv.ok hnd (by omega)
      · rw [upd_ne nDd]
        exact hacc
      · obtain ⟨r, i, x, e1, e2⟩ := hp2
        refine ⟨r, i, x, ?_, by omega⟩
        rw [upd_ne hpd.symm]
        exact sm _ _ (by rw [upd_ne hpd.symm]; exact e1)
abbrev N__law_text : List Str := ["net", "ties", "moment", "a", "b"]
theorem sc__law_text : FnScope N__law_text ["net"] (defScope s__law_text) := ⟨rfl, rfl, rfl, by decide +kernel, rfl, by decide +kernel, by decide +kernel⟩
theorem ok__law_text (T : Txt K mg) (F : FunD K "_law_text" "_law_text" (defArgs s__law_text) (defBody s__law_text) (defScope s__law_text) [] [] f fd) : FnOk P w K mg base CX0 1 f fd ["net"] spLText := by
  refine F.ok sc__law_text (fun vs H Q E h => ?_) (fun cdv A outer s H vs Q E hr h => ?_)
  · obtain ⟨_, _, _, _, _, rfl, _⟩ := h
    rfl
  obtain ⟨n, k, a, l, ts, rfl, ha, ⟨us, hl, ht⟩, n2, k2, hlen, ok, q⟩ := h
  have hul := ht.len
  refine ⟨_, PSs.nox (pss_cons (ps_set (i := 1) sc__law_text.nd rfl (Or.inl rfl) (pe_join pe_str (pe_lc (own := [("moment", 2), ("a", 3), ("b", 4)]) rfl sc__law_text.nd (pi_list (pe_ix ix_tup (pv 0) pe_int (fun _ _ => rfl))) (blkOk_by (own := [("moment", 2), ("a", 3), ("b", 4)]) (N := N__law_text) (sc := defScope s__law_text) (by decide +kernel)) (fun _ _ _ _ _ => (pg_tupK K (n := 3) rfl (pgs_cons (pg_name (i := 2) sc__law_text.nd rfl (Or.inl rfl)) (pgs_cons (pg_name (i := 3) sc__law_text.nd rfl (Or.inl rfl)) (pgs_cons (pg_name (i := 4) sc__law_text.nd rfl (Or.inl rfl)) pgs_nil))))) (fun _ _ _ _ _ => pts_nil) (fun _ _ _ _ _ => (pe_op op_add_str (pe_op op_add_str (pe_op op_add_str (pe_op op_add_str (pe_callTy call_str_int (by rfl) T.str (by decide +kernel) (pa_cons (pv 2) pa_nil)) pe_str) (pe_callTy call_str_int (by rfl) T.str (by decide +kernel) (pa_cons (pv 3) pa_nil))) pe_str) (pe_callTy call_str_int (by rfl) T.str (by decide +kernel) (pa_cons (pv 4) pa_nil)))))))
      (pss_cons (ps_if (pt_cmpR (op_eqD hr.units) (pe_ix ix_tup (pv 0) pe_int (fun _ _ => rfl)) (pe_lst pa_nil) (nomark _)) (pss_one (ps_set (i := 1) sc__law_text.nd rfl (Or.inl rfl) pe_str)) pss_nil)
      (pss_one (ps_ret (pe_op op_add_str (pe_op op_add_str (pe_op op_add_str (pe_op op_add_str (pe_callTy call_str_int (by rfl) T.str (by decide +kernel) (pa_cons (pe_ix ix_tup (pv 0) pe_int (fun _ _ => rfl)) pa_nil)) pe_str) (pe_callTy call_str_int (by rfl) T.str (by decide +kernel) (pa_cons (pe_ix ix_tup (pv 0) pe_int (fun _ _ => rfl)) pa_nil))) pe_str) (pv 1)))))), ?_⟩
  have g0 : ∀ {H'}, Same H H' → SqT K H' a [nV n, nV k, .ref l] := fun s => SqT.of (s _ _ ha)
  have i0 : atI [nV n, nV k, V.ref l] 0 = some (nV n) := atI_nat (j := 0) rfl
  have i1 : atI [nV n, nV k, V.ref l] 1 = some (nV k) := atI_nat (j := 1) rfl
  have i2 : atI [nV n, nV k, V.ref l] 2 = some (.ref l) := atI_nat (j := 2) rfl
  refine ⟨⟨_, rfl⟩, _, rfl, a, _, _, _, rfl, rfl, g0 (Same.refl' H), i2, l, rfl, ⟨_, SqL.of hl⟩, fun D hD => lc_list (K := K) (a := l) (xs := us) (fun i H' => Same H H' ∧ H' D = some (.lst (sVs ((ts.take i).map tieT)))) ?_ ?_ ?_ ?_⟩
  · exact ⟨same_new hD, upd_same⟩
  · exact fun i H' _ ⟨sm, _⟩ => SqL.of (sm _ _ hl)
  · rintro i v H' hi ⟨sm, hacc⟩
    obtain ⟨p, x, rfl, hx, hp⟩ := ht.get hi
    have o := (ok x (List.mem_of_getElem? hx)).two n2
    have hi2 : i < us.length := (List.getElem?_eq_some_iff.mp hi).1
    have l1 : (sN x.m).length ≤ 31 := sN_len o.m
    have l2 := sN_len2 o.a
    have l3 := sN_len2 o.b
    have c1 : (":" : Str).length = 1 := by decide +kernel
    have c2 : ("-" : Str).length = 1 := by decide +kernel
    have e1 : (sN x.m ++ ":").length ≤ 32 := by rw [len_app]; omega
    have e2 : (sN x.m ++ ":" ++ sN x.a).length ≤ 34 := by rw [len_app]; omega
    have e3 : (sN x.m ++ ":" ++ sN x.a ++ "-").length ≤ 35 := by rw [len_app]; omega
    refine ⟨p, _, rfl, SqT.of (sm _ _ hp), rfl, _, _, rfl, _, _, rfl, _, _, rfl, rfl, rfl, ?_⟩
    refine ⟨_, rfl, _, rfl, sN_log o.m, _, _, rfl, rfl, sl_of (m := 40) (by show (sN x.m).length + _ ≤ _; omega) (by decide), ?_⟩
    refine ⟨_, rfl, _, rfl, sN_log (Nat.le_trans (Nat.le_of_lt o.a) (by decide)), _, _, rfl, rfl, sl_of (m := 40) (by show (sN x.m ++ ":").length + (sN x.a).length ≤ _; omega) (by decide), ?_⟩
    refine ⟨_, _, rfl, rfl, sl_of (m := 40) (by show (sN x.m ++ ":" ++ sN x.a).length + _ ≤ _; omega) (by decide), ?_⟩
    refine ⟨_, rfl, _, rfl, sN_log (Nat.le_trans (Nat.le_of_lt o.b) (by decide)), _, _, rfl, rfl, sl_of (m := 40) (by show (sN x.m ++ ":" ++ sN x.a ++ "-").length + (sN x.b).length ≤ _; omega) (by decide), ?_⟩
    refine ⟨_, hacc, small1000 (by unfold sVs; rw [List.length_map, List.length_map, List.length_take]; omega), same_upd sm hD, ?_⟩
    unfold sVs
    rw [take_succ hx, List.map_append, List.map_append]
    exact upd_same
  rintro H1 ⟨s1, hacc⟩
  rw [hul, List.take_length] at hacc
  have h2 : ((ts.map tieT).map (·.length)).sum ≤ 37 * (ts.map tieT).length := sum_le fun y hy => by
    obtain ⟨z, hz, rfl⟩ := List.mem_map.mp hy
    have o := (ok z hz).two n2
    exact tieT_len o.m o.a o.b
  rw [List.length_map] at h2
  have h3 : ("; " : Str).length = 2 := by decide +kernel
  refine ⟨_, D, ts.map tieT, rfl, rfl, .inl (SqL.of hacc), ?_, ?_⟩
  · show _ + _ * ("; " : Str).length ≤ _
    rw [h3, List.length_map]
    omega
  refine ⟨_, rfl, a, _, _, _, rfl, rfl, g0 s1, i2, Nat.zero_le _, fun e0 he0 => ?_⟩
  have s2 := s1.trans (same_new (o := .lst []) he0)
  refine ⟨_, _, .lst (SqL.of (s2 _ _ hl)) (dp_ties (ht.same s2)), .lst (SqL.of upd_same) .nil, shaped_ties _, rfl, _, rfl, ?_⟩
  rw [eqv_nil]
  have hr2 := recT_len (ts := ts) n2 fun x hx => ⟨(ok x hx).m, (ok x hx).a, (ok x hx).b⟩
  have l1 := sN_len2 (n := n) (by omega)
  have l2 := sN_len2 (n := k) (by omega)
  have c1 : (" " : Str).length = 1 := by decide +kernel
  have e1 : (sN n ++ " ").length ≤ 3 := by rw [len_app]; omega
  have e2 : (sN n ++ " " ++ sN k).length ≤ 5 := by rw [len_app]; omega
  have e3 : (sN n ++ " " ++ sN k ++ " ").length ≤ 6 := by rw [len_app]; omega
  have g2 := g0 s2
  cases ts with
  | nil =>
    refine iteT ?_
    refine ⟨_, rfl, a, _, _, _, rfl, rfl, g2, i0, _, rfl, sN_log (Nat.le_trans n2 (by decide)), _, _, rfl, rfl, sl_of (m := 40) (by show (sN n).length + (" " : Str).length ≤ _; omega) (by decide), ?_⟩
    refine ⟨_, rfl, a, _, _, _, rfl, rfl, g2, i1, _, rfl, sN_log (Nat.le_trans k2 (by decide)), _, _, rfl, rfl, sl_of (m := 40) (by show (sN n ++ " ").length + (sN k).length ≤ _; omega) (by decide), ?_⟩
    refine ⟨_, _, rfl, rfl, sl_of (m := 40) (by show (sN n ++ " " ++ sN k).length + (" " : Str).length ≤ _; omega) (by decide), ?_⟩
    exact ⟨_, rfl, _, _, rfl, rfl, sl_of (m := 4000) (by show (sN n ++ " " ++ sN k ++ " ").length + (recT []).length ≤ _; omega) (by decide), q _ s2⟩
  | cons x r =>
    refine iteF ?_
    refine ⟨_, rfl, a, _, _, _, rfl, rfl, g2, i0, _, rfl, sN_log (Nat.le_trans n2 (by decide)), _, _, rfl, rfl, sl_of (m := 40) (by show (sN n).length + (" " : Str).length ≤ _; omega) (by decide), ?_⟩
    refine ⟨_, rfl, a, _, _, _, rfl, rfl, g2, i1, _, rfl, sN_log (Nat.le_trans k2 (by decide)), _, _, rfl, rfl, sl_of (m := 40) (by show (sN n ++ " ").length + (sN k).length ≤ _; omega) (by decide), ?_⟩
    refine ⟨_, _, rfl, rfl, sl_of (m := 40) (by show (sN n ++ " " ++ sN k).length + (" " : Str).length ≤ _; omega) (by decide), ?_⟩
    exact ⟨_, rfl, _, _, rfl, rfl, sl_of (m := 4000) (by show (sN n ++ " " ++ sN k ++ " ").length + (recT (x :: r)).length ≤ _; omega) (by decide), q _ s2⟩
end
end SP
set_option maxRecDepth 100000
set_option maxHeartbeats 4000000
namespace SP
open PySem PySem.Spec PyProof.Rows L2 TL
/-! ### a call in a try -/
def tCalS (C : Addr) (m : Str) (sp : Sp) (E : L2.St → XK) (ta : TE) (t : TA) : TE := fun σ H Q => ta σ H fun x H1 => ∃ a dx fs, x = .ref a ∧ H1 a = some (.ins C dx fs) ∧ fs.lookup m = none ∧ t σ H1 fun vs H2 => sp (x :: vs) H2 Q (E σ)
theorem pe_calmS {X : Cx} {CX : CXT} {k : Nat} {C : Addr} {ps : List Str} {sp : Sp} {E : L2.St → XK} {m : Str} {pos apos : Pos} {e o : Expr} {es : List Expr} {ta : TE} {t : TA} {pl : Sem Bool} (G : CalM X.prog X.w X.K X.mg X.base CX C m k ps sp) (he : PE X o ta) (c : Cls X.K C)
    (hr : Room k X.A) (hx : ∀ σ, PassesAt CX X σ (E σ)) (ha : PA X (e :: es) t)
    (hst : starEach (e :: es) X.env = (false, eval e X.env) :: starEach es X.env := by rfl) (hpl : (backTo pos (starEach es X.env)).any (·.1) = false := by rfl)
    (ht : eval (.Call (.Attribute o m apos) (e :: es) [] pos) X.env = (do
      let ov ← eval o X.env
      standAt apos.atName
      let (f, first) ← holding [ov] (getMethod ov m pl)
      callWith pos f first (backTo pos (starEach (e :: es) X.env)) (backToKw pos (keywordEach [] X.env))) := by rfl) :
    PE X (.Call (.Attribute o m apos) (e :: es) [] pos) (tCalS C m sp E ta t) := by
  obtain ⟨f, fd, F, hm, hb⟩ := G.ex
  refine ⟨fun pins s σ H Q I h => ?_⟩
  refine PySem.W.methodCall_KW (pl := pl) (thn (he.run pins s σ H _ I h) fun u s1 ⟨x, H1, I1, rx, a, dx, fs, ex, ea, l, q⟩ => ?_) ht
  subst ex
  obtain rfl : u = Value.ref a := rx
  refine getmeth_ok I1 ea c hm l ?_
  refine PySem.W.callWith_K (first := [.ref a]) (h₀ := X.base) I.ok.mod.kin hm.kp (thn (ha.run pos pins s1 σ H1 _ I1 q) fun us s2 ⟨vs, H2, I2, r, q2⟩ => ⟨I2.kIn, ?_⟩) hst hpl
  exact run_fnS (us := .ref a :: us) (vs := .ref a :: vs) F hr hb (hx σ) I2 (.cons rfl r) q2
/-! ### the keeper's states -/
theorem NetOk.come {st : KS} {x : Tie} (o : NetOk st.n st.k st.kept) (c : CanCome st x) : NetOk st.n st.k (netA st.n st.k (insA x st.kept)) := by
  obtain ⟨c1, c2, c3, c4⟩ := c
  refine ⟨o.n1, o.n2, o.k1, o.k2, fun y hy => ?_, netA_rise (insA_rise o.up c4), ?_, netA_layers⟩
  · rcases insA_mem.mp (netA_mem hy) with z | z
    · rw [z]; exact c1
    · exact o.ok y z
  · have h1 := netA_len (n := st.n) (k := st.k) (l := insA x st.kept)
    have h2 := insA_len (x := x) (l := st.kept)
    omega
theorem KOk.come {st : KS} {x : Tie} (o : KOk st) (c : CanCome st x) (h : st.past.length ≤ 800) : KOk (comeT st x) :=
  ⟨o.net.come c, fun e he => by
    rcases List.mem_cons.mp he with z | z
    · rw [z]; exact o.net
    · exact o.past e z, o.first, by show st.past.length + 1 ≤ 900; omega⟩
theorem KOk.forget {st : KS} {t : Nat} (o : KOk st) (ht : t ≤ 10 ^ 30) (h : st.past.length ≤ 800) : KOk (forgetT st t) :=
  ⟨o.net.since _, fun e he => by
    rcases List.mem_cons.mp he with z | z
    · rw [z]; exact o.net
    · exact o.past e z, Nat.max_le.mpr ⟨ht, o.first⟩, by show st.past.length + 1 ≤ 900; omega⟩
theorem KOk.lay {st : KS} {us : List Tie} (o : KOk st) (c : CanLay st us) (h : st.past.length ≤ 800) : KOk (layT st us) := by
  obtain ⟨c1, c2, c3⟩ := c
  have hs := since_len (t := st.first) (l := us)
  have one : OneTie (st.kept ++ sinceD st.first us) := by
    have key : ∀ c, c ∈ st.kept ++ sinceD st.first us → c ∈ st.kept ++ us := fun c hc => by
      rcases List.mem_append.mp hc with z | z
      · exact List.mem_append.mpr (.inl z)
      · exact List.mem_append.mpr (.inr (since_mem.mp z).1)
    exact fun x hx y hy e => c3 x (key x hx) y (key y hy) e
  refine ⟨⟨o.net.n1, o.net.n2, o.net.k1, o.net.k2, fun y hy => ?_, withT_rise one o.net.up, ?_, withT_layers o.net.all⟩, fun e he => ?_, o.first, by show st.past.length + 1 ≤ 900; omega⟩
  · rcases withT_mem hy with z | z
    · exact o.net.ok y z
    · exact c1.ok y (since_mem.mp z).1
  · have := withT_len (n := st.n) (k := st.k) (cur := st.kept) (us := sinceD st.first us)
    show (withT st.n st.k st.kept (sinceD st.first us)).length ≤ 60
    omega
  · rcases List.mem_cons.mp he with z | z
    · rw [z]; exact o.net
    · exact o.past e z
theorem KOk.back {st : KS} {ts : List Tie} {f : Nat} {r : List (List Tie × Nat)} (o : KOk st) (e : st.past = (ts, f) :: r) (hf : f ≤ 10 ^ 30) : KOk { st with kept := ts, first := f, past := r } :=
  ⟨o.past (ts, f) (by rw [e]; exact .head _), fun x hx => o.past x (by rw [e]; exact .tail _ hx), hf, by
    have := o.few
    rw [e, List.length_cons] at this
    show r.length ≤ 900
    omega⟩
theorem kok_new {n k : Nat} (n1 : 1 ≤ n) (n2 : n ≤ 10) (k1 : 1 ≤ k) (k2 : k ≤ 6) : KOk ⟨n, k, [], 0, []⟩ :=
  ⟨⟨n1, n2, k1, k2, (fun _ h => nomatch h), List.Pairwise.nil, Nat.zero_le _, inits_nil⟩, (fun _ h => nomatch h), Nat.zero_le _, Nat.zero_le _⟩
theorem dk_no {H : Hp} {CD C d kp pl : Addr} {L : Addr → Prop} {st : KS} (a : DkAt H CD C d kp pl L st) : d ∉ [kp, pl] := by
  obtain ⟨dx, hd⟩ := a.d
  obtain ⟨⟨kdx, ka, us, hkp, _, hpl, _⟩, _⟩ := a.k
  intro z
  rcases List.mem_cons.mp z with e | z
  · rw [← e, hd] at hkp
    have e2 := Option.some.inj hkp
    injection e2 with _ _ e3
    have := congrArg List.length e3
    simp [kf] at this
  · rw [← List.mem_singleton.mp z, hd] at hpl
    cases hpl
theorem DkAt.next {H H' : Hp} {CD C d kp pl : Addr} {L : Addr → Prop} {st st' : KS} (a : DkAt H CD C d kp pl L st) (f : Fr [kp, pl] H H') (k : KpAt H' C kp pl L st') (ok : KOk st') : DkAt H' CD C d kp pl L st' := by
  have hn := dk_no a
  obtain ⟨dx, hd⟩ := a.d
  refine ⟨⟨dx, f.at hn hd⟩, k, ok, fun l hl => ?_⟩
  exact a.fresh l (f.dom hl fun z => kp_not k hl z)
theorem DkAt.mono {H : Hp} {CD C d kp pl : Addr} {L L' : Addr → Prop} {st : KS} (a : DkAt H CD C d kp pl L st) (hL : ∀ l, L l → H l ≠ none → L' l) (hp : ¬ L' pl) (hf : ∀ l, H l = none → L' l) : DkAt H CD C d kp pl L' st := ⟨a.d, a.k.mono hL hp, a.ok, hf⟩
theorem DkAt.pl {H : Hp} {CD C d kp pl : Addr} {L : Addr → Prop} {st : KS} (a : DkAt H CD C d kp pl L st) : H d ≠ none ∧ H kp ≠ none ∧ H pl ≠ none := by
  obtain ⟨dx, hd⟩ := a.d
  obtain ⟨⟨kdx, ka, us, hkp, _, hpl, _⟩, _⟩ := a.k
  exact ⟨by rw [hd]; simp, by rw [hkp]; simp, by rw [hpl]; simp⟩
theorem DkAt.fr {M : List Addr} {H H' : Hp} {CD C d kp pl : Addr} {L : Addr → Prop} {st : KS} (f : Fr M H H') (h1 : d ∉ M) (h2 : kp ∉ M) (h3 : pl ∉ M) (hM : ∀ l, L l → l ∉ M) (hf : ∀ l, H' l = none → L l) (a : DkAt H CD C d kp pl L st) : DkAt H' CD C d kp pl L st :=
  ⟨let ⟨dx, h⟩ := a.d; ⟨dx, f.at h1 h⟩, a.k.fr f h2 h3 hM, a.ok, hf⟩
def comesT (st : KS) (ts : List Tie) : KS := ts.foldl comeT st
theorem comesT_snoc {st : KS} {ts : List Tie} {x : Tie} : comesT st (ts ++ [x]) = comeT (comesT st ts) x := by unfold comesT; rw [List.foldl_append]; rfl
theorem comesT_is {n k : Nat} : ∀ {ts : List Tie} {st : KS}, st.n = n → st.k = k → (comesT st ts).n = n ∧ (comesT st ts).k = k ∧ (comesT st ts).kept = foldC n k st.kept ts ∧ (comesT st ts).first = st.first ∧ (comesT st ts).past.length = st.past.length + ts.length
  | [], st, h1, h2 => ⟨h1, h2, rfl, rfl, rfl⟩
  | x :: ts, st, h1, h2 => by
    obtain ⟨a, b, c, d, e⟩ := comesT_is (ts := ts) (st := comeT st x) (n := n) (k := k) h1 h2
    refine ⟨a, b, ?_, d, ?_⟩
    · subst h1 h2
      exact c
    · have e2 : (comesT st (x :: ts)).past.length = (comeT st x).past.length + ts.length := e
      rw [e2, List.length_cons]
      show st.past.length + 1 + ts.length = _
      omega
/-- at the bottom nothing is kept -/
def Bot : List Tie → List (List Tie × Nat) → Prop
  | ts, [] => ts = []
  | _, (ts, f) :: r => f ≤ 10 ^ 30 ∧ Bot ts r
theorem bot_comes : ∀ {ts : List Tie} {st : KS}, st.first ≤ 10 ^ 30 → Bot st.kept st.past → Bot (comesT st ts).kept (comesT st ts).past
  | [], _, _, h => h
  | x :: ts, st, hf, h => bot_comes (ts := ts) (st := comeT st x) hf ⟨hf, h⟩
/-! ### rows that are answered ok -/
inductive DoneRow (st : KS) : Str → KS → Prop where
  | forget (t : Nat) : t ≤ 10 ^ 30 → DoneRow st ("forget " ++ sN t) (forgetT st t)
  | back (ts : List Tie) (f : Nat) (r : List (List Tie × Nat)) : st.past = (ts, f) :: r → f ≤ 10 ^ 30 → DoneRow st "back" { st with kept := ts, first := f, past := r }
  | lay (us : List Tie) : CanLay st us → DoneRow st ("lay " ++ netT st.n st.k us) (layT st us)
theorem forget_row (t : Nat) : rowT ("forget" :: [t].map sN) = "forget " ++ sN t := by
  show rowT ["forget", sN t] = _
  rw [rowT_cons (by simp), rowT_one]
  rfl
theorem web_row (n k : Nat) : rowT ["web", sN n, sN k] = "web " ++ sN n ++ " " ++ sN k := by
  rw [rowT_cons (by simp), rowT_cons (by simp), rowT_one, app_assoc ("web " ++ sN n)]
  have e : ("web" : Str) ++ " " = "web " := by decide +kernel
  rw [← app_assoc, ← app_assoc, e, app_assoc ("web " ++ sN n)]
theorem tie_row (m a b : Nat) : rowT ["tie", sN m, sN a, sN b] = "tie " ++ sN m ++ " " ++ sN a ++ " " ++ sN b := by
  rw [rowT_cons (by simp), rowT_cons (by simp), rowT_cons (by simp), rowT_one]
  have e : ("tie" : Str) ++ " " = "tie " := by decide +kernel
  rw [← app_assoc, ← app_assoc, ← app_assoc, ← app_assoc, e]
theorem done_say {H : Hp} {CD C CN d kp pl : Addr} {L : Addr → Prop} {st st' : KS} {row : Str} {Q : VK} {E : XK} (a : DkAt H CD C d kp pl L st) (h : DoneRow st row st') (hp : st.past.length ≤ 800)
    (q : ∀ H', Fr [kp, pl] H H' → DkAt H' CD C d kp pl L st' → Q (.str "ok") H') :
    ((∃ w0 ns, [V.ref d, V.str row] = [V.ref d, V.str (rowT (w0 :: ns.map sN))] ∧ Row1 C CN kp pl L st H w0 ns Q E) ∨
     ([V.ref d, V.str row] = [V.ref d, V.str ("net" : Str)] ∧ ∀ H', Same H H' → Q (.str (netT st.n st.k st.kept)) H') ∨
     (∃ us, [V.ref d, V.str row] = [V.ref d, V.str ("lay " ++ netT st.n st.k us)] ∧ CanLay st us ∧ ∀ H', Fr [kp, pl] H H' → KpAt H' C kp pl L (layT st us) → Q (.str "ok") H')) := by
  cases h with
  | forget t ht => exact .inl ⟨"forget", [t], by rw [forget_row], .inr (.inl ⟨t, rfl, rfl, ht, fun H' f k => q H' f (a.next f k (a.ok.forget ht hp))⟩)⟩
  | back ts f r e hf =>
    refine .inl ⟨"back", [], by rw [show rowT ("back" :: [].map sN) = "back" from rowT_one], .inr (.inr ⟨rfl, rfl, (fun z => by rw [z] at e; cases e), fun ts' f' r' e' H' fr k => ?_⟩)⟩
    rw [e] at e'
    cases e'
    exact q H' fr (a.next fr k (a.ok.back e hf))
  | lay us c => exact .inr (.inr ⟨us, rfl, c, fun H' f k => q H' f (a.next f k (a.ok.lay c hp))⟩)
inductive Rows : KS → List Str → KS → Prop where
  | nil {st : KS} : Rows st [] st
  | cons {st st1 st2 : KS} {r : Str} {rs : List Str} : DoneRow st r st1 → st.past.length ≤ 800 → Rows st1 rs st2 → Rows st (r :: rs) st2
def spTold (CD C : Addr) : Sp := fun vs H Q _ => ∃ (n k : Nat) (l : Addr) (ts : List Tie), vs = [nV n, nV k, .ref l] ∧ 1 ≤ n ∧ n ≤ 10 ∧ 1 ≤ k ∧ k ≤ 6 ∧ RecAt H l ts ∧ (∀ x ∈ ts, Ok n x) ∧ (ts.map (·.m)).Nodup ∧ ts.length ≤ 10 ∧
  ∀ H' d kp pl, Same H H' → H d = none → H kp = none → H pl = none → DkAt H' CD C d kp pl (fun l => H l = none ∧ l ≠ d ∧ l ≠ kp ∧ l ≠ pl) (comesT ⟨n, k, [], 0, []⟩ ts) → Q (.ref d) H'
def spDone (CD C : Addr) : Sp := fun vs H Q _ => ∃ (d kp pl l : Addr) (L : Addr → Prop) (rows : List Str) (st st' : KS), vs = [.ref d, .ref l] ∧ H l = some (.lst (sVs rows)) ∧ l ∉ [kp, pl] ∧ rows.length ≤ 10 ∧ DkAt H CD C d kp pl L st ∧ Rows st rows st' ∧
  ∀ H', Fr [kp, pl] H H' → DkAt H' CD C d kp pl L st' → Q (.bl true) H'
def spBackTo (CD C : Addr) : Sp := fun vs H Q _ => ∃ (d kp pl : Addr) (L : Addr → Prop) (m : Nat) (st : KS), vs = [.ref d, nV m, .str (netT st.n st.k [])] ∧ DkAt H CD C d kp pl L st ∧ st.past.length = m ∧ m ≤ 800 ∧ Bot st.kept st.past ∧
  ∀ H' f, Fr [kp, pl] H H' → DkAt H' CD C d kp pl L ⟨st.n, st.k, [], f, []⟩ → Q (.bl true) H'
def spNoDeed (CD C : Addr) : Sp := fun vs H Q _ => ∃ (d kp pl : Addr) (L : Addr → Prop) (st : KS), vs = [.ref d] ∧ DkAt H CD C d kp pl L st ∧ st.past = [] ∧ ∀ H', Same H H' → Q (.bl true) H'
theorem DkAt.shut {H : Hp} {CD C d kp pl D : Addr} {o : HO} {L : Addr → Prop} {st : KS} (a : DkAt H CD C d kp pl L st) (h : H D = none) : DkAt (upd H D o) CD C d kp pl (fun l => L l ∧ l ≠ D) st := by
  have s := same_new (o := o) h
  obtain ⟨dx, hd⟩ := a.d
  refine ⟨⟨dx, s _ _ hd⟩, (a.k.mono (fun l h1 h2 => ⟨h1, fun z => h2 (by rw [z]; exact h)⟩) fun z => a.k.no z.1).same s, a.ok, fun l hl => ?_⟩
  refine ⟨a.fresh l (s.free hl), fun z => ?_⟩
  rw [z, upd_same] at hl
  cases hl
theorem DkAt.opens {H : Hp} {CD C d kp pl D : Addr} {L : Addr → Prop} {st : KS} (a : DkAt H CD C d kp pl (fun l => L l ∧ l ≠ D) st) (h : ¬ L pl) : DkAt H CD C d kp pl L st :=
  a.mono (fun l h1 _ => h1.1) h fun l hl => (a.fresh l hl).1
theorem DkAt.put {H : Hp} {CD C d kp pl D : Addr} {o u : HO} {L : Addr → Prop} {st : KS} (a : DkAt H CD C d kp pl (fun l => L l ∧ l ≠ D) st) (h : H D = some u) (hu : ∀ xs, u ≠ .tup xs) (h1 : d ≠ D) (h2 : kp ≠ D) (h3 : pl ≠ D) : DkAt (upd H D o) CD C d kp pl (fun l => L l ∧ l ≠ D) st :=
  a.fr (M := [D]) (Fr.upd (.head _) h hu) (fun z => h1 (List.mem_singleton.mp z)) (fun z => h2 (List.mem_singleton.mp z)) (fun z => h3 (List.mem_singleton.mp z)) (fun l hl z => hl.2 (List.mem_singleton.mp z)) fun l hl => by
    by_cases z : l = D
    · rw [z, upd_same] at hl
      cases hl
    · rw [upd_ne z] at hl
      exact a.fresh l hl
theorem Fr.new_upd {M : List Addr} {H H1 : Hp} {D : Addr} {o : HO} (f : Fr M H H1) (h : H D = none) : Fr M H (L2.upd H1 D o) := fun b u e hm => by
  rw [upd_ne (ne_of_none e h)]
  exact f b u e hm
section
variable {P : Program} {w : World} {K : PySem.W.Frag} {mg : Str → Option Value} {base : Heap} {f C CN CD : Addr} {fd : FuncData}
abbrev N__law_no_deed : List Str := ["desk", "found"]
theorem sc__law_no_deed : FnScope N__law_no_deed ["desk"] (defScope s__law_no_deed) := ⟨rfl, rfl, rfl, by decide +kernel, rfl, by decide +kernel, by decide +kernel⟩
theorem ok__law_no_deed (T : Txt K mg) (DT : DTxt K mg CD) (NT : NTxt K mg CN) (M_say : CalM P w K mg base (L2.CX P w) CD "say" 11 ["self", "row"] (spSay CD C CN)) (F : FunD K "_law_no_deed" "_law_no_deed" (defArgs s__law_no_deed) (defBody s__law_no_deed) (defScope s__law_no_deed) [] [] f fd) : FnOk P w K mg base CX0 12 f fd ["desk"] (spNoDeed CD C) := by
  refine F.ok sc__law_no_deed (fun vs H Q E h => ?_) (fun cdv A outer s H vs Q E hr h => ?_)
  · obtain ⟨_, _, _, _, _, rfl, _⟩ := h
    rfl
  obtain ⟨d, kp, pl, L, st, rfl, hD, hp, q⟩ := h
  obtain ⟨dx, hd⟩ := hD.d
  refine ⟨_, (pss_cons (ps_set (i := 1) sc__law_no_deed.nd rfl (Or.inl rfl) pe_bl)
    (pss_cons (ps_try_only (tb := fun W => tDrop (tCalS CD "say" (spSay CD C CN) (WE W) (tVar 0) (tCons (tC (.str "back")) tNil))) (ts := fun _ _ _ => tAsg (tC (.bl true)) (gName 1)) (Wout := fun _ _ _ _ => False) rfl rfl ⟨rfl, by decide, Or.inl NT.g⟩ takes0
      (fun W pn xe tk _ => pss_one (ps_expr (pe_calmS M_say (pv 0) DT.cl (hr.mono (by decide)) (fun σ => passAt tk σ) (by exact (pa_cons pe_str pa_nil)))))
      (fun _ _ _ _ _ _ _ => pss_one (ps_set (i := 1) sc__law_no_deed.nd rfl (Or.inl rfl) pe_bl)))
    (pss_one (ps_ret (pv 1))))), ?_⟩
  refine ⟨_, rfl, d, dx, _, rfl, hd, lk_dno _ (by decide +kernel), .inr ⟨d, kp, pl, L, st, hD, .inl ⟨"back", [], ?_, .inr (.inr ⟨rfl, rfl, fun _ H' s' => ?_, fun ts f r e => ?_⟩)⟩⟩⟩
  · rw [show rowT ("back" :: [].map sN) = "back" from rowT_one]
  · exact ⟨true, NT.exm, fun _ a ha => ⟨_, rfl, q _ s'⟩, fun z => nomatch z⟩
  · rw [hp] at e
    cases e
abbrev N__law_done : List Str := ["desk", "rows", "row"]
theorem sc__law_done : FnScope N__law_done ["desk", "rows"] (defScope s__law_done) := ⟨rfl, rfl, rfl, by decide +kernel, rfl, by decide +kernel, by decide +kernel⟩
theorem ok__law_done (T : Txt K mg) (DT : DTxt K mg CD) (M_say : CalM P w K mg base (L2.CX P w) CD "say" 11 ["self", "row"] (spSay CD C CN)) (F : FunD K "_law_done" "_law_done" (defArgs s__law_done) (defBody s__law_done) (defScope s__law_done) [] [] f fd) : FnOk P w K mg base CX0 12 f fd ["desk", "rows"] (spDone CD C) := by
  refine F.ok sc__law_done (fun vs H Q E h => ?_) (fun cdv A outer s H vs Q E hr h => ?_)
  · obtain ⟨_, _, _, _, _, _, _, _, rfl, _⟩ := h
    rfl
  obtain ⟨d, kp, pl, l, L, rows, st, st', rfl, hl, hln, hrl, hD, hR, q⟩ := h
  refine ⟨_, PSs.nox (pss_one (ps_ret (pe_callB (cr_all rfl) (by rfl) T.all (by decide +kernel) (pa_cons (pe_lc (own := [("row", 2)]) rfl sc__law_done.nd (pi_list (pv 1)) (blkOk_by (own := [("row", 2)]) (N := N__law_done) (sc := defScope s__law_done) (by decide +kernel)) (fun _ _ _ _ _ => (pg_name (i := 2) sc__law_done.nd rfl (Or.inl rfl))) (fun _ _ _ _ _ => pts_nil) (fun _ _ _ _ _ => (pe_cmpR op_eq (pe_calm M_say DT.cl (hr.mono (by decide)) passL (pv 0) (pa_cons (pv 2) pa_nil)) pe_str (nomark _)))) pa_nil)))), ?_⟩
  have hsl : (sVs rows).length = rows.length := by unfold sVs; rw [List.length_map]
  refine ⟨_, rfl, l, rfl, ⟨_, SqL.of hl⟩, fun D hD0 => ?_⟩
  have hDn : D ∉ [kp, pl] := kp_not hD.k hD0
  obtain ⟨hd0, hkp0, hpl0⟩ := hD.pl
  have nd : d ≠ D := fun z => hd0 (by rw [z]; exact hD0)
  have nkp : kp ≠ D := fun z => hkp0 (by rw [z]; exact hD0)
  have npl : pl ≠ D := fun z => hpl0 (by rw [z]; exact hD0)
  refine lc_list (K := K) (a := l) (xs := sVs rows) (fun i H' => ∃ sti, DkAt H' CD C d kp pl (fun a => L a ∧ a ≠ D) sti ∧ Rows sti (rows.drop i) st' ∧ H' D = some (.lst ((List.replicate i true).map V.bl)) ∧ Fr [kp, pl] H H') ?_ ?_ ?_ ?_
  · exact ⟨st, hD.shut hD0, hR, upd_same, Fr.of (same_new hD0)⟩
  · exact fun i H' _ ⟨_, _, _, _, f⟩ => SqL.of (f.at hln hl)
  · rintro i v H' hi ⟨sti, hDi, hRi, hacc, f⟩
    unfold sVs at hi
    rw [List.getElem?_map] at hi
    cases hr2 : rows[i]? with
    | none => rw [hr2] at hi; cases hi
    | some r =>
      rw [hr2] at hi
      obtain rfl : V.str r = v := Option.some.inj hi
      have hil : i < rows.length := (List.getElem?_eq_some_iff.mp hr2).1
      have hge : rows[i] = r := (List.getElem?_eq_some_iff.mp hr2).2
      rw [List.drop_eq_getElem_cons hil, hge] at hRi
      cases hRi with
      | cons hrow hpast hrest =>
        obtain ⟨dx, hd⟩ := hDi.d
        refine ⟨rfl, _, rfl, d, dx, _, rfl, hd, lk_dno _ (by decide +kernel), _, rfl, .inr ⟨d, kp, pl, _, sti, hDi, done_say hDi hrow hpast fun H2 f2 hD2 => ?_⟩⟩
        have hacc2 := f2.at hDn hacc
        refine ⟨rfl, _, hacc2, small1000 (by rw [List.length_map, List.length_replicate]; omega), _, hD2.put hacc2 (by intro xs z; cases z) nd nkp npl, hrest, ?_, (f.trans f2).new_upd hD0⟩
        rw [show decide (V.str ("ok" : Str) = V.str ("ok" : Str)) = true from dT rfl, rep_snoc]
        exact upd_same
  rintro H2 ⟨sti, hDi, hRi, hacc, f⟩
  rw [hsl, List.drop_length] at hRi
  cases hRi
  refine ⟨D, _, rfl, SqL.of hacc, ?_⟩
  rw [all_bl]
  exact q H2 f (hDi.opens hD.k.no)
abbrev N__law_back_to_none : List Str := ["desk", "many", "none", "turn"]
theorem sc__law_back_to_none : FnScope N__law_back_to_none ["desk", "many", "none"] (defScope s__law_back_to_none) := ⟨rfl, rfl, rfl, by decide +kernel, rfl, by decide +kernel, by decide +kernel⟩
theorem ok__law_back_to_none (T : Txt K mg) (DT : DTxt K mg CD) (M_say : CalM P w K mg base (L2.CX P w) CD "say" 11 ["self", "row"] (spSay CD C CN)) (F : FunD K "_law_back_to_none" "_law_back_to_none" (defArgs s__law_back_to_none) (defBody s__law_back_to_none) (defScope s__law_back_to_none) [] [] f fd) : FnOk P w K mg base CX0 12 f fd ["desk", "many", "none"] (spBackTo CD C) := by
  refine F.ok sc__law_back_to_none (fun vs H Q E h => ?_) (fun cdv A outer s H vs Q E hr h => ?_)
  · obtain ⟨_, _, _, _, _, _, rfl, _⟩ := h
    rfl
  obtain ⟨d, kp, pl, L, m, st, rfl, hD, hpm, hm8, hbot, q⟩ := h
  refine ⟨_, PSs.nox (pss_cons (ps_for PassesOwn.never rfl (pi_range1 (by rfl) T.range (pa_cons (pv 1) pa_nil)) (pg_name (i := 3) sc__law_back_to_none.nd rfl (Or.inl rfl))
      (pss_one (ps_if (pt_cmpR op_ne (pe_calm M_say DT.cl (hr.mono (by decide)) passL (pv 0) (pa_cons pe_str pa_nil)) pe_str (nomark _)) pss_never pss_nil)))
      (pss_one (ps_ret (pe_cmpR op_eq (pe_calm M_say DT.cl (hr.mono (by decide)) passL (pv 0) (pa_cons pe_str pa_nil)) (pv 2) (nomark _))))), ?_⟩
  refine ⟨_, rfl, (m : Int), rfl, by omega, by omega, for_range (lo := 0) (n := m) (fun i σ H' => (∃ v, σ = [some (.ref d), some (nV m), some (.str (netT st.n st.k [])), v]) ∧ ∃ sti, DkAt H' CD C d kp pl L sti ∧ sti.n = st.n ∧ sti.k = st.k ∧ sti.past.length = m - i ∧ Bot sti.kept sti.past ∧ Fr [kp, pl] H H') ?_ ?_ ?_⟩
  · exact ⟨⟨_, rfl⟩, st, hD, rfl, rfl, hpm, hbot, fun _ _ e _ => e⟩
  · rintro i σ H' hi ⟨⟨v, rfl⟩, sti, hDi, en, ek, el, hb, f⟩
    obtain ⟨dx, hd⟩ := hDi.d
    cases hp : sti.past with
    | nil =>
      rw [hp] at el
      have : (0 : Nat) = m - i := el
      omega
    | cons e r =>
      obtain ⟨ts, g⟩ := e
      rw [hp] at hb el
      refine ⟨_, rfl, d, dx, _, rfl, hd, lk_dno _ (by decide +kernel), .inr ⟨d, kp, pl, _, sti, hDi, done_say hDi (.back ts g r hp hb.1) (by rw [hp, el]; omega) fun H2 f2 hD2 => ?_⟩⟩
      refine ⟨rfl, false, rfl, iteF ?_⟩
      refine ⟨⟨_, rfl⟩, _, hD2, en, ek, ?_, hb.2, f.trans f2⟩
      rw [List.length_cons] at el
      show r.length = _
      omega
  · rintro σ H' ⟨⟨v, rfl⟩, sti, hDi, en, ek, el, hb, f⟩
    obtain ⟨dx, hd⟩ := hDi.d
    obtain ⟨n0, k0, kept0, first0, past0⟩ := sti
    have ep : past0 = [] := List.length_eq_zero_iff.mp (by have e2 : past0.length = m - m := el; omega)
    subst ep
    have hk0 : kept0 = [] := hb
    subst hk0
    have en2 : n0 = st.n := en
    have ek2 : k0 = st.k := ek
    subst en2 ek2
    refine ⟨_, rfl, d, dx, _, rfl, hd, lk_dno _ (by decide +kernel), .inr ⟨d, kp, pl, L, _, hDi, .inr (.inl ⟨rfl, fun H2 s2 => ?_⟩)⟩⟩
    refine ⟨_, rfl, rfl, ?_⟩
    have e3 : decide (V.str (netT st.n st.k []) = V.str (netT st.n st.k [])) = true := dT rfl
    have g := q H2 first0 (f.trans (Fr.of s2)) (hDi.same s2)
    rw [← e3] at g
    exact g
abbrev N__law_told : List Str := ["n", "k", "ties", "desk", "moment", "a", "b", "told"]
theorem sc__law_told : FnScope N__law_told ["n", "k", "ties"] (defScope s__law_told) := ⟨rfl, rfl, rfl, by decide +kernel, rfl, by decide +kernel, by decide +kernel⟩
theorem ok__law_told (T : Txt K mg) (DT : DTxt K mg CD) (I_Desk : CalI P w K mg base CX0 CD 1 ["self"] (spDInit CD)) (M_say : CalM P w K mg base (L2.CX P w) CD "say" 11 ["self", "row"] (spSay CD C CN)) (F : FunD K "_law_told" "_law_told" (defArgs s__law_told) (defBody s__law_told) (defScope s__law_told) [] [] f fd) : FnOk P w K mg base CX0 12 f fd ["n", "k", "ties"] (spTold CD C) := by
  refine F.ok sc__law_told (fun vs H Q E h => ?_) (fun cdv A outer s H vs Q E hr h => ?_)
  · obtain ⟨_, _, _, _, rfl, _⟩ := h
    rfl
  obtain ⟨n, k, l, ts, rfl, n1, n2, k1, k2, ⟨us, hl, ht⟩, ok, hnd, hlen, q⟩ := h
  have hul := ht.len
  refine ⟨_, PSs.nox (pss_cons (ps_set (i := 3) sc__law_told.nd rfl (Or.inl rfl) (pe_cali0 I_Desk DT.g (hr.mono (by decide)) pass0))
      (pss_cons (ps_if (pt_cmpR op_ne (pe_calm M_say DT.cl (hr.mono (by decide)) passL (pv 3) (pa_cons (pe_op op_add_str (pe_op op_add_str (pe_op op_add_str pe_str (pe_callTy call_str_int (by rfl) T.str (by decide +kernel) (pa_cons (pv 0) pa_nil))) pe_str) (pe_callTy call_str_int (by rfl) T.str (by decide +kernel) (pa_cons (pv 1) pa_nil))) pa_nil)) pe_str (nomark _)) pss_never pss_nil)
      (pss_cons (ps_for PassesOwn.never rfl (pi_list (pv 2)) (pg_tup rfl (pgs_cons (pg_name (i := 4) sc__law_told.nd rfl (Or.inl rfl)) (pgs_cons (pg_name (i := 5) sc__law_told.nd rfl (Or.inl rfl)) (pgs_cons (pg_name (i := 6) sc__law_told.nd rfl (Or.inl rfl)) pgs_nil))))
      (pss_cons (ps_set (i := 7) sc__law_told.nd rfl (Or.inl rfl) (pe_calm M_say DT.cl (hr.mono (by decide)) passL (pv 3) (pa_cons (pe_op op_add_str (pe_op op_add_str (pe_op op_add_str (pe_op op_add_str (pe_op op_add_str pe_str (pe_callTy call_str_int (by rfl) T.str (by decide +kernel) (pa_cons (pv 4) pa_nil))) pe_str) (pe_callTy call_str_int (by rfl) T.str (by decide +kernel) (pa_cons (pv 5) pa_nil))) pe_str) (pe_callTy call_str_int (by rfl) T.str (by decide +kernel) (pa_cons (pv 6) pa_nil))) pa_nil)))
      (pss_one (ps_if (pt_cmpR op_ne (pe_ix ix_list (pe_split (pv 7) pe_str) pe_int (fun _ _ => rfl)) (pe_op op_add_str (pe_callTy call_str_int (by rfl) T.str (by decide +kernel) (pa_cons (pv 4) pa_nil)) pe_str) (nomark _)) pss_never pss_nil))))
      (pss_one (ps_ret (pv 3)))))), ?_⟩
  refine fun d dx hd0 hdx0 hne => ⟨d, dx, rfl, upd_same, rfl, ?_⟩
  have hd1 : upd H dx (.own d) d = none := by rw [upd_ne hne.symm]; exact hd0
  have sA : Same H (upd (upd H dx (.own d)) d (.ins CD dx [])) := (same_new hdx0).trans (same_new hd1)
  rw [upd_upd]
  have sB : Same H (upd (upd H dx (.own d)) d (.ins CD dx [("keeper", .non)])) := (same_new hdx0).trans (same_new hd1)
  generalize hH1 : upd (upd H dx (.own d)) d (.ins CD dx [("keeper", .non)]) = H1 at *
  have hd : H1 d = some (.ins CD dx [("keeper", .non)]) := by rw [← hH1]; exact upd_same
  have l1 := sN_len2 (n := n) (by omega)
  have l2 := sN_len2 (n := k) (by omega)
  have c1 : (" " : Str).length = 1 := by decide +kernel
  have c4 : ("web " : Str).length = 4 := by decide +kernel
  have c5 : ("tie " : Str).length = 4 := by decide +kernel
  have e1 : ("web " ++ sN n : Str).length ≤ 6 := by rw [len_app]; omega
  have e2 : ("web " ++ sN n ++ " " : Str).length ≤ 7 := by rw [len_app]; omega
  refine ⟨_, rfl, d, dx, _, rfl, hd, lk_dno _ (by decide +kernel), _, rfl, _, rfl, sN_log (Nat.le_trans n2 (by decide)), _, _, rfl, rfl, sl_of (m := 40) (by show ("web " : Str).length + (sN n).length ≤ _; omega) (by decide), ?_⟩
  refine ⟨_, _, rfl, rfl, sl_of (m := 40) (by show ("web " ++ sN n : Str).length + (" " : Str).length ≤ _; omega) (by decide), ?_⟩
  refine ⟨_, rfl, _, rfl, sN_log (Nat.le_trans k2 (by decide)), _, _, rfl, rfl, sl_of (m := 40) (by show ("web " ++ sN n ++ " " : Str).length + (sN k).length ≤ _; omega) (by decide), ?_⟩
  refine .inl ⟨d, dx, .non, n, k, congrArg (fun z => [V.ref d, V.str z]) (web_row n k).symm, n1, n2, k1, k2, hd, fun H2 kp pl f2 hkp hpl hne2 hd2 hK2 => ?_⟩
  refine ⟨rfl, false, rfl, iteF ?_⟩
  have hkp0 : H kp = none := sB.free hkp
  have hpl0 : H pl = none := sB.free hpl
  have ndkp : d ≠ kp := ne_of_none hd hkp
  have ndpl : d ≠ pl := ne_of_none hd hpl
  have sC : Same H H2 := Fr.new sB f2 fun m hm => by rw [List.mem_singleton.mp hm]; exact hd0
  have hL0 : DkAt H2 CD C d kp pl (fun l => H l = none ∧ l ≠ d ∧ l ≠ kp ∧ l ≠ pl) ⟨n, k, [], 0, []⟩ := by
    refine ⟨⟨dx, hd2⟩, hK2.mono (fun l h1 _ => ⟨sB.free h1.1, (fun z => by rw [z, hd] at h1; cases h1.1), h1.2.1, h1.2.2⟩) (fun z => z.2.2.2 rfl), kok_new n1 n2 k1 k2, fun l hl => ⟨sC.free hl, fun z => ?_, fun z => ?_, fun z => ?_⟩⟩
    · rw [z, hd2] at hl; cases hl
    · obtain ⟨⟨_, _, _, e, _⟩, _⟩ := hK2
      rw [z, e] at hl; cases hl
    · obtain ⟨⟨_, _, _, _, _, e, _⟩, _⟩ := hK2
      rw [z, e] at hl; cases hl
  refine ⟨_, rfl, l, rfl, ⟨_, SqL.of (sC _ _ hl)⟩, for_list (K := K) (a := l) (xs := us) (fun i σ H' => (∃ v1 v2 v3 v4, σ = [some (nV n), some (nV k), some (.ref l), some (.ref d), v1, v2, v3, v4]) ∧ Same H H' ∧ DkAt H' CD C d kp pl (fun l => H l = none ∧ l ≠ d ∧ l ≠ kp ∧ l ≠ pl) (comesT ⟨n, k, [], 0, []⟩ (ts.take i))) ?_ ?_ ?_ ?_⟩
  · exact ⟨⟨_, _, _, _, rfl⟩, sC, by rw [List.take_zero]; exact hL0⟩
  · exact fun i σ H' _ ⟨_, sm, _⟩ => SqL.of (sm _ _ hl)
  · rintro i v σ H' hi ⟨⟨v1, v2, v3, v4, rfl⟩, sm, hDi⟩
    obtain ⟨p, x, rfl, hx, hp⟩ := ht.get hi
    have o := ok x (List.mem_of_getElem? hx)
    have o2 := o.two n2
    have hi2 : i < us.length := (List.getElem?_eq_some_iff.mp hi).1
    obtain ⟨e5, e6, e7, e8, e9⟩ := comesT_is (ts := ts.take i) (st := ⟨n, k, [], 0, []⟩) (n := n) (k := k) rfl rfl
    obtain ⟨dx2, hd3⟩ := hDi.d
    have m1 : (sN x.m).length ≤ 31 := sN_len o.m
    have m2 := sN_len2 o2.a
    have m3 := sN_len2 o2.b
    have g1 : ("tie " ++ sN x.m : Str).length ≤ 35 := by rw [len_app]; omega
    have g2 : ("tie " ++ sN x.m ++ " " : Str).length ≤ 36 := by rw [len_app]; omega
    have g3 : ("tie " ++ sN x.m ++ " " ++ sN x.a : Str).length ≤ 38 := by rw [len_app]; omega
    have g4 : ("tie " ++ sN x.m ++ " " ++ sN x.a ++ " " : Str).length ≤ 39 := by rw [len_app]; omega
    refine ⟨p, _, rfl, SqT.of (sm _ _ hp), rfl, _, _, rfl, _, _, rfl, _, _, rfl, rfl, ?_⟩
    refine ⟨_, rfl, d, dx2, _, rfl, hd3, lk_dno _ (by decide +kernel), _, rfl, _, rfl, sN_log o.m, _, _, rfl, rfl, sl_of (m := 40) (by show ("tie " : Str).length + (sN x.m).length ≤ _; omega) (by decide), ?_⟩
    refine ⟨_, _, rfl, rfl, sl_of (m := 40) (by show ("tie " ++ sN x.m : Str).length + (" " : Str).length ≤ _; omega) (by decide), ?_⟩
    refine ⟨_, rfl, _, rfl, sN_log (Nat.le_trans (Nat.le_of_lt o2.a) (by decide)), _, _, rfl, rfl, sl_of (m := 40) (by show ("tie " ++ sN x.m ++ " " : Str).length + (sN x.a).length ≤ _; omega) (by decide), ?_⟩
    refine ⟨_, _, rfl, rfl, sl_of (m := 40) (by show ("tie " ++ sN x.m ++ " " ++ sN x.a : Str).length + (" " : Str).length ≤ _; omega) (by decide), ?_⟩
    refine ⟨_, rfl, _, rfl, sN_log (Nat.le_trans (Nat.le_of_lt o2.b) (by decide)), _, _, rfl, rfl, sl_of (m := 50) (by show ("tie " ++ sN x.m ++ " " ++ sN x.a ++ " " : Str).length + (sN x.b).length ≤ _; omega) (by decide), ?_⟩
    have hcan : CanCome (comesT ⟨n, k, [], 0, []⟩ (ts.take i)) x := by
      refine ⟨by rw [e5]; exact o, by rw [e8]; exact Nat.zero_le _, ?_, fun y hy e => ?_⟩
      · have hk := hDi.ok.net
        rw [e7]
        have : ∀ (us cur : List Tie), (foldC n k cur us).length ≤ cur.length + us.length := by
          intro us
          induction us with
          | nil => exact fun cur => Nat.le_refl _
          | cons y us ih =>
            intro cur
            have z := ih (netA n k (insA y cur))
            have z2 := netA_len (n := n) (k := k) (l := insA y cur)
            have z3 := insA_len (x := y) (l := cur)
            have z4 : (foldC n k cur (y :: us)).length ≤ (netA n k (insA y cur)).length + us.length := z
            rw [List.length_cons]
            omega
        have z := this (ts.take i) []
        rw [List.length_take] at z
        have z5 : ([] : List Tie).length = 0 := rfl
        show (foldC n k [] (ts.take i)).length + 1 ≤ 60
        omega
      · rw [e7] at hy
        rcases foldC_mem hy with z | z
        · obtain ⟨j, hj, ej⟩ := List.mem_iff_getElem.mp z
          rw [List.length_take] at hj
          rw [List.getElem_take] at ej
          have hij : i < ts.length := by omega
          have hjt : j < ts.length := by omega
          have hxx : ts[i] = x := (List.getElem?_eq_some_iff.mp hx).2
          have np := List.pairwise_iff_getElem.mp (notwo_of hnd) j i hjt hij (by omega)
          rw [hxx] at np
          exact np (by rw [ej]; exact e)
        · exact nomatch z
    refine .inr ⟨d, kp, pl, _, _, hDi, .inl ⟨"tie", [x.m, x.a, x.b], congrArg (fun z => [V.ref d, V.str z]) (tie_row x.m x.a x.b).symm, .inl ⟨x, rfl, rfl, hcan, fun H4 ms f4 hgm hK4 => ?_⟩⟩⟩
    obtain ⟨⟨r, rfl⟩, _, hml, hmo⟩ := hgm
    have hD4 := hDi.next f4 hK4 (hDi.ok.come hcan (by rw [e9, List.length_take]; show 0 + _ ≤ _; omega))
    have sm4 : Same H H4 := Fr.new sm f4 fun m hm => by
      rcases List.mem_cons.mp hm with z | z
      · rw [z]; exact hkp0
      · rw [List.mem_singleton.mp z]; exact hpl0
    have hlen2 : (movesT (⟨x.m, 0, 1⟩ :: r)).length ≤ 1000 := by
      have h1 := joinS_len ", " ((⟨x.m, 0, 1⟩ :: r : List Tie).map movT)
      have h2 : (((⟨x.m, 0, 1⟩ :: r : List Tie).map movT).map (·.length)).sum ≤ 40 * ((⟨x.m, 0, 1⟩ :: r : List Tie).map movT).length := sum_le fun y hy => by
        obtain ⟨z, hz, rfl⟩ := List.mem_map.mp hy
        obtain ⟨o1, o2, o3⟩ := hmo z hz
        exact movT_len o1 (by omega) (by omega)
      have h3 : (", " : Str).length = 2 := by decide +kernel
      rw [h3] at h1
      rw [List.length_map] at h1 h2
      show (Txt.join ", " ((⟨x.m, 0, 1⟩ :: r : List Tie).map movT)).length ≤ _
      omega
    refine ⟨_, rfl, ⟨_, rfl⟩, _, _, rfl, rfl, by decide +kernel, sl_of (m := 1002) (by omega) (by decide), fun t htn => ?_⟩
    rw [movesT_cons, split_mov]
    have s5 := same_new (o := .lst (((⟨x.m, 0, 1⟩ :: r : List Tie).map movT).map V.str)) htn
    refine ⟨t, _, _, _, rfl, rfl, SqL.of upd_same, atI_nat (j := 0) rfl, ?_⟩
    refine ⟨_, rfl, _, rfl, sN_log o.m, _, _, rfl, rfl, sl_of (m := 40) (by have c : (" 0 1" : Str).length = 4 := (by decide +kernel); show (sN x.m).length + (" 0 1" : Str).length ≤ _; omega) (by decide), ?_⟩
    refine ⟨rfl, _, rfl, iteFb (by rw [movT_first]; exact congrArg (fun b => !b) (dT rfl)) ?_⟩
    refine ⟨⟨_, _, _, _, rfl⟩, sm4.trans s5, ?_⟩
    rw [take_succ hx, comesT_snoc]
    exact hD4.same s5
  · rintro σ H' ⟨⟨v1, v2, v3, v4, rfl⟩, sm, hDi⟩
    rw [hul, List.take_length] at hDi
    exact ⟨_, rfl, q H' d kp pl sm hd0 hkp0 hpl0 hDi⟩
end
end SP
set_option maxRecDepth 100000
set_option maxHeartbeats 4000000
namespace SP
open PySem PySem.Spec PyProof.Rows L2 TL
/-! ### several desks -/
theorem DkAt.step {Z Z' M : List Addr} {H H' : Hp} {CD C d kp pl : Addr} {st : KS} (a : DkAt H CD C d kp pl (fun l => l ∉ Z) st) (f : Fr M H H') (h1 : d ∉ M) (h2 : kp ∉ M) (h3 : pl ∉ M) (hM : ∀ m ∈ M, m ∈ Z') (hZ : ∀ z ∈ Z, z ∈ Z')
    (hnew : ∀ z ∈ Z', z ∈ Z ∨ H z = none) (hall : ∀ z ∈ Z', H' z ≠ none) : DkAt H' CD C d kp pl (fun l => l ∉ Z') st := by
  refine ⟨let ⟨dx, h⟩ := a.d; ⟨dx, f.at h1 h⟩, (a.k.mono (L' := fun l => l ∉ Z') (fun l hl hn hm => ?_) (fun h => a.k.no fun hz => h (hZ _ hz))).fr f h2 h3 fun l hl hm => hl (hM l hm), a.ok, fun l hl hm => hall l hm hl⟩
  rcases hnew l hm with z | z
  · exact hl z
  · exact hn z
theorem DkAt.intro {Z : List Addr} {H H' : Hp} {CD C d kp pl : Addr} {st : KS} (a : DkAt H' CD C d kp pl (fun l => H l = none ∧ l ≠ d ∧ l ≠ kp ∧ l ≠ pl) st) (s : Same H H') (hZ : ∀ z ∈ Z, H z ≠ none) : DkAt H' CD C d kp pl (fun l => l ∉ d :: kp :: pl :: Z) st := by
  obtain ⟨p1, p2, p3⟩ := a.pl
  refine a.mono (fun l hl _ hm => ?_) (fun h => h (.tail _ (.tail _ (.head _)))) fun l hl hm => ?_
  · rcases List.mem_cons.mp hm with z | hm
    · exact hl.2.1 z
    rcases List.mem_cons.mp hm with z | hm
    · exact hl.2.2.1 z
    rcases List.mem_cons.mp hm with z | hm
    · exact hl.2.2.2 z
    · exact hZ l hm hl.1
  · rcases List.mem_cons.mp hm with z | hm
    · exact p1 (by rw [← z]; exact hl)
    rcases List.mem_cons.mp hm with z | hm
    · exact p2 (by rw [← z]; exact hl)
    rcases List.mem_cons.mp hm with z | hm
    · exact p3 (by rw [← z]; exact hl)
    · exact hZ l hm (s.free hl)
/-- all of Z is there -/
theorem DkAt.all {Z : List Addr} {H : Hp} {CD C d kp pl : Addr} {st : KS} (a : DkAt H CD C d kp pl (fun l => l ∉ Z) st) : ∀ z ∈ Z, H z ≠ none := fun z hz h => a.fresh z h hz
theorem same_all {H H' : Hp} {Z : List Addr} (s : Same H H') (h : ∀ z ∈ Z, H z ≠ none) : ∀ z ∈ Z, H' z ≠ none := fun z hz e => h z hz (s.free e)
theorem fr_nil {H H' : Hp} (s : Same H H') : Fr [] H H' := Fr.of s
/-- new addresses beside, nothing else changes -/
theorem DkAt.grow {Z W : List Addr} {H H' : Hp} {CD C d kp pl : Addr} {st : KS} (a : DkAt H CD C d kp pl (fun l => l ∉ Z) st) (s : Same H H') (hW : ∀ z ∈ W, H z = none ∧ H' z ≠ none) : DkAt H' CD C d kp pl (fun l => l ∉ W ++ Z) st :=
  a.step (fr_nil s) (fun z => nomatch z) (fun z => nomatch z) (fun z => nomatch z) (fun _ z => nomatch z) (fun z hz => List.mem_append.mpr (.inr hz))
    (fun z hz => (List.mem_append.mp hz).elim (fun h => .inr (hW z h).1) .inl) fun z hz => (List.mem_append.mp hz).elim (fun h => (hW z h).2) fun h => same_all s a.all z h
/-- another desk's deed -/
theorem DkAt.other {Z : List Addr} {H H' : Hp} {CD C d kp pl d2 kp2 pl2 : Addr} {st st2 : KS} (a : DkAt H CD C d kp pl (fun l => l ∉ Z) st) (f : Fr [kp2, pl2] H H') (b : DkAt H' CD C d2 kp2 pl2 (fun l => l ∉ Z) st2) (h1 : d ∉ [kp2, pl2]) (h2 : kp ∉ [kp2, pl2]) (h3 : pl ∉ [kp2, pl2])
    (hM : kp2 ∈ Z ∧ pl2 ∈ Z) : DkAt H' CD C d kp pl (fun l => l ∉ Z) st :=
  a.step f h1 h2 h3 (fun m hm => by
    rcases List.mem_cons.mp hm with z | z
    · rw [z]; exact hM.1
    · rw [List.mem_singleton.mp z]; exact hM.2) (fun _ h => h) (fun _ h => .inl h) b.all
theorem no2 {a b c : Addr} (h1 : a ≠ b) (h2 : a ≠ c) : a ∉ [b, c] := fun z => by
  rcases List.mem_cons.mp z with e | e
  · exact h1 e
  · exact h2 (List.mem_singleton.mp e)
theorem ne_there {H : Hp} {a b : Addr} (h1 : H a ≠ none) (h2 : H b = none) : a ≠ b := fun z => h1 (by rw [z]; exact h2)
theorem eqv_strs : ∀ l : List Str, PyData.eqvAll (l.map PyData.str) (l.map PyData.str) = true
  | [] => by simp [PyData.eqvAll]
  | x :: r => by
    rw [List.map_cons]
    have ih := eqv_strs r
    simp [PyData.eqvAll, PyData.eqv, ih]
theorem none_text (n k : Nat) : sN n ++ " " ++ sN k ++ " none" = netT n k [] := by
  have e : (" none" : Str) = " " ++ "none" := by decide +kernel
  rw [e]
  unfold netT recT
  rw [app_assoc (sN n ++ " " ++ sN k) " " "none"]
def spRight (CD C : Addr) : Sp := fun vs H Q _ => ∃ (n k t : Nat) (l l2 : Addr) (ts ps : List Tie), vs = [nV n, nV k, .ref l, .ref l2, nV t] ∧ 1 ≤ n ∧ n ≤ 10 ∧ 1 ≤ k ∧ k ≤ 6 ∧ t ≤ 1000 ∧ RecAt H l ts ∧ RecAt H l2 ps ∧ (∀ x ∈ ts, Ok n x) ∧ (ts.map (·.m)).Nodup ∧ ts.length ≤ 10 ∧ ps.Sublist ts ∧
  ∀ H', Same H H' → Q (.bl true) H'
theorem comes_form {n k : Nat} {ts S : List Tie} (hS : Rise S) (hm : ∀ z, z ∈ S ↔ z ∈ ts) (nt : NoTwo ts) (hf : AllFit n ts) :
    ∃ P, comesT ⟨n, k, [], 0, []⟩ ts = ⟨n, k, netA n k S, 0, P⟩ ∧ P.length = ts.length ∧ Bot (netA n k S) P := by
  obtain ⟨a, b, c, d, e⟩ := comesT_is (ts := ts) (st := ⟨n, k, [], 0, []⟩) (n := n) (k := k) rfl rfl
  have hb := bot_comes (ts := ts) (st := ⟨n, k, [], 0, []⟩) (Nat.zero_le _) rfl
  have c2 : foldC n k [] ts = netA n k S := law_first hS hm nt hf
  revert a b c d e hb
  generalize comesT ⟨n, k, [], 0, []⟩ ts = st
  obtain ⟨n', k', K', f', P'⟩ := st
  intro a b c d e hb
  have a' : n' = n := a
  have b' : k' = k := b
  have c' : K' = foldC n k [] ts := c
  have d' : f' = 0 := d
  have e' : P'.length = 0 + ts.length := e
  subst a' b' d'
  rw [c2] at c'
  subst c'
  exact ⟨P', rfl, by omega, hb⟩
theorem one_of {ts l : List Tie} (h : ∀ x ∈ l, x ∈ ts) (nt : NoTwo ts) : OneTie l := fun x hx y hy e => by
  obtain ⟨i, hi, ei⟩ := List.mem_iff_getElem.mp (h x hx)
  obtain ⟨j, hj, ej⟩ := List.mem_iff_getElem.mp (h y hy)
  have np := List.pairwise_iff_getElem.mp nt
  rcases Nat.lt_trichotomy i j with z | z | z
  · exact absurd (by rw [ei, ej]; exact e) (np i j hi hj z)
  · subst z
    rw [← ei, ← ej]
  · exact absurd (by rw [ei, ej]; exact e.symm) (np j i hj hi z)
theorem forget_form {n k t : Nat} {zs : List Tie} {P : List (List Tie × Nat)} (h : Rise zs) : forgetT ⟨n, k, netA n k zs, 0, P⟩ t = ⟨n, k, netA n k (sinceD t zs), t, (netA n k zs, 0) :: P⟩ := by
  show (⟨n, k, sinceD (max t 0) (netA n k zs), max t 0, (netA n k zs, 0) :: P⟩ : KS) = _
  rw [Nat.max_eq_left (Nat.zero_le t), netA_since h]
theorem second_form {n k : Nat} {ps rs zs : List Tie} {P : List (List Tie × Nat)} (h : withT n k (netA n k (srt ps)) (netA n k (srt rs)) = netA n k zs) :
    layT ⟨n, k, netA n k (srt ps), 0, P⟩ (netA n k (srt rs)) = ⟨n, k, netA n k zs, 0, (netA n k (srt ps), 0) :: P⟩ := by
  show (⟨n, k, withT n k (netA n k (srt ps)) (sinceD 0 (netA n k (srt rs))), 0, (netA n k (srt ps), 0) :: P⟩ : KS) = _
  rw [since0, h]
theorem again_form {n k t : Nat} {D : List Tie} {P : List (List Tie × Nat)} : layT ⟨n, k, D, t, P⟩ D = ⟨n, k, D, t, (D, t) :: P⟩ := by
  show (⟨n, k, withT n k D (sinceD t D), t, (D, t) :: P⟩ : KS) = _
  rw [withT_sub since_sub]
theorem fourth_form {n k : Nat} {D : List Tie} {P : List (List Tie × Nat)} (hD : Rise D) (h0 : 0 ∉ layeredN jn n k D) (hf : AllFit n D) : layT ⟨n, k, [], 0, P⟩ D = ⟨n, k, D, 0, ([], 0) :: P⟩ := by
  show (⟨n, k, withT n k [] (sinceD 0 D), 0, ([], 0) :: P⟩ : KS) = _
  rw [since0, law_fourth hD h0 hf]
theorem DkAt.intro2 {Z : List Addr} {H H' : Hp} {CD C d kp pl : Addr} {st : KS} (a : DkAt H' CD C d kp pl (fun l => H l = none ∧ l ≠ d ∧ l ≠ kp ∧ l ≠ pl) st) (hZ : ∀ z ∈ Z, H z ≠ none) (hZ' : ∀ z ∈ Z, H' z ≠ none) : DkAt H' CD C d kp pl (fun l => l ∉ [d, kp, pl] ++ Z) st := by
  obtain ⟨p1, p2, p3⟩ := a.pl
  refine a.mono (fun l hl _ hm => ?_) (fun h => h (.tail _ (.tail _ (.head _)))) fun l hl hm => ?_
  · rcases List.mem_cons.mp hm with z | hm
    · exact hl.2.1 z
    rcases List.mem_cons.mp hm with z | hm
    · exact hl.2.2.1 z
    rcases List.mem_cons.mp hm with z | hm
    · exact hl.2.2.2 z
    · exact hZ l hm hl.1
  · rcases List.mem_cons.mp hm with z | hm
    · exact p1 (by rw [← z]; exact hl)
    rcases List.mem_cons.mp hm with z | hm
    · exact p2 (by rw [← z]; exact hl)
    rcases List.mem_cons.mp hm with z | hm
    · exact p3 (by rw [← z]; exact hl)
    · exact hZ' l hm hl
/-! ### the fourth desk's first rows -/
def ansF : List Str := ["ok", "1 0 1", "ok", "ok"]
def rowF (n k : Nat) : List Str := ["web 2 1", "tie 1 0 1", "forget " ++ sN 99, "web " ++ sN n ++ " " ++ sN k]
def stF (n k : Nat) : Nat → KS
  | 1 => ⟨2, 1, [], 0, []⟩
  | 2 => comeT ⟨2, 1, [], 0, []⟩ ⟨1, 0, 1⟩
  | 3 => forgetT (comeT ⟨2, 1, [], 0, []⟩ ⟨1, 0, 1⟩) 99
  | _ => ⟨n, k, [], 0, []⟩
def Stg (Hs : Hp) (CD C d D : Addr) (n k : Nat) : Nat → Hp → Prop
  | 0, H => ∃ dx, H d = some (.ins CD dx [("keeper", .non)])
  | i + 1, H => ∃ kp pl, Hs kp = none ∧ Hs pl = none ∧ kp ≠ D ∧ pl ≠ D ∧ DkAt H CD C d kp pl (fun l => (Hs l = none ∧ l ≠ d ∧ l ≠ kp ∧ l ≠ pl) ∧ l ≠ D) (stF n k (i + 1))
def PvF (Hs : Hp) (CD C d D : Addr) (n k : Nat) (i : Nat) (H : Hp) : Prop := Fr [d] Hs H ∧ H D = some (.lst (sVs (ansF.take i))) ∧ Stg Hs CD C d D n k i H
theorem web_stage {Hs H H2 : Hp} {CD C d D kp pl dx : Addr} {v : V} {o : HO} {st : KS} (fr : Fr [d] Hs H) (hD : H D = some o) (hDs : Hs D = none) (hd : H d = some (.ins CD dx [("keeper", v)])) (f2 : Fr [d] H H2) (hkp : H kp = none) (hpl : H pl = none)
    (hd2 : H2 d = some (.ins CD dx [("keeper", .ref kp)])) (hD2 : H2 D = some o) (hK : KpAt H2 C kp pl (fun l => H l = none ∧ l ≠ kp ∧ l ≠ pl) st) (ok : KOk st) :
    Hs kp = none ∧ Hs pl = none ∧ kp ≠ D ∧ pl ≠ D ∧ DkAt H2 CD C d kp pl (fun l => (Hs l = none ∧ l ≠ d ∧ l ≠ kp ∧ l ≠ pl) ∧ l ≠ D) st := by
  have back : ∀ l, H l = none → Hs l = none := fun l hl => fr.dom hl fun z => by
    rw [List.mem_singleton.mp z, hd] at hl
    cases hl
  refine ⟨back _ hkp, back _ hpl, (fun z => by rw [z, hD] at hkp; cases hkp), (fun z => by rw [z, hD] at hpl; cases hpl), ⟨dx, hd2⟩, hK.mono (fun l hl _ => ⟨⟨back l hl.1, (fun z => by rw [z, hd] at hl; cases hl.1), hl.2.1, hl.2.2⟩, fun z => by rw [z, hD] at hl; cases hl.1⟩) (fun z => z.1.2.2.2 rfl), ok, fun l hl => ?_⟩
  obtain ⟨⟨_, _, _, ek, _, ep, _⟩, _⟩ := hK
  have nd : l ≠ d := fun z => by rw [z, hd2] at hl; cases hl
  exact ⟨⟨back l (f2.dom hl fun z => nd (List.mem_singleton.mp z)), nd, (fun z => by rw [z, ek] at hl; cases hl), fun z => by rw [z, ep] at hl; cases hl⟩, fun z => by rw [z, hD2] at hl; cases hl⟩
theorem close_stage {Hs H : Hp} {CD C d D kp pl : Addr} {n k i : Nat} {x : Str} (hi : ansF[i]? = some x) (fr : Fr [d] Hs H) (hDs : Hs D = none) (hdD : d ≠ D) (hD : H D = some (.lst (sVs (ansF.take i)))) (h1 : Hs kp = none) (h2 : Hs pl = none) (h3 : kp ≠ D) (h4 : pl ≠ D)
    (a : DkAt H CD C d kp pl (fun l => (Hs l = none ∧ l ≠ d ∧ l ≠ kp ∧ l ≠ pl) ∧ l ≠ D) (stF n k (i + 1))) : ∃ acc, H D = some (.lst acc) ∧ acc.length < sizeLine ∧ PvF Hs CD C d D n k (i + 1) (upd H D (.lst (acc ++ [.str x]))) := by
  refine ⟨_, hD, small1000 ?_, fr.new_upd hDs, ?_, kp, pl, h1, h2, h3, h4, a.put hD (by intro xs z; cases z) hdD h3 h4⟩
  · unfold sVs
    rw [List.length_map, List.length_take]
    show min i 4 ≤ 1000
    omega
  · rw [upd_same, take_succ hi]
    unfold sVs
    rw [List.map_append]
    rfl
theorem dp_strs {K : PySem.W.Frag} {H : Hp} : ∀ ws : List Str, DpAll K H (sVs ws) (ws.map PyData.str)
  | [] => .nil
  | x :: r => .cons (.str x) (dp_strs r)
def Sm (x : Str) : Prop := ∀ c ∈ tl x, c < 1114112
theorem Sm.ok {x : Str} (h : Sm x) : PyData.strOk x = true := by
  show x.cps.all _ = true
  rw [← Array.all_toList]
  exact List.all_eq_true.mpr fun c hc => dT (h c hc)
theorem Sm.app {x y : Str} (hx : Sm x) (hy : Sm y) : Sm (x ++ y) := fun c hc => by
  rw [tl_append] at hc
  exact (List.mem_append.mp hc).elim (hx c) (hy c)
theorem Sm.lit {x : Str} (h : (tl x).all (fun c => decide (c < 1114112)) = true) : Sm x := fun c hc => of_decide_eq_true (List.all_eq_true.mp h c hc)
theorem sm_num (n : Nat) : Sm (sN n) := fun c hc => by
  rw [tl_sN] at hc
  have := (numL_digits n c hc).2
  omega
theorem sm_tie (x : Tie) : Sm (tieT x) := (((((sm_num _).app (.lit (by decide +kernel))).app (sm_num _)).app (.lit (by decide +kernel))).app (sm_num _))
theorem sm_row : ∀ {ws : List Str}, (∀ x ∈ ws, Sm x) → Sm (rowT ws)
  | [], _ => .lit (by decide +kernel)
  | [x], h => by rw [rowT_one]; exact h x (.head _)
  | x :: y :: r, h => by
    rw [rowT_cons (by simp)]
    exact ((h x (.head _)).app (.lit (by decide +kernel))).app (sm_row fun z hz => h z (.tail _ hz))
theorem sm_wsR : ∀ ts : List Tie, ∀ x ∈ wsR ts, Sm x
  | [], x, h => by
    rw [List.mem_singleton.mp h]
    exact .lit (by decide +kernel)
  | [t], x, h => by
    rw [List.mem_singleton.mp h]
    exact sm_tie t
  | t :: y :: r, x, h => by
    rcases List.mem_cons.mp h with h | h
    · rw [h]
      exact (sm_tie t).app (.lit (by decide +kernel))
    · exact sm_wsR (y :: r) x h
theorem sm_net (n k : Nat) (ts : List Tie) : Sm (netT n k ts) := by
  rw [← netT_row]
  refine sm_row fun x hx => ?_
  rcases List.mem_cons.mp hx with z | hx
  · rw [z]; exact sm_num n
  rcases List.mem_cons.mp hx with z | hx
  · rw [z]; exact sm_num k
  · exact sm_wsR ts x hx
theorem lay_strs : ∀ {ws : List Str}, (∀ x ∈ ws, Sm x) → PyData.canLayAll0 (ws.map PyData.str) = true
  | [], _ => rfl
  | x :: r, h => by
    show (PyData.strOk x && PyData.canLayAll0 (r.map PyData.str)) = true
    rw [lay_strs fun y hy => h y (.tail _ hy), (h x (.head _)).ok]
    rfl
theorem dep_strs : ∀ ws : List Str, PyData.depthAll (ws.map PyData.str) ≤ 10
  | [] => Nat.zero_le _
  | x :: r => by
    show max (PyData.depth (PyData.str x)) (PyData.depthAll (r.map PyData.str)) ≤ 10
    have h1 : PyData.depth (PyData.str x) = 0 := rfl
    have h2 := dep_strs r
    omega
theorem shaped_strs {ws : List Str} (h : ∀ x ∈ ws, Sm x) : SeqAt.shaped (.list (ws.map PyData.str)) = true := by
  show (PyData.canLayAll0 (ws.map PyData.str) && decide (PyData.depthAll (ws.map PyData.str) + 1 ≤ 64)) = true
  rw [lay_strs h, dT (by have := dep_strs ws; omega)]
  rfl
theorem eqv_lst (ws : List Str) : PyData.eqv (.list (ws.map PyData.str)) (.list (ws.map PyData.str)) = true := by
  have h := eqv_strs ws
  simp [PyData.eqv, h]
theorem Fr.fresh {M : List Addr} {d : Addr} {Hs H H2 : Hp} (fr : Fr [d] Hs H) (f2 : Fr M H H2) (h : ∀ m ∈ M, Hs m = none) : Fr [d] Hs H2 := fun b o e hm => f2 b o (fr b o e hm) fun z => by
  rw [h b z] at e
  cases e
theorem tie7 {n : Nat} (h : 1 ≤ n) : "tie 7 0 " ++ Str.ofString (toString ((n : Int) - 1)) = rowT ["tie", sN 7, sN 0, sN (n - 1)] := by
  have e : ((n : Int) - 1) = ((n - 1 : Nat) : Int) := by omega
  rw [e, tie_row]
  have e2 : ("tie 7 0 " : Str) = "tie " ++ sN 7 ++ " " ++ sN 0 ++ " " := by decide +kernel
  rw [e2]
  rfl
theorem mov7 : movT ⟨7, 0, 1⟩ = "7 0 1" := by decide +kernel
section
variable {P : Program} {w : World} {K : PySem.W.Frag} {mg : Str → Option Value} {base : Heap} {f C CN CD : Addr} {fd : FuncData}
abbrev N__law_right : List Str := ["n", "k", "ties", "part", "t", "due", "none", "first", "second", "third", "forget", "fourth", "rows", "tie", "row", "desk"]
theorem sc__law_right : FnScope N__law_right ["n", "k", "ties", "part", "t"] (defScope s__law_right) := ⟨rfl, rfl, rfl, by decide +kernel, rfl, by decide +kernel, by decide +kernel⟩
theorem ok__law_right (T : Txt K mg) (DT : DTxt K mg CD) (I_Desk : CalI P w K mg base CX0 CD 1 ["self"] (spDInit CD)) (M_say : CalM P w K mg base (L2.CX P w) CD "say" 11 ["self", "row"] (spSay CD C CN))
    (C__law_since : Cal P w K mg base CX0 "_law_since" 1 ["ties", "t"] spSince) (C__law_net_of : Cal P w K mg base CX0 "_law_net_of" 2 ["n", "ties", "k"] spNetOf) (C__law_text : Cal P w K mg base CX0 "_law_text" 1 ["net"] spLText)
    (C__law_told : Cal P w K mg base CX0 "_law_told" 12 ["n", "k", "ties"] (spTold CD C)) (C__law_done : Cal P w K mg base CX0 "_law_done" 12 ["desk", "rows"] (spDone CD C)) (C__law_back_to_none : Cal P w K mg base CX0 "_law_back_to_none" 12 ["desk", "many", "none"] (spBackTo CD C))
    (C__law_no_deed : Cal P w K mg base CX0 "_law_no_deed" 12 ["desk"] (spNoDeed CD C)) (F : FunD K "_law_right" "_law_right" (defArgs s__law_right) (defBody s__law_right) (defScope s__law_right) [] [] f fd) : FnOk P w K mg base CX0 13 f fd ["n", "k", "ties", "part", "t"] (spRight CD C) := by
  refine F.ok sc__law_right (fun vs H Q E h => ?_) (fun cdv A outer s H vs Q E hr h => ?_)
  · obtain ⟨_, _, _, _, _, _, _, rfl, _⟩ := h
    rfl
  obtain ⟨n, k, t, l, l2, ts, ps, rfl, n1, n2, k1, k2, ht30, ⟨us, hl, ht⟩, ⟨us2, hl2, ht2⟩, ok, hnd, hlen, hsub, q⟩ := h
  have hul := ht.len
  have okp : ∀ x ∈ ps, Ok n x := fun x hx => ok x (hsub.subset hx)
  have hndp : (ps.map (·.m)).Nodup := hnd.sublist (hsub.map _)
  have hlenp : ps.length ≤ 10 := Nat.le_trans hsub.length_le hlen
  refine ⟨_, PSs.nox (pss_cons (ps_set (i := 5) sc__law_right.nd rfl (Or.inl rfl) (pe_cal C__law_text (hr.mono (by decide)) pass0 (pa_cons (pe_cal C__law_net_of (hr.mono (by decide)) pass0 (pa_cons (pv 0) (pa_cons (pe_cal C__law_since (hr.mono (by decide)) pass0 (pa_cons (pe_callB (cr_sortT (d := 3) (B := BB) (by decide)) (by rfl) T.sorted (by decide +kernel) (pa_cons (pv 2) pa_nil)) (pa_cons (pv 4) pa_nil))) (pa_cons (pv 1) pa_nil)))) pa_nil)))
      (pss_cons (ps_set (i := 6) sc__law_right.nd rfl (Or.inl rfl) (pe_op op_add_str (pe_op op_add_str (pe_op op_add_str (pe_callTy call_str_int (by rfl) T.str (by decide +kernel) (pa_cons (pv 0) pa_nil)) pe_str) (pe_callTy call_str_int (by rfl) T.str (by decide +kernel) (pa_cons (pv 1) pa_nil))) pe_str))
      (pss_cons (ps_set (i := 7) sc__law_right.nd rfl (Or.inl rfl) (pe_cal C__law_told (hr.mono (by decide)) pass0 (pa_cons (pv 0) (pa_cons (pv 1) (pa_cons (pv 2) pa_nil)))))
      (pss_cons (ps_set (i := 8) sc__law_right.nd rfl (Or.inl rfl) (pe_cal C__law_told (hr.mono (by decide)) pass0 (pa_cons (pv 0) (pa_cons (pv 1) (pa_cons (pv 3) pa_nil)))))
      (pss_cons (ps_set (i := 9) sc__law_right.nd rfl (Or.inl rfl) (pe_cal C__law_told (hr.mono (by decide)) pass0 (pa_cons (pv 0) (pa_cons (pv 1) (pa_cons (pe_lc (own := [("tie", 13)]) rfl sc__law_right.nd (pi_list (pv 2)) (blkOk_by (own := [("tie", 13)]) (N := N__law_right) (sc := defScope s__law_right) (by decide +kernel)) (fun _ _ _ _ _ => (pg_name (i := 13) sc__law_right.nd rfl (Or.inl rfl))) (fun _ _ _ _ _ => pts_one (pt_cmpR (op_notInDK K (hu65 hr)) (pv 13) (pv 3) rfl)) (fun _ _ _ _ _ => (pv 13))) pa_nil)))))
      (pss_cons (ps_if (PW.pt (pw_or (pt_cmpR op_isN (pv 7) pe_non (nomark _)) (pw_or (pt_cmpR op_isN (pv 8) pe_non (nomark _)) (pw_or1 (pt_cmpR op_isN (pv 9) pe_non (nomark _)))))) pss_never pss_nil)
      (pss_cons (ps_set (i := 10) sc__law_right.nd rfl (Or.inl rfl) (pe_op op_add_str pe_str (pe_callTy call_str_int (by rfl) T.str (by decide +kernel) (pa_cons (pv 4) pa_nil))))
      (pss_cons (ps_if (PW.pt (pw_or (pt_not (pt_val (pe_cal C__law_done (hr.mono (by decide)) pass0 (pa_cons (pv 7) (pa_cons (pe_lst (pa_cons (pv 10) pa_nil)) pa_nil))))) (pw_or1 (pt_not (pt_val (pe_cal C__law_done (hr.mono (by decide)) pass0 (pa_cons (pv 8) (pa_cons (pe_lst (pa_cons (pe_op op_add_str pe_str (pe_calm M_say DT.cl (hr.mono (by decide)) passL (pv 9) (pa_cons pe_str pa_nil))) (pa_cons (pv 10) pa_nil))) pa_nil)))))))) pss_never pss_nil)
      (pss_cons (ps_set (i := 11) sc__law_right.nd rfl (Or.inr rfl) (pe_cali0 I_Desk DT.g (hr.mono (by decide)) pass0))
      (pss_cons (ps_set (i := 12) sc__law_right.nd rfl (Or.inl rfl) (pe_lst (pa_cons pe_str (pa_cons pe_str (pa_cons pe_str (pa_cons (pe_op op_add_str (pe_op op_add_str (pe_op op_add_str pe_str (pe_callTy call_str_int (by rfl) T.str (by decide +kernel) (pa_cons (pv 0) pa_nil))) pe_str) (pe_callTy call_str_int (by rfl) T.str (by decide +kernel) (pa_cons (pv 1) pa_nil))) pa_nil))))))
      (pss_cons (ps_if (pt_cmpR (op_neD hr.units) (pe_lc (own := [("row", 14)]) rfl sc__law_right.nd (pi_list (pv 12)) (blkOk_by (own := [("row", 14)]) (N := N__law_right) (sc := defScope s__law_right) (by decide +kernel)) (fun _ _ _ _ _ => (pg_name (i := 14) sc__law_right.nd rfl (Or.inl rfl))) (fun _ _ _ _ _ => pts_nil) (fun _ _ _ _ _ => (pe_calm M_say DT.cl (hr.mono (by decide)) passL (pv 11) (pa_cons (pv 14) pa_nil)))) (pe_lst (pa_cons pe_str (pa_cons pe_str (pa_cons pe_str (pa_cons pe_str pa_nil))))) (nomark _)) pss_never pss_nil)
      (pss_cons (ps_if (PW.pt (pw_or (pt_cmpR op_ne (pe_ix ix_list (pe_split (pe_calm M_say DT.cl (hr.mono (by decide)) passL (pv 11) (pa_cons (pe_op op_add_str pe_str (pe_callTy call_str_int (by rfl) T.str (by decide +kernel) (pa_cons (pe_op op_sub (pv 0) pe_int) pa_nil))) pa_nil)) pe_str) pe_int (fun _ _ => rfl)) pe_str (nomark _)) (pw_or1 (pt_not (pt_val (pe_cal C__law_done (hr.mono (by decide)) pass0 (pa_cons (pv 11) (pa_cons (pe_lst (pa_cons pe_str pa_nil)) pa_nil)))))))) pss_never pss_nil)
      (pss_cons (ps_if (pt_not (pt_val (pe_cal C__law_done (hr.mono (by decide)) pass0 (pa_cons (pv 11) (pa_cons (pe_lst (pa_cons (pe_op op_add_str pe_str (pe_calm M_say DT.cl (hr.mono (by decide)) passL (pv 7) (pa_cons pe_str pa_nil))) (pa_cons (pe_op op_add_str pe_str (pv 5)) pa_nil))) pa_nil))))) pss_never pss_nil)
      (pss_cons (ps_if (pt_cmpR (op_neD hr.units) (pe_lst (pa_cons (pe_calm M_say DT.cl (hr.mono (by decide)) passL (pv 7) (pa_cons pe_str pa_nil)) (pa_cons (pe_calm M_say DT.cl (hr.mono (by decide)) passL (pv 8) (pa_cons pe_str pa_nil)) (pa_cons (pe_calm M_say DT.cl (hr.mono (by decide)) passL (pv 11) (pa_cons pe_str pa_nil)) pa_nil)))) (pe_lst (pa_cons (pv 5) (pa_cons (pv 5) (pa_cons (pv 5) pa_nil)))) (nomark _)) pss_never pss_nil)
      (pss_cons (ps_if (PW.pt (pw_or (pt_not (pt_val (pe_cal C__law_done (hr.mono (by decide)) pass0 (pa_cons (pv 7) (pa_cons (pe_lst (pa_cons (pe_op op_add_str pe_str (pe_calm M_say DT.cl (hr.mono (by decide)) passL (pv 8) (pa_cons pe_str pa_nil))) pa_nil)) pa_nil))))) (pw_or1 (pt_cmpR op_ne (pe_calm M_say DT.cl (hr.mono (by decide)) passL (pv 7) (pa_cons pe_str pa_nil)) (pv 5) (nomark _))))) pss_never pss_nil)
      (pss_cons (ps_if (PW.pt (pw_or (pt_not (pt_val (pe_cal C__law_back_to_none (hr.mono (by decide)) pass0 (pa_cons (pv 7) (pa_cons (pe_op op_add (pe_callB call_len_seq (by rfl) T.len (by decide +kernel) (pa_cons (pv 2) pa_nil)) pe_int) (pa_cons (pv 6) pa_nil)))))) (pw_or1 (pt_not (pt_val (pe_cal C__law_back_to_none (hr.mono (by decide)) pass0 (pa_cons (pv 8) (pa_cons (pe_op op_add (pe_callB call_len_seq (by rfl) T.len (by decide +kernel) (pa_cons (pv 3) pa_nil)) pe_int) (pa_cons (pv 6) pa_nil))))))))) pss_never pss_nil)
      (pss_one (ps_ret (pe_and (pe_cal C__law_back_to_none (hr.mono (by decide)) pass0 (pa_cons (pv 11) (pa_cons pe_int (pa_cons (pv 6) pa_nil)))) (pe_one (pe_callB (cr_all rfl) (by rfl) T.all (by decide +kernel) (pa_cons (pe_lc (own := [("desk", 15)]) rfl sc__law_right.nd (pi_list (pe_lst (pa_cons (pv 7) (pa_cons (pv 8) (pa_cons (pv 11) pa_nil))))) (blkOk_by (own := [("desk", 15)]) (N := N__law_right) (sc := defScope s__law_right) (by decide +kernel)) (fun _ _ _ _ _ => (pg_name (i := 15) sc__law_right.nd rfl (Or.inl rfl))) (fun _ _ _ _ _ => pts_nil) (fun _ _ _ _ _ => (pe_cal C__law_no_deed (hr.mono (by decide)) pass0 (pa_cons (pv 15) pa_nil)))) pa_nil)))))))))))))))))))))), ?_⟩
  -- due
  refine ⟨_, rfl, _, rfl, l, _, rfl, SqL.of hl, by omega, ?_, fun ys p0 hperm hsort hp0 => ?_⟩
  · intro v hv
    obtain ⟨j, hj, e⟩ := List.mem_iff_getElem.mp hv
    obtain ⟨r, y, er, hy, hr2⟩ := ht.get (List.getElem?_eq_getElem hj)
    rw [← e, er]
    exact ⟨_, tupI_of hr2, rfl, bd_of (by omega) (ok y (List.mem_of_getElem? hy))⟩
  obtain ⟨zs, hz, hzt⟩ := ht.perm hperm
  have zrise : Rise zs := sorted_rise hz (sorted_of (K := K) (by omega) hzt (fun y hy => ok y (hz.mem_iff.mp hy)) hsort) (notwo_of hnd)
  have okz : ∀ x ∈ zs, Ok n x := fun x hx => ok x (hz.mem_iff.mp hx)
  have s0 := same_new (o := .lst ys) hp0
  have hzl : zs.length ≤ 10 := by rw [hz.length_eq]; exact hlen
  refine ⟨_, rfl, p0, zs, t, rfl, ⟨ys, upd_same, hzt.same s0⟩, by omega, fun H1 q1 s1 hq1n hq1 => ?_⟩
  have hsl1 := since_len (t := t) (l := zs)
  refine ⟨_, rfl, n, k, q1, _, rfl, by omega, k1, k2, hq1, by omega, (fun x hx => ⟨(okz x (since_sub x hx)).a, (okz x (since_sub x hx)).b⟩), fun H2 q2 l3 s2 hq2n hl3n hq2 hl3 => ?_⟩
  have onD : NetOk n k (netA n k (sinceD t zs)) := ⟨n1, n2, k1, k2, fun x hx => okz x (since_sub x (netA_mem hx)), netA_rise (since_rise zrise), by
    have := netA_len (n := n) (k := k) (l := sinceD t zs)
    omega, netA_layers⟩
  refine ⟨n, k, q2, l3, _, rfl, hq2, hl3, n2, k2, onD.len, onD.ok, fun H3 s3 => ?_⟩
  have sA : Same H H3 := s0.trans (s1.trans (s2.trans s3))
  have b1 := sN_len2 (n := n) (by omega)
  have b2 := sN_len2 (n := k) (by omega)
  have c1 : (" " : Str).length = 1 := by decide +kernel
  have c2 : (" none" : Str).length = 5 := by decide +kernel
  have b3 : (sN n ++ " ").length ≤ 3 := by rw [len_app]; omega
  have b4 : (sN n ++ " " ++ sN k).length ≤ 5 := by rw [len_app]; omega
  have n30 : n ≤ 10 ^ 30 := Nat.le_trans n2 (by decide)
  have k30 : k ≤ 10 ^ 30 := Nat.le_trans k2 (by decide)
  have t30 : t ≤ 10 ^ 30 := Nat.le_trans ht30 (by decide)
  refine ⟨_, rfl, _, rfl, sN_log n30, _, _, rfl, rfl, sl_of (m := 40) (by show (sN n).length + (" " : Str).length ≤ _; omega) (by decide), ?_⟩
  refine ⟨_, rfl, _, rfl, sN_log k30, _, _, rfl, rfl, sl_of (m := 40) (by show (sN n ++ " ").length + (sN k).length ≤ _; omega) (by decide), ?_⟩
  refine ⟨_, _, rfl, rfl, sl_of (m := 40) (by show (sN n ++ " " ++ sN k).length + (" none" : Str).length ≤ _; omega) (by decide), ?_⟩
  -- first, second
  refine ⟨_, rfl, _, rfl, _, rfl, n, k, l, ts, rfl, n1, n2, k1, k2, ⟨us, sA _ _ hl, ht.same sA⟩, ok, hnd, hlen, fun H4 d1 kp1 pl1 s4 hd1n hkp1n hpl1n hD1 => ?_⟩
  have sB := sA.trans s4
  refine ⟨_, rfl, _, rfl, _, rfl, n, k, l2, ps, rfl, n1, n2, k1, k2, ⟨us2, sB _ _ hl2, ht2.same sB⟩, okp, hndp, hlenp, fun H5 d2 kp2 pl2 s5 hd2n hkp2n hpl2n hD2 => ?_⟩
  have sC := sB.trans s5
  -- third
  refine ⟨_, rfl, _, rfl, _, rfl, l, rfl, ⟨_, SqL.of (sC _ _ hl)⟩, fun D hD => lc_list (K := K) (a := l) (xs := us) (fun i H' => Same H5 H' ∧ ∃ acc, H' D = some (.lst acc) ∧ TsAt H' acc ((ts.take i).filter fun x => !decide (x ∈ ps)) ∧ acc.length ≤ i) ?_ ?_ ?_ ?_⟩
  · exact ⟨same_new hD, [], upd_same, by rw [List.take_zero]; exact .nil, Nat.le_refl _⟩
  · exact fun i H' _ ⟨sm, _⟩ => SqL.of (sm _ _ (sC _ _ hl))
  · rintro i v H' hi ⟨sm, acc, hacc, ta, hal⟩
    obtain ⟨p, x, rfl, hx, hp⟩ := ht.get hi
    have hi2 : i < us.length := (List.getElem?_eq_some_iff.mp hi).1
    have sm0 := sC.trans sm
    have hp' := sm0 _ _ hp
    refine ⟨rfl, _, rfl, _, rfl, _, _, dp_tie hp', .lst (SqL.of (sm0 _ _ hl2)) (dp_ties (ht2.same sm0)), shaped_tie x, shaped_ties _, _, rfl, ?_⟩
    rw [any_tie, take_succ hx, List.filter_append]
    by_cases hxp : x ∈ ps
    · rw [dT hxp]
      refine iteF ⟨sm, acc, hacc, ?_, by omega⟩
      rw [List.filter_cons_of_neg (by rw [dT hxp]; simp)]
      show TsAt H' acc (_ ++ [])
      rw [List.append_nil]
      exact ta
    · rw [decide_eq_false hxp]
      refine iteT ⟨_, rfl, acc, hacc, small1000 (by omega), same_upd sm hD, _, upd_same, ?_, by rw [List.length_append, List.length_singleton]; omega⟩
      rw [List.filter_cons_of_pos (by rw [decide_eq_false hxp]; rfl)]
      refine (ta.put hacc).app (.one ?_)
      rw [upd_ne (ne_of hp' hacc (by intro z; cases z))]
      exact hp'
  rintro H6 ⟨s6, acc, hacc, ta, _⟩
  rw [hul, List.take_length] at ta
  generalize hrs : (ts.filter fun x => !decide (x ∈ ps)) = rs at *
  have rsub : rs.Sublist ts := by rw [← hrs]; exact List.filter_sublist
  have rmem : ∀ z, z ∈ ts ↔ z ∈ ps ∨ z ∈ rs := fun z => by
    rw [← hrs, List.mem_filter]
    constructor
    · intro h
      by_cases hp : z ∈ ps
      · exact .inl hp
      · exact .inr ⟨h, by rw [decide_eq_false hp]; rfl⟩
    · rintro (h | h)
      · exact hsub.subset h
      · exact h.1
  have rapart : ∀ z ∈ rs, z ∉ ps := fun z hz hp => by
    rw [← hrs, List.mem_filter, dT hp] at hz
    exact Bool.false_ne_true hz.2
  have okr : ∀ x ∈ rs, Ok n x := fun x hx => ok x (rsub.subset hx)
  have hndr : (rs.map (·.m)).Nodup := hnd.sublist (rsub.map _)
  have hlenr : rs.length ≤ 10 := Nat.le_trans rsub.length_le hlen
  refine ⟨n, k, D, rs, rfl, n1, n2, k1, k2, ⟨acc, hacc, ta⟩, okr, hndr, hlenr, fun H7 d3 kp3 pl3 s7 hd3n hkp3n hpl3n hD3 => ?_⟩
  refine ⟨_, rfl, rfl, false, rfl, iteF ⟨_, rfl, rfl, false, rfl, iteF ⟨_, rfl, rfl, false, rfl, iteF ?_⟩⟩⟩
  -- the three desks
  have x1 := hD1.pl
  have y1 : d1 ∉ [kp1, pl1] := dk_no hD1
  have i1 := hD1.intro s4 (Z := []) (fun _ z => nomatch z)
  have z5 : ∀ z ∈ [d1, kp1, pl1], H5 z ≠ none := same_all s5 i1.all
  have i2 := hD2.intro s5 (Z := [d1, kp1, pl1]) i1.all
  have i1b : DkAt H5 CD C d1 kp1 pl1 (fun l => l ∉ [d2, kp2, pl2] ++ [d1, kp1, pl1]) (comesT ⟨n, k, [], 0, []⟩ ts) := i1.grow s5 fun z hz => ⟨by
    rcases List.mem_cons.mp hz with e | hz
    · rw [e]; exact hd2n
    rcases List.mem_cons.mp hz with e | hz
    · rw [e]; exact hkp2n
    · rw [List.mem_singleton.mp hz]; exact hpl2n, i2.all z (List.mem_append.mpr (.inl hz))⟩
  have z2all : ∀ z ∈ [d2, kp2, pl2] ++ [d1, kp1, pl1], H6 z ≠ none := same_all s6 i1b.all
  have i3 := hD3.intro s7 z2all
  have s67 := s6.trans s7
  have new3 : ∀ z ∈ [d3, kp3, pl3], H5 z = none ∧ H7 z ≠ none := fun z hz => ⟨by
    rcases List.mem_cons.mp hz with e | hz
    · rw [e]; exact s6.free hd3n
    rcases List.mem_cons.mp hz with e | hz
    · rw [e]; exact s6.free hkp3n
    · rw [List.mem_singleton.mp hz]; exact s6.free hpl3n, i3.all z (List.mem_append.mpr (.inl hz))⟩
  have i1c := i1b.grow s67 new3
  have i2c : DkAt H7 CD C d2 kp2 pl2 (fun l => l ∉ [d3, kp3, pl3] ++ ([d2, kp2, pl2] ++ [d1, kp1, pl1])) (comesT ⟨n, k, [], 0, []⟩ ps) := DkAt.grow (Z := [d2, kp2, pl2] ++ [d1, kp1, pl1]) i2 s67 new3
  have i3c : DkAt H7 CD C d3 kp3 pl3 (fun l => l ∉ [d3, kp3, pl3] ++ ([d2, kp2, pl2] ++ [d1, kp1, pl1])) (comesT ⟨n, k, [], 0, []⟩ rs) := i3
  generalize hZ3 : [d3, kp3, pl3] ++ ([d2, kp2, pl2] ++ [d1, kp1, pl1]) = Z3 at *
  have m1k : kp1 ∈ Z3 := by rw [← hZ3]; simp
  have m1p : pl1 ∈ Z3 := by rw [← hZ3]; simp
  have m2k : kp2 ∈ Z3 := by rw [← hZ3]; simp
  have m2p : pl2 ∈ Z3 := by rw [← hZ3]; simp
  obtain ⟨x1d, x1k, x1p⟩ := hD1.pl
  have x2 := i2c.pl
  obtain ⟨y1d, y1k, y1p⟩ := i1.pl
  have a21k : kp2 ≠ kp1 := (ne_there (H := H4) y1k hkp2n).symm
  have ap21 : d2 ∉ [kp1, pl1] ∧ kp2 ∉ [kp1, pl1] ∧ pl2 ∉ [kp1, pl1] := ⟨no2 (ne_there y1k hd2n).symm (ne_there y1p hd2n).symm, no2 (ne_there y1k hkp2n).symm (ne_there y1p hkp2n).symm, no2 (ne_there y1k hpl2n).symm (ne_there y1p hpl2n).symm⟩
  have ap12 : d1 ∉ [kp2, pl2] ∧ kp1 ∉ [kp2, pl2] ∧ pl1 ∉ [kp2, pl2] := ⟨no2 (ne_there y1d hkp2n) (ne_there y1d hpl2n), no2 (ne_there y1k hkp2n) (ne_there y1k hpl2n), no2 (ne_there y1p hkp2n) (ne_there y1p hpl2n)⟩
  obtain ⟨w1d, w1k, w1p⟩ := (i1b.same s6).pl
  have ap31 : d3 ∉ [kp1, pl1] ∧ kp3 ∉ [kp1, pl1] ∧ pl3 ∉ [kp1, pl1] := ⟨no2 (ne_there w1k hd3n).symm (ne_there w1p hd3n).symm, no2 (ne_there w1k hkp3n).symm (ne_there w1p hkp3n).symm, no2 (ne_there w1k hpl3n).symm (ne_there w1p hpl3n).symm⟩
  have f0k1 : H kp1 = none := sA.free hkp1n
  have f0p1 : H pl1 = none := sA.free hpl1n
  have f0k2 : H kp2 = none := sB.free hkp2n
  have f0p2 : H pl2 = none := sB.free hpl2n
  -- their states
  have nts := notwo_of hnd
  have ntp := notwo_of hndp
  have ntr := notwo_of hndr
  have fits : ∀ {us : List Tie}, (∀ x ∈ us, Ok n x) → AllFit n us := fun h x hx => ⟨(h x hx).a, (h x hx).b⟩
  obtain ⟨P1, e1, g1, bot1⟩ := comes_form (k := k) zrise (fun z => hz.mem_iff) nts (fits ok)
  obtain ⟨P2, e2, g2, bot2⟩ := comes_form (k := k) (srt_rise ntp) (fun z => srt_mem) ntp (fits okp)
  obtain ⟨P3, e3, g3, bot3⟩ := comes_form (k := k) (srt_rise ntr) (fun z => srt_mem) ntr (fits okr)
  rw [e1] at i1c
  rw [e2] at i2c
  rw [e3] at i3c
  have hsec : withT n k (netA n k (srt ps)) (netA n k (srt rs)) = netA n k zs := law_second (srt_rise ntp) (srt_rise ntr) zrise
    (fun z => by rw [hz.mem_iff, rmem, srt_mem, srt_mem])
    (fun x hx y hy e => by
      have hxp := srt_mem.mp hx
      have hyr := srt_mem.mp hy
      have exy : x = y := one_of (ts := ts) (l := ts) (fun _ h => h) nts x (hsub.subset hxp) y (rsub.subset hyr) e
      exact rapart y hyr (by rw [← exy]; exact hxp))
    (fun x hx => fits okp x (srt_mem.mp hx)) (fun x hx => fits okr x (srt_mem.mp hx))
  have on1 := i1c.ok.net
  have on2 := i2c.ok.net
  have on3 := i3c.ok.net
  have on3' : NetOk n k (netA n k (srt rs)) := on3
  have srtl : ∀ {us : List Tie}, (srt us).length = us.length := fun {us} => by
    unfold srt
    rw [List.length_reverse]
    induction us with
    | nil => rfl
    | cons x us ih => show (ins x (insAll us [])).length = us.length + 1; rw [ins_len, ih]
  have len2 : (netA n k (srt ps)).length ≤ 10 := Nat.le_trans netA_len (by rw [srtl]; exact hlenp)
  have len3 : (netA n k (srt rs)).length ≤ 10 := Nat.le_trans netA_len (by rw [srtl]; exact hlenr)
  have lenD : (netA n k (sinceD t zs)).length ≤ 10 := Nat.le_trans netA_len (by omega)
  have can2 : ∀ P', CanLay ⟨n, k, netA n k (srt ps), 0, P'⟩ (netA n k (srt rs)) := fun P' => ⟨on3, by show (netA n k (srt ps)).length + (netA n k (srt rs)).length ≤ 60; omega, one_of (ts := ts) (fun x hx => by
    rcases List.mem_append.mp hx with z | z
    · exact hsub.subset (srt_mem.mp (netA_mem z))
    · exact rsub.subset (srt_mem.mp (netA_mem z))) nts⟩
  have inD : ∀ x ∈ netA n k (sinceD t zs), x ∈ ts := fun x hx => hz.mem_iff.mp (since_sub x (netA_mem hx))
  have canD : ∀ (g : Nat) P', CanLay ⟨n, k, netA n k (sinceD t zs), g, P'⟩ (netA n k (sinceD t zs)) := fun g P' => ⟨onD, by show (netA n k (sinceD t zs)).length + (netA n k (sinceD t zs)).length ≤ 60; omega, one_of (ts := ts) (fun x hx => (List.mem_append.mp hx).elim (inD x) (inD x)) nts⟩
  have can0 : ∀ P', CanLay ⟨n, k, [], 0, P'⟩ (netA n k (sinceD t zs)) := fun P' => ⟨onD, by show 0 + (netA n k (sinceD t zs)).length ≤ 60; omega, one_of (ts := ts) (fun x hx => inD x (by simpa using hx)) nts⟩
  have lt3 : (netT n k (netA n k (srt rs))).length ≤ 400 + 10 := Nat.le_trans (netT_len n2 k2 fun x hx => ⟨(on3.ok x hx).m, (on3.ok x hx).a, (on3.ok x hx).b⟩) (by omega)
  have ltD : (netT n k (netA n k (sinceD t zs))).length ≤ 400 + 10 := Nat.le_trans (netT_len n2 k2 fun x hx => ⟨(onD.ok x hx).m, (onD.ok x hx).a, (onD.ok x hx).b⟩) (by omega)
  have clay : ("lay " : Str).length = 4 := by decide +kernel
  have tl1 := sN_len t30
  have cfor : ("forget " : Str).length = 7 := by decide +kernel
  -- forget
  refine ⟨_, rfl, _, rfl, sN_log t30, _, _, rfl, rfl, sl_of (m := 40) (by show ("forget " : Str).length + (sN t).length ≤ _; omega) (by decide), ?_⟩
  -- the first: forget
  refine ⟨_, rfl, _, rfl, by show 1 ≤ sizeLine; decide, fun a1 ha1 => ?_⟩
  have sa1 := same_new (o := .lst (sVs ["forget " ++ sN t])) ha1
  refine ⟨d1, kp1, pl1, a1, _, ["forget " ++ sN t], _, _, rfl, upd_same, kp_not i1c.k ha1, by show 1 ≤ 10; omega, i1c.same sa1, .cons (.forget t t30) (by show P1.length ≤ 800; omega) .nil, fun H8 f8 j1 => ?_⟩
  rw [forget_form zrise] at j1
  have j2 := (i2c.same sa1).other f8 j1 ap21.1 ap21.2.1 ap21.2.2 ⟨m1k, m1p⟩
  have j3 := (i3c.same sa1).other f8 j1 ap31.1 ap31.2.1 ap31.2.2 ⟨m1k, m1p⟩
  have sD : Same H H8 := Fr.new (sC.trans (s67.trans sa1)) f8 fun m hm => by
    rcases List.mem_cons.mp hm with z | z
    · rw [z]; exact f0k1
    · rw [List.mem_singleton.mp z]; exact f0p1
  refine ⟨true, rfl, ?_⟩
  refine iteF ?_
  -- the second: lay, forget
  obtain ⟨dx3, hd3⟩ := j3.d
  refine ⟨_, rfl, _, rfl, d3, dx3, _, rfl, hd3, lk_dno _ (by decide +kernel), .inr ⟨d3, kp3, pl3, _, _, j3, .inr (.inl ⟨rfl, fun H9 s9 => ?_⟩)⟩⟩
  refine ⟨_, _, rfl, rfl, sl_of (m := 1000) (by show ("lay " : Str).length + (netT n k (netA n k (srt rs))).length ≤ _; omega) (by decide), _, rfl, by show 2 ≤ sizeLine; decide, fun a2 ha2 => ?_⟩
  have sa2 := s9.trans (same_new (o := .lst (sVs ["lay " ++ netT n k (netA n k (srt rs)), "forget " ++ sN t])) ha2)
  refine ⟨d2, kp2, pl2, a2, _, ["lay " ++ netT n k (netA n k (srt rs)), "forget " ++ sN t], _, _, rfl, upd_same, kp_not (j2.k.same s9) ha2, by show 2 ≤ 10; omega, j2.same sa2, .cons (.lay _ (can2 P2)) (by show P2.length ≤ 800; omega) (.cons (.forget t t30) (by show P2.length + 1 ≤ 800; omega) .nil), fun H10 f10 l2' => ?_⟩
  rw [second_form hsec, forget_form zrise] at l2'
  have l1' := (j1.same sa2).other f10 l2' ap12.1 ap12.2.1 ap12.2.2 ⟨m2k, m2p⟩
  have sE : Same H H10 := Fr.new (sD.trans sa2) f10 fun m hm => by
    rcases List.mem_cons.mp hm with z | z
    · rw [z]; exact f0k2
    · rw [List.mem_singleton.mp z]; exact f0p2
  refine ⟨true, rfl, iteF ?_⟩
  -- the fourth
  refine fun d4 dx4 hd4 hdx4 hne4 => ⟨d4, dx4, rfl, upd_same, rfl, ?_⟩
  have hd4' : upd H10 dx4 (.own d4) d4 = none := by rw [upd_ne hne4.symm]; exact hd4
  rw [upd_upd]
  have sF : Same H10 (upd (upd H10 dx4 (.own d4)) d4 (.ins CD dx4 [("keeper", .non)])) := (same_new hdx4).trans (same_new hd4')
  generalize hH11 : upd (upd H10 dx4 (.own d4)) d4 (.ins CD dx4 [("keeper", .non)]) = H11 at *
  have hd11 : H11 d4 = some (.ins CD dx4 [("keeper", .non)]) := by rw [← hH11]; exact upd_same
  have new4 : ∀ z ∈ [d4], H10 z = none ∧ H11 z ≠ none := fun z hz => by
    rw [List.mem_singleton.mp hz]
    exact ⟨hd4, by rw [hd11]; simp⟩
  have m1 := l1'.grow sF new4
  have m2 := l2'.grow sF new4
  have cweb : ("web " : Str).length = 4 := by decide +kernel
  have b5 : ("web " ++ sN n : Str).length ≤ 6 := by rw [len_app]; omega
  have b6 : ("web " ++ sN n ++ " " : Str).length ≤ 7 := by rw [len_app]; omega
  refine ⟨_, rfl, _, rfl, sN_log n30, _, _, rfl, rfl, sl_of (m := 40) (by show ("web " : Str).length + (sN n).length ≤ _; omega) (by decide), ?_⟩
  refine ⟨_, _, rfl, rfl, sl_of (m := 40) (by show ("web " ++ sN n : Str).length + (" " : Str).length ≤ _; omega) (by decide), ?_⟩
  refine ⟨_, rfl, _, rfl, sN_log k30, _, _, rfl, rfl, sl_of (m := 40) (by show ("web " ++ sN n ++ " " : Str).length + (sN k).length ≤ _; omega) (by decide), by show 4 ≤ sizeLine; decide, fun a4 ha4 => ?_⟩
  have er : HO.lst [V.str ("web 2 1" : Str), V.str ("tie 1 0 1" : Str), V.str ("forget 99" : Str), V.str ("web " ++ sN n ++ " " ++ sN k)] = .lst (sVs (rowF n k)) := by
    have e99 : ("forget 99" : Str) = "forget " ++ sN 99 := by decide +kernel
    rw [e99]
    rfl
  refine ⟨_, rfl, a4, rfl, ?_⟩
  generalize hH12 : upd H11 a4 _ = H12
  have sG : Same H11 H12 := by rw [← hH12]; exact same_new ha4
  have hr12 : H12 a4 = some (.lst (sVs (rowF n k))) := by rw [← hH12]; exact upd_same.trans (congrArg some er)
  generalize hσ : List.set _ 12 _ = σ
  have hσ2 : σ = [some (nV n), some (nV k), some (.ref l), some (.ref l2), some (nV t), some (.str (netT n k (netA n k (sinceD t zs)))), some (.str (netT n k [])), some (.ref d1), some (.ref d2), some (.ref d3), some (.str ("forget " ++ sN t)), some (.ref d4), some (.ref a4), none, none, none] := by
    rw [← hσ, ← none_text]
    rfl
  subst hσ2
  clear hσ
  have hd12 := sG _ _ hd11
  have ext : ∀ {Z : List Addr} {st : KS} {d kp pl : Addr}, DkAt H11 CD C d kp pl (fun l => l ∉ Z) st → DkAt H12 CD C d kp pl (fun l => l ∉ Z) st := fun a => a.same sG
  have m1' := ext m1
  have m2' := ext m2
  refine ⟨⟨_, SqL.of hr12⟩, fun D4 hD4 => ?_⟩
  have ndD : d4 ≠ D4 := ne_of_none hd12 hD4
  refine lc_list (K := K) (a := a4) (xs := sVs (rowF n k)) (PvF H12 CD C d4 D4 n k) ?_ ?_ ?_ ?_
  · exact ⟨Fr.of (same_new hD4), upd_same, dx4, by rw [upd_ne ndD]; exact hd12⟩
  · exact fun i H' _ ⟨f, _, _⟩ => SqL.of (f.at (fun z => by rw [List.mem_singleton.mp z, hd12] at hr12; cases hr12) hr12)
  · rintro i v H' hi ⟨f, hacc, hst⟩
    have i4 : i = 0 ∨ i = 1 ∨ i = 2 ∨ i = 3 := by
      have z : i < 4 := (List.getElem?_eq_some_iff.mp hi).1
      omega
    rcases i4 with rfl | rfl | rfl | rfl
    · obtain rfl : V.str ("web 2 1" : Str) = v := Option.some.inj hi
      obtain ⟨dx, hdx⟩ := hst
      refine ⟨rfl, _, rfl, d4, dx, _, rfl, hdx, lk_dno _ (by decide +kernel), _, rfl, .inl ⟨d4, dx, .non, 2, 1, ?_, by decide, by decide, by decide, by decide, hdx, fun H2 kp pl f2 hkp hpl hne hd2 hK2 => ?_⟩⟩
      · exact congrArg (fun z => [V.ref d4, V.str z]) (show ("web 2 1" : Str) = rowT ["web", sN 2, sN 1] by decide +kernel)
      have hacc2 := f2.at (fun z => ndD (List.mem_singleton.mp z).symm) hacc
      obtain ⟨r1, r2, r3, r4, r5⟩ := web_stage f hacc hD4 hdx f2 hkp hpl hd2 hacc2 hK2 (kok_new (n := 2) (k := 1) (by decide) (by decide) (by decide) (by decide))
      exact close_stage (n := n) (k := k) (i := 0) rfl (f.trans f2) hD4 ndD hacc2 r1 r2 r3 r4 r5
    · obtain rfl : V.str ("tie 1 0 1" : Str) = v := Option.some.inj hi
      obtain ⟨kp, pl, r1, r2, r3, r4, r5⟩ := hst
      obtain ⟨dx, hdx⟩ := r5.d
      have can : CanCome ⟨2, 1, [], 0, []⟩ ⟨1, 0, 1⟩ := ⟨⟨by decide, by decide, by decide, by decide⟩, by decide, by decide, fun y hy => nomatch hy⟩
      refine ⟨rfl, _, rfl, d4, dx, _, rfl, hdx, lk_dno _ (by decide +kernel), _, rfl, .inr ⟨d4, kp, pl, _, _, r5, .inl ⟨"tie", [1, 0, 1], ?_, .inl ⟨⟨1, 0, 1⟩, rfl, rfl, can, fun H2 ms f2 hgm hK2 => ?_⟩⟩⟩⟩
      · exact congrArg (fun z => [V.ref d4, V.str z]) (show ("tie 1 0 1" : Str) = rowT ["tie", sN 1, sN 0, sN 1] by decide +kernel)
      have hms : ms = [⟨1, 0, 1⟩] := hgm.2.1 rfl (by decide)
      subst hms
      rw [show movesT [(⟨1, 0, 1⟩ : Tie)] = "1 0 1" from by decide +kernel]
      have hacc2 := f2.at (no2 r3.symm r4.symm) hacc
      exact close_stage (n := n) (k := k) (i := 1) rfl (f.fresh f2 fun m hm => by
        rcases List.mem_cons.mp hm with z | z
        · rw [z]; exact r1
        · rw [List.mem_singleton.mp z]; exact r2) hD4 ndD hacc2 r1 r2 r3 r4 (r5.next f2 hK2 (r5.ok.come can (by show 0 ≤ 800; decide)))
    · obtain rfl : V.str ("forget " ++ sN 99) = v := Option.some.inj hi
      obtain ⟨kp, pl, r1, r2, r3, r4, r5⟩ := hst
      obtain ⟨dx, hdx⟩ := r5.d
      refine ⟨rfl, _, rfl, d4, dx, _, rfl, hdx, lk_dno _ (by decide +kernel), _, rfl, .inr ⟨d4, kp, pl, _, _, r5, done_say r5 (.forget 99 (by decide)) (by show 1 ≤ 800; decide) fun H2 f2 hD2 => ?_⟩⟩
      have hacc2 := f2.at (no2 r3.symm r4.symm) hacc
      exact close_stage (n := n) (k := k) (i := 2) rfl (f.fresh f2 fun m hm => by
        rcases List.mem_cons.mp hm with z | z
        · rw [z]; exact r1
        · rw [List.mem_singleton.mp z]; exact r2) hD4 ndD hacc2 r1 r2 r3 r4 hD2
    · obtain rfl : V.str ("web " ++ sN n ++ " " ++ sN k) = v := Option.some.inj hi
      obtain ⟨kp0, pl0, r1, r2, r3, r4, r5⟩ := hst
      obtain ⟨dx, hdx⟩ := r5.d
      refine ⟨rfl, _, rfl, d4, dx, _, rfl, hdx, lk_dno _ (by decide +kernel), _, rfl, .inl ⟨d4, dx, .ref kp0, n, k, congrArg (fun z => [V.ref d4, V.str z]) (web_row n k).symm, n1, n2, k1, k2, hdx, fun H2 kp pl f2 hkp hpl hne hd2 hK2 => ?_⟩⟩
      have hacc2 := f2.at (fun z => ndD (List.mem_singleton.mp z).symm) hacc
      obtain ⟨q1', q2', q3', q4', q5'⟩ := web_stage f hacc hD4 hdx f2 hkp hpl hd2 hacc2 hK2 (kok_new n1 n2 k1 k2)
      exact close_stage (n := n) (k := k) (i := 3) rfl (f.trans f2) hD4 ndD hacc2 q1' q2' q3' q4' q5'
  rintro H13 ⟨f13, hacc13, kp4, pl4, hkp4n, hpl4n, nk4, np4, hD13⟩
  refine ⟨by show 4 ≤ sizeLine; decide, fun a5 ha5 => ?_⟩
  generalize hH14 : upd H13 a5 _ = H14
  have sH : Same H13 H14 := by rw [← hH14]; exact same_new ha5
  have h5 : H14 a5 = some (.lst (sVs ansF)) := by rw [← hH14]; exact upd_same
  have smA : ∀ x ∈ ansF, Sm x := fun x hx => by
    rcases List.mem_cons.mp hx with z | hx
    · rw [z]; exact .lit (by decide +kernel)
    rcases List.mem_cons.mp hx with z | hx
    · rw [z]; exact .lit (by decide +kernel)
    rcases List.mem_cons.mp hx with z | hx
    · rw [z]; exact .lit (by decide +kernel)
    · rw [List.mem_singleton.mp hx]; exact .lit (by decide +kernel)
  refine ⟨.list (ansF.map PyData.str), .list (ansF.map PyData.str), .lst (SqL.of (sH _ _ hacc13)) (dp_strs ansF), .lst (SqL.of h5) (dp_strs ansF), shaped_strs smA, shaped_strs smA, _, rfl, iteFb (by rw [eqv_lst]; rfl) ?_⟩
  -- all desks but the third at H14
  have u4 := hD13.opens (fun z => z.2.2.2 rfl)
  have Z4all : ∀ z ∈ Z3, H12 z ≠ none := fun z hz => m1'.all z (List.mem_append.mpr (.inr hz))
  have d4Z : ∀ z ∈ Z3, z ≠ d4 := fun z hz e => by
    have z1 := l1'.all z hz
    rw [e] at z1
    exact z1 hd4
  have Z4all' : ∀ z ∈ Z3, H13 z ≠ none := fun z hz e => Z4all z hz (f13.dom e fun y => d4Z z hz (List.mem_singleton.mp y))
  have v4 : DkAt H13 CD C d4 kp4 pl4 (fun l => l ∉ [d4, kp4, pl4] ++ Z3) ⟨n, k, [], 0, []⟩ := u4.intro2 (H := H12) Z4all Z4all'
  have m13 : ∀ {d kp pl : Addr} {st : KS}, DkAt H12 CD C d kp pl (fun l => l ∉ [d4] ++ Z3) st → d ∈ Z3 → kp ∈ Z3 → pl ∈ Z3 → DkAt H13 CD C d kp pl (fun l => l ∉ [d4, kp4, pl4] ++ Z3) st := fun a h1 h2 h3 =>
    a.step f13 (fun z => d4Z _ h1 (List.mem_singleton.mp z)) (fun z => d4Z _ h2 (List.mem_singleton.mp z)) (fun z => d4Z _ h3 (List.mem_singleton.mp z)) (fun m hm => by rw [List.mem_singleton.mp hm]; exact .head _)
      (fun z hz => (List.mem_append.mp hz).elim (fun y => by rw [List.mem_singleton.mp y]; exact .head _) fun y => List.mem_append.mpr (.inr y))
      (fun z hz => (List.mem_append.mp hz).elim (fun y => by
        rcases List.mem_cons.mp y with e | y
        · rw [e]; exact .inl (.head _)
        rcases List.mem_cons.mp y with e | y
        · rw [e]; exact .inr hkp4n
        · rw [List.mem_singleton.mp y]; exact .inr hpl4n) fun y => .inl (List.mem_append.mpr (.inr y))) v4.all
  have m1d : d1 ∈ Z3 := by rw [← hZ3]; simp
  have m2d : d2 ∈ Z3 := by rw [← hZ3]; simp
  have v1 := m13 m1' m1d m1k m1p
  have v2 := m13 m2' m2d m2k m2p
  have nn4 : ∀ {a : Addr}, a ∈ Z3 → a ∉ [kp4, pl4] := fun ha => no2 (ne_there (Z4all _ ha) hkp4n) (ne_there (Z4all _ ha) hpl4n)
  have m4k : kp4 ∈ [d4, kp4, pl4] ++ Z3 := .tail _ (.head _)
  have m4p : pl4 ∈ [d4, kp4, pl4] ++ Z3 := .tail _ (.tail _ (.head _))
  have up5 : ∀ {a : Addr}, a ∈ Z3 → a ∈ [d4, kp4, pl4] ++ Z3 := fun ha => List.mem_append.mpr (.inr ha)
  have f0k4 : H kp4 = none := sE.free (sF.free (sG.free hkp4n))
  have f0p4 : H pl4 = none := sE.free (sF.free (sG.free hpl4n))
  have f0d4 : H d4 = none := sE.free hd4
  have nn1 : d4 ∉ [kp1, pl1] ∧ kp4 ∉ [kp1, pl1] ∧ pl4 ∉ [kp1, pl1] := ⟨no2 (d4Z _ m1k).symm (d4Z _ m1p).symm, no2 (ne_there (Z4all _ m1k) hkp4n).symm (ne_there (Z4all _ m1p) hkp4n).symm, no2 (ne_there (Z4all _ m1k) hpl4n).symm (ne_there (Z4all _ m1p) hpl4n).symm⟩
  have nn2 : d4 ∉ [kp2, pl2] ∧ kp4 ∉ [kp2, pl2] ∧ pl4 ∉ [kp2, pl2] := ⟨no2 (d4Z _ m2k).symm (d4Z _ m2p).symm, no2 (ne_there (Z4all _ m2k) hkp4n).symm (ne_there (Z4all _ m2p) hkp4n).symm, no2 (ne_there (Z4all _ m2k) hpl4n).symm (ne_there (Z4all _ m2p) hpl4n).symm⟩
  have sI : Same H H13 := Fr.new (sE.trans (sF.trans sG)) f13 fun m hm => by rw [List.mem_singleton.mp hm]; exact f0d4
  generalize hZ5 : [d4, kp4, pl4] ++ Z3 = Z5 at *
  have w4 := v4.same sH
  have w1 := v1.same sH
  have w2 := v2.same sH
  have sJ := sI.trans sH
  -- tie 7 0 n-1
  obtain ⟨dx, hdx⟩ := w4.d
  have en1 : ((n : Int) - 1) = ((n - 1 : Nat) : Int) := by omega
  have l7 : (Str.ofString (toString ((n : Int) - 1))).length ≤ 2 := by rw [en1]; exact sN_len2 (by omega)
  have ct7 : ("tie 7 0 " : Str).length = 8 := by decide +kernel
  refine ⟨_, rfl, d4, dx, _, rfl, hdx, lk_dno _ (by decide +kernel), _, rfl, _, _, rfl, rfl, _, rfl, by rw [en1]; exact sN_log (by omega), _, _, rfl, rfl, sl_of (m := 40) (by show ("tie 7 0 " : Str).length + (Str.ofString (toString ((n : Int) - 1))).length ≤ _; omega) (by decide), ?_⟩
  have can7 : CanCome ⟨n, k, [], 0, []⟩ ⟨7, 0, n - 1⟩ := ⟨⟨by show 0 < n; omega, by show n - 1 < n; omega, Nat.zero_le _, by show 7 ≤ 10 ^ 30; decide⟩, Nat.zero_le _, by show 0 + 1 ≤ 60; decide, fun y hy => nomatch hy⟩
  refine .inr ⟨d4, kp4, pl4, _, _, w4, .inl ⟨"tie", [7, 0, n - 1], congrArg (fun z => [V.ref d4, V.str z]) (tie7 n1), .inl ⟨⟨7, 0, n - 1⟩, rfl, rfl, can7, fun H15 ms f15 hgm hK15 => ?_⟩⟩⟩
  obtain ⟨⟨r, rfl⟩, _, hml, hmo⟩ := hgm
  have q4 := w4.next f15 hK15 (w4.ok.come can7 (by show 0 ≤ 800; decide))
  have q1' := w1.other f15 q4 (nn4 m1d) (nn4 m1k) (nn4 m1p) ⟨m4k, m4p⟩
  have q2' := w2.other f15 q4 (nn4 m2d) (nn4 m2k) (nn4 m2p) ⟨m4k, m4p⟩
  have fre4 : ∀ m ∈ [kp4, pl4], H m = none := fun m hm => by
    rcases List.mem_cons.mp hm with z | z
    · rw [z]; exact f0k4
    · rw [List.mem_singleton.mp z]; exact f0p4
  have fre1 : ∀ m ∈ [kp1, pl1], H m = none := fun m hm => by
    rcases List.mem_cons.mp hm with z | z
    · rw [z]; exact f0k1
    · rw [List.mem_singleton.mp z]; exact f0p1
  have fre2 : ∀ m ∈ [kp2, pl2], H m = none := fun m hm => by
    rcases List.mem_cons.mp hm with z | z
    · rw [z]; exact f0k2
    · rw [List.mem_singleton.mp z]; exact f0p2
  have sK : Same H H15 := Fr.new sJ f15 fre4
  have hlen2 : (movesT (⟨7, 0, 1⟩ :: r)).length ≤ 1000 := by
    have h1 := joinS_len ", " ((⟨7, 0, 1⟩ :: r : List Tie).map movT)
    have h2 : (((⟨7, 0, 1⟩ :: r : List Tie).map movT).map (·.length)).sum ≤ 40 * ((⟨7, 0, 1⟩ :: r : List Tie).map movT).length := sum_le fun y hy => by
      obtain ⟨z, hz, rfl⟩ := List.mem_map.mp hy
      obtain ⟨o1, o2, o3⟩ := hmo z hz
      exact movT_len o1 (by omega) (by omega)
    have h3 : (", " : Str).length = 2 := by decide +kernel
    rw [h3] at h1
    rw [List.length_map] at h1 h2
    show (Txt.join ", " ((⟨7, 0, 1⟩ :: r : List Tie).map movT)).length ≤ _
    have h4 : (⟨7, 0, 1⟩ :: r : List Tie).length ≤ 10 := hml
    omega
  refine ⟨⟨_, rfl⟩, _, _, rfl, rfl, by decide +kernel, sl_of (m := 1002) (by show (movesT (⟨7, 0, 1⟩ :: r)).length + 2 ≤ 1002; omega) (by decide), fun t7 ht7 => ?_⟩
  rw [movesT_cons, split_mov]
  have s16 := same_new (o := .lst (((⟨7, 0, 1⟩ :: r : List Tie).map movT).map V.str)) ht7
  refine ⟨t7, _, _, _, rfl, rfl, SqL.of upd_same, atI_nat (j := 0) rfl, rfl, _, rfl, iteFb (by rw [mov7]; exact congrArg (fun b => !b) (dT rfl)) ?_⟩
  -- back
  refine ⟨_, rfl, by show 1 ≤ sizeLine; decide, fun a6 ha6 => ?_⟩
  have s17 := s16.trans (same_new (o := .lst (sVs ["back"])) ha6)
  refine ⟨d4, kp4, pl4, a6, _, ["back"], _, _, rfl, upd_same, kp_not (q4.k.same s16) ha6, by show 1 ≤ 10; omega, q4.same s17, .cons (.back [] 0 [] rfl (by decide)) (by show 1 ≤ 800; decide) .nil, fun H18 f18 r4 => ?_⟩
  have r4' : DkAt H18 CD C d4 kp4 pl4 (fun l => l ∉ Z5) ⟨n, k, [], 0, []⟩ := r4
  have r1' := (q1'.same s17).other f18 r4' (nn4 m1d) (nn4 m1k) (nn4 m1p) ⟨m4k, m4p⟩
  have r2' := (q2'.same s17).other f18 r4' (nn4 m2d) (nn4 m2k) (nn4 m2p) ⟨m4k, m4p⟩
  have sL : Same H H18 := Fr.new (sK.trans s17) f18 fre4
  refine ⟨true, rfl, iteF ?_⟩
  -- lay, lay
  obtain ⟨dx1, hdx1⟩ := r1'.d
  refine ⟨_, rfl, _, rfl, d1, dx1, _, rfl, hdx1, lk_dno _ (by decide +kernel), .inr ⟨d1, kp1, pl1, _, _, r1', .inr (.inl ⟨rfl, fun H19 s19 => ?_⟩)⟩⟩
  refine ⟨_, _, rfl, rfl, sl_of (m := 1000) (by show ("lay " : Str).length + (netT n k (netA n k (sinceD t zs))).length ≤ _; omega) (by decide), ?_⟩
  refine ⟨_, rfl, _, _, rfl, rfl, sl_of (m := 1000) (by show ("lay " : Str).length + (netT n k (netA n k (sinceD t zs))).length ≤ _; omega) (by decide), by show 2 ≤ sizeLine; decide, fun a7 ha7 => ?_⟩
  have s20 := s19.trans (same_new (o := .lst (sVs ["lay " ++ netT n k (netA n k (sinceD t zs)), "lay " ++ netT n k (netA n k (sinceD t zs))])) ha7)
  have riD : Rise (netA n k (sinceD t zs)) := onD.up
  have lf4 : layT ⟨n, k, [], 0, []⟩ (netA n k (sinceD t zs)) = ⟨n, k, netA n k (sinceD t zs), 0, [([], 0)]⟩ := fourth_form riD onD.all (fits onD.ok)
  have can4 : CanLay (layT ⟨n, k, [], 0, []⟩ (netA n k (sinceD t zs))) (netA n k (sinceD t zs)) := by rw [lf4]; exact canD 0 _
  refine ⟨d4, kp4, pl4, a7, _, ["lay " ++ netT n k (netA n k (sinceD t zs)), "lay " ++ netT n k (netA n k (sinceD t zs))], _, _, rfl, upd_same, kp_not (r4'.k.same s19) ha7, by show 2 ≤ 10; omega, r4'.same s20, .cons (.lay _ (can0 [])) (by show 0 ≤ 800; decide) (.cons (.lay _ can4) (by show 1 ≤ 800; decide) .nil), fun H21 f21 t4 => ?_⟩
  rw [lf4, again_form] at t4
  have t1' := (r1'.same s20).other f21 t4 (nn4 m1d) (nn4 m1k) (nn4 m1p) ⟨m4k, m4p⟩
  have t2' := (r2'.same s20).other f21 t4 (nn4 m2d) (nn4 m2k) (nn4 m2p) ⟨m4k, m4p⟩
  have sM : Same H H21 := Fr.new (sL.trans s20) f21 fre4
  refine ⟨true, rfl, iteF ?_⟩
  -- the three nets
  obtain ⟨dx1, hdx1⟩ := t1'.d
  refine ⟨_, rfl, d1, dx1, _, rfl, hdx1, lk_dno _ (by decide +kernel), .inr ⟨d1, kp1, pl1, _, _, t1', .inr (.inl ⟨rfl, fun H22 s22 => ?_⟩)⟩⟩
  have t2b := t2'.same s22
  obtain ⟨dx2, hdx2⟩ := t2b.d
  refine ⟨_, rfl, d2, dx2, _, rfl, hdx2, lk_dno _ (by decide +kernel), .inr ⟨d2, kp2, pl2, _, _, t2b, .inr (.inl ⟨rfl, fun H23 s23 => ?_⟩)⟩⟩
  have t4b := t4.same (s22.trans s23)
  obtain ⟨dx4', hdx4'⟩ := t4b.d
  refine ⟨_, rfl, d4, dx4', _, rfl, hdx4', lk_dno _ (by decide +kernel), .inr ⟨d4, kp4, pl4, _, _, t4b, .inr (.inl ⟨rfl, fun H24 s24 => ?_⟩)⟩⟩
  refine ⟨by show 3 ≤ sizeLine; decide, fun a8 ha8 => ?_⟩
  refine ⟨_, rfl, _, rfl, _, rfl, by show 3 ≤ sizeLine; decide, fun a9 ha9 => ?_⟩
  have s25 := same_new (o := .lst (sVs [netT n k (netA n k (sinceD t zs)), netT n k (netA n k (sinceD t zs)), netT n k (netA n k (sinceD t zs))])) ha8
  have s26 := same_new (o := .lst (sVs [netT n k (netA n k (sinceD t zs)), netT n k (netA n k (sinceD t zs)), netT n k (netA n k (sinceD t zs))])) ha9
  have s27 := (s22.trans (s23.trans s24)).trans (s25.trans s26)
  have smD : ∀ x ∈ [netT n k (netA n k (sinceD t zs)), netT n k (netA n k (sinceD t zs)), netT n k (netA n k (sinceD t zs))], Sm x := fun x hx => by
    rcases List.mem_cons.mp hx with z | hx
    · rw [z]; exact sm_net _ _ _
    rcases List.mem_cons.mp hx with z | hx
    · rw [z]; exact sm_net _ _ _
    · rw [List.mem_singleton.mp hx]; exact sm_net _ _ _
  refine ⟨.list ([netT n k (netA n k (sinceD t zs)), netT n k (netA n k (sinceD t zs)), netT n k (netA n k (sinceD t zs))].map PyData.str), .list ([netT n k (netA n k (sinceD t zs)), netT n k (netA n k (sinceD t zs)), netT n k (netA n k (sinceD t zs))].map PyData.str), .lst (SqL.of (xs := sVs [netT n k (netA n k (sinceD t zs)), netT n k (netA n k (sinceD t zs)), netT n k (netA n k (sinceD t zs))]) (s26 _ _ upd_same)) (dp_strs [netT n k (netA n k (sinceD t zs)), netT n k (netA n k (sinceD t zs)), netT n k (netA n k (sinceD t zs))]), .lst (SqL.of (xs := sVs [netT n k (netA n k (sinceD t zs)), netT n k (netA n k (sinceD t zs)), netT n k (netA n k (sinceD t zs))]) upd_same) (dp_strs [netT n k (netA n k (sinceD t zs)), netT n k (netA n k (sinceD t zs)), netT n k (netA n k (sinceD t zs))]), shaped_strs smD, shaped_strs smD, _, rfl, iteFb (by rw [eqv_lst]; rfl) ?_⟩
  generalize hH27 : upd (upd H24 a8 _) a9 _ = H27
  have s27' : Same H21 H27 := by rw [← hH27]; exact (s22.trans (s23.trans s24)).trans ((same_new ha8).trans (same_new ha9))
  have sN' : Same H H27 := sM.trans s27'
  have p1 := t1'.same s27'
  have p2 := t2'.same s27'
  have p4 := t4.same s27'
  -- first: lay second's
  obtain ⟨dx2, hdx2⟩ := p2.d
  refine ⟨_, rfl, _, rfl, d2, dx2, _, rfl, hdx2, lk_dno _ (by decide +kernel), .inr ⟨d2, kp2, pl2, _, _, p2, .inr (.inl ⟨rfl, fun H28 s28 => ?_⟩)⟩⟩
  refine ⟨_, _, rfl, rfl, sl_of (m := 1000) (by show ("lay " : Str).length + (netT n k (netA n k (sinceD t zs))).length ≤ _; omega) (by decide), by show 1 ≤ sizeLine; decide, fun a10 ha10 => ?_⟩
  have s29 := s28.trans (same_new (o := .lst (sVs ["lay " ++ netT n k (netA n k (sinceD t zs))])) ha10)
  refine ⟨d1, kp1, pl1, a10, _, ["lay " ++ netT n k (netA n k (sinceD t zs))], _, _, rfl, upd_same, kp_not (p1.k.same s28) ha10, by show 1 ≤ 10; omega, p1.same s29, .cons (.lay _ (canD t _)) (by show P1.length + 1 ≤ 800; omega) .nil, fun H30 f30 o1 => ?_⟩
  rw [again_form] at o1
  have o2 := (p2.same s29).other f30 o1 ap21.1 ap21.2.1 ap21.2.2 ⟨up5 m1k, up5 m1p⟩
  have o4 := (p4.same s29).other f30 o1 nn1.1 nn1.2.1 nn1.2.2 ⟨up5 m1k, up5 m1p⟩
  have sO : Same H H30 := Fr.new (sN'.trans s29) f30 fre1
  refine ⟨true, rfl, iteF ?_⟩
  obtain ⟨dx1, hdx1⟩ := o1.d
  refine ⟨_, rfl, d1, dx1, _, rfl, hdx1, lk_dno _ (by decide +kernel), .inr ⟨d1, kp1, pl1, _, _, o1, .inr (.inl ⟨rfl, fun H31 s31 => ?_⟩)⟩⟩
  refine ⟨_, rfl, rfl, _, rfl, iteFb (congrArg (fun b => !b) (dT rfl)) ?_⟩
  have sP := sO.trans s31
  -- backs
  refine ⟨_, rfl, _, rfl, l, _, rfl, .inl (SqL.of (sP _ _ hl)), _, _, rfl, rfl, _, rfl, d1, kp1, pl1, _, ts.length + 2, ⟨n, k, netA n k (sinceD t zs), t, (netA n k (sinceD t zs), t) :: (netA n k zs, 0) :: P1⟩, congrArg (fun z => [V.ref d1, z, V.str (netT n k [])]) (show V.int ((us.length : Int) + 2) = nV (ts.length + 2) from congrArg V.int (by omega)), o1.same s31, by show P1.length + 1 + 1 = ts.length + 2; omega, by omega, ⟨t30, Nat.zero_le _, bot1⟩, fun H32 g1' f32 c1' => ?_⟩
  have c2' := (o2.same s31).other f32 c1' ap21.1 ap21.2.1 ap21.2.2 ⟨up5 m1k, up5 m1p⟩
  have c4' := (o4.same s31).other f32 c1' nn1.1 nn1.2.1 nn1.2.2 ⟨up5 m1k, up5 m1p⟩
  have sQ : Same H H32 := Fr.new sP f32 fre1
  refine ⟨true, rfl, iteF ?_⟩
  have hul2 := ht2.len
  refine ⟨_, rfl, _, rfl, l2, _, rfl, .inl (SqL.of (sQ _ _ hl2)), _, _, rfl, rfl, _, rfl, d2, kp2, pl2, _, ps.length + 2, ⟨n, k, netA n k (sinceD t zs), t, (netA n k zs, 0) :: (netA n k (srt ps), 0) :: P2⟩, congrArg (fun z => [V.ref d2, z, V.str (netT n k [])]) (show V.int ((us2.length : Int) + 2) = nV (ps.length + 2) from congrArg V.int (by omega)), c2', by show P2.length + 1 + 1 = ps.length + 2; omega, by omega, ⟨Nat.zero_le _, Nat.zero_le _, bot2⟩, fun H33 g2' f33 e2' => ?_⟩
  have e1' := c1'.other f33 e2' ap12.1 ap12.2.1 ap12.2.2 ⟨up5 m2k, up5 m2p⟩
  have e4' := c4'.other f33 e2' nn2.1 nn2.2.1 nn2.2.2 ⟨up5 m2k, up5 m2p⟩
  have sR : Same H H33 := Fr.new sQ f33 fre2
  refine ⟨true, rfl, iteF ?_⟩
  refine ⟨_, rfl, _, rfl, d4, kp4, pl4, _, 2, ⟨n, k, netA n k (sinceD t zs), 0, [(netA n k (sinceD t zs), 0), ([], 0)]⟩, rfl, e4', rfl, by decide, ⟨Nat.zero_le _, Nat.zero_le _, rfl⟩, fun H34 g4' f34 h4' => ?_⟩
  have h1' := e1'.other f34 h4' (nn4 m1d) (nn4 m1k) (nn4 m1p) ⟨m4k, m4p⟩
  have h2' := e2'.other f34 h4' (nn4 m2d) (nn4 m2k) (nn4 m2p) ⟨m4k, m4p⟩
  have sS : Same H H34 := Fr.new sR f34 fre4
  refine ⟨true, rfl, iteT ?_⟩
  refine ⟨_, rfl, _, rfl, _, rfl, by show 3 ≤ sizeLine; decide, fun a11 ha11 => ?_⟩
  have s35 := same_new (o := .lst [V.ref d1, V.ref d2, V.ref d4]) ha11
  refine ⟨a11, rfl, ⟨_, SqL.of upd_same⟩, fun D6 hD6 => lc_list (K := K) (a := a11) (xs := [V.ref d1, V.ref d2, V.ref d4]) (fun i H' => Same (upd H34 a11 (.lst [V.ref d1, V.ref d2, V.ref d4])) H' ∧ H' D6 = some (.lst ((List.replicate i true).map V.bl))) ?_ ?_ ?_ ?_⟩
  · exact ⟨same_new hD6, upd_same⟩
  · exact fun i H' _ ⟨sm, _⟩ => SqL.of (sm _ _ upd_same)
  · rintro i v H' hi ⟨sm, hacc⟩
    have i3 : i < 3 := (List.getElem?_eq_some_iff.mp hi).1
    have fin : ∀ {H2 : Hp}, Same H' H2 → ∃ acc, H2 D6 = some (.lst acc) ∧ acc.length < sizeLine ∧ Same (upd H34 a11 (.lst [V.ref d1, V.ref d2, V.ref d4])) (upd H2 D6 (.lst (acc ++ [.bl true]))) ∧ upd H2 D6 (.lst (acc ++ [.bl true])) D6 = some (.lst ((List.replicate (i + 1) true).map V.bl)) := fun s2 =>
      ⟨_, s2 _ _ hacc, small1000 (by rw [List.length_map, List.length_replicate]; omega), same_upd (sm.trans s2) hD6, by rw [rep_snoc]; exact upd_same⟩
    have i4 : i = 0 ∨ i = 1 ∨ i = 2 := by omega
    have sT := s35.trans sm
    rcases i4 with rfl | rfl | rfl
    · obtain rfl : V.ref d1 = v := Option.some.inj hi
      exact ⟨rfl, _, rfl, d1, kp1, pl1, _, _, rfl, h1'.same sT, rfl, fun H2 s2 => fin s2⟩
    · obtain rfl : V.ref d2 = v := Option.some.inj hi
      exact ⟨rfl, _, rfl, d2, kp2, pl2, _, _, rfl, h2'.same sT, rfl, fun H2 s2 => fin s2⟩
    · obtain rfl : V.ref d4 = v := Option.some.inj hi
      exact ⟨rfl, _, rfl, d4, kp4, pl4, _, _, rfl, h4'.same sT, rfl, fun H2 s2 => fin s2⟩
  rintro H36 ⟨s36, hacc36⟩
  refine ⟨D6, _, rfl, SqL.of hacc36, ?_⟩
  rw [all_bl]
  exact q H36 (sS.trans (s35.trans s36))
end
end SP
set_option maxRecDepth 100000
set_option maxHeartbeats 4000000
namespace SP
open PySem PySem.Spec PyProof.Rows L2 TL
def spLaw (K : PySem.W.Frag) : Sp := fun vs H Q _ => ∃ (a : Addr) (ns : List Int), vs = [.ref a] ∧ SqL K H a (iVs ns) ∧ ns.length ≤ sizeLine ∧ ∀ H', Q (.bl true) H'
section
variable {P : Program} {w : World} {K : PySem.W.Frag} {mg : Str → Option Value} {base : Heap} {f C CD : Addr} {fd : FuncData}
abbrev N_law : List Str := ["script", "cell", "pot", "n", "k", "ties", "part", "t", "tie"]
theorem sc_law : FnScope N_law ["script"] (defScope s_law) := ⟨rfl, rfl, rfl, by decide +kernel, rfl, by decide +kernel, by decide +kernel⟩
theorem ok_law (T : Txt K mg) (C__law_folded : Cal P w K mg base CX0 "_law_folded" 1 ["cells", "many"] (spFolded K)) (C__law_begun : Cal P w K mg base CX0 "_law_begun" 1 ["cell"] spBegun) (C__law_few_places : Cal P w K mg base CX0 "_law_few_places" 2 ["pot"] spFew)
    (C__law_take : Cal P w K mg base CX0 "_law_take" 1 ["pot", "size"] spTake) (C__law_some_ties : Cal P w K mg base CX0 "_law_some_ties" 3 ["pot", "n"] spSome) (C__law_right : Cal P w K mg base CX0 "_law_right" 13 ["n", "k", "ties", "part", "t"] (spRight CD C))
    (F : FunD K "law" "law" (defArgs s_law) (defBody s_law) (defScope s_law) [] [] f fd) : FnOk P w K mg base CX0 14 f fd ["script"] (spLaw K) := by
  refine F.ok sc_law (fun vs H Q E h => ?_) (fun cdv A outer s H vs Q E hr h => ?_)
  · obtain ⟨_, _, rfl, _⟩ := h
    rfl
  obtain ⟨a, ns, rfl, ha, hns, q⟩ := h
  refine ⟨_, PSs.nox (pss_cons (ps_for PassesOwn.never rfl (pi_list (pe_cal C__law_folded (hr.mono (by decide)) pass0 (pa_cons (pv 0) (pa_cons pe_int pa_nil)))) (pg_name (i := 1) sc_law.nd rfl (Or.inl rfl))
      (pss_cons (ps_set (i := 2) sc_law.nd rfl (Or.inr rfl) (pe_cal C__law_begun (hr.mono (by decide)) pass0 (pa_cons (pv 1) pa_nil)))
      (pss_cons (ps_set (i := 3) sc_law.nd rfl (Or.inl rfl) (pe_cal C__law_few_places (hr.mono (by decide)) pass0 (pa_cons (pv 2) pa_nil)))
      (pss_cons (ps_set (i := 4) sc_law.nd rfl (Or.inl rfl) (pe_op op_add pe_int (pe_cal C__law_take (hr.mono (by decide)) pass0 (pa_cons (pv 2) (pa_cons pe_int pa_nil)))))
      (pss_cons (ps_if (pt_cmpR op_eq (pe_cal C__law_take (hr.mono (by decide)) pass0 (pa_cons (pv 2) (pa_cons pe_int pa_nil))) pe_int (nomark _)) (pss_cons (ps_set (i := 3) sc_law.nd rfl (Or.inl rfl) (pe_op op_add pe_int (pe_cal C__law_take (hr.mono (by decide)) pass0 (pa_cons (pv 2) (pa_cons pe_int pa_nil)))))
      (pss_one (ps_set (i := 4) sc_law.nd rfl (Or.inl rfl) pe_int))) pss_nil)
      (pss_cons (ps_set (i := 5) sc_law.nd rfl (Or.inl rfl) (pe_cal C__law_some_ties (hr.mono (by decide)) pass0 (pa_cons (pv 2) (pa_cons (pv 3) pa_nil))))
      (pss_cons (ps_setLc (i := 6) (own := [("tie", 8)]) rfl sc_law.nd rfl rfl (sw_true rfl rfl rfl (by decide +kernel)) (pi_list (pv 5)) (blkOk_by (own := [("tie", 8)]) (N := N_law) (sc := defScope s_law) (by decide +kernel)) (fun _ _ _ _ _ => (pg_name (i := 8) sc_law.nd rfl (Or.inl rfl))) (fun _ _ _ _ _ => pts_one (pt_cmpR op_eq (pe_cal C__law_take (hr.mono (by decide)) pass0 (pa_cons (pv 2) (pa_cons pe_int pa_nil))) pe_int (nomark _))) (fun _ _ _ _ _ => (pv 8)))
      (pss_cons (ps_set (i := 7) sc_law.nd rfl (Or.inl rfl) (pe_cal C__law_take (hr.mono (by decide)) pass0 (pa_cons (pv 2) (pa_cons pe_int pa_nil))))
      (pss_one (ps_if (pt_not (pt_val (pe_cal C__law_right (hr.mono (by decide)) pass0 (pa_cons (pv 3) (pa_cons (pv 4) (pa_cons (pv 5) (pa_cons (pv 6) (pa_cons (pv 7) pa_nil)))))))) (pss_one (ps_ret pe_bl)) pss_nil))))))))))
      (pss_one (ps_ret pe_bl))), ?_⟩
  refine ⟨_, rfl, a, ns, rfl, ha, hns, fun H1 b ys s1 hbn hb hy1 hy3 => ?_⟩
  have hyl : (iVs ys).length = ys.length := by unfold iVs; rw [List.length_map]
  refine ⟨b, rfl, ⟨_, SqL.of hb⟩, for_list (K := K) (a := b) (xs := iVs ys) (fun i σ H' => (∃ v1 v2 v3 v4 v5 v6 v7 v8, σ = [some (.ref a), v1, v2, v3, v4, v5, v6, v7, v8]) ∧ Same H1 H') ?_ ?_ ?_ ?_⟩
  · exact ⟨⟨_, _, _, _, _, _, _, _, rfl⟩, Same.refl' _⟩
  · exact fun i σ H' _ ⟨_, sm⟩ => SqL.of (sm _ _ hb)
  · rintro i v σ H2 hi ⟨⟨v1, v2, v3, v4, v5, v6, v7, v8, rfl⟩, sm⟩
    have hv : ∃ c, v = V.int c := by
      unfold iVs at hi
      rw [List.getElem?_map] at hi
      cases e2 : ys[i]? with
      | none => rw [e2] at hi; cases hi
      | some c => rw [e2] at hi; exact ⟨c, (Option.some.inj hi).symm⟩
    obtain ⟨c, rfl⟩ := hv
    refine ⟨_, rfl, c, rfl, fun H3 p s3 hpn hp => ?_⟩
    have sA : Same H1 H3 := sm.trans s3
    have fp : ∀ m ∈ [p], H2 m = none := fun m hm => by rw [List.mem_singleton.mp hm]; exact hpn
    refine ⟨_, rfl, p, 0, rfl, by decide, hp, fun H4 n f4 hp4 n1 n5 => ?_⟩
    refine ⟨_, rfl, p, 1, 4, rfl, by decide, by decide, by decide, hp4, fun H5 k0 f5 hp5 hk0 => ⟨_, _, rfl, rfl, ?_⟩⟩
    refine ⟨_, rfl, p, 2, 4, rfl, by decide, by decide, by decide, hp5, fun H6 g f6 hp6 hg => ⟨rfl, _, rfl, ?_⟩⟩
    have s6 : Same H2 H6 := Fr.new s3 ((f4.trans f5).trans f6) fp
    have ek : (1 : Int) + (k0 : Int) = ((1 + k0 : Nat) : Int) := by omega
    refine ite2 (fun _ => ?_) (fun _ => ?_)
    · refine ⟨_, rfl, p, 3, 5, rfl, by decide, by decide, by decide, hp6, fun H7 d f7 hp7 hd => ⟨_, _, rfl, rfl, ?_⟩⟩
      have en : (6 : Int) + (d : Int) = ((6 + d : Nat) : Int) := by omega
      refine ⟨_, rfl, _, rfl, p, (6 + d), 4, congrArg (fun z => [V.ref p, V.int z]) en, (by omega), (by omega), by decide, hp7, fun H8 l ts f8 hln hl hp8 okt hndt hlt => ?_⟩
      obtain ⟨us, hl, ht⟩ := hl
      have hul := ht.len
      have pthere : H7 p ≠ none := by
        obtain ⟨_, _, _, e, _⟩ := hp7
        rw [e]
        simp
      have pthere8 : H8 p ≠ none := by
        obtain ⟨_, _, _, e, _⟩ := hp8
        rw [e]
        simp
      have nlp : l ∉ [p] := fun z => pthere (by rw [← List.mem_singleton.mp z]; exact hln)
      refine ⟨_, rfl, l, rfl, ⟨_, SqL.of hl⟩, fun D hD => lc_list (K := K) (a := l) (xs := us) (fun i H' => Fr [p] H8 H' ∧ PotAt H' p (4 + 200 + i) ∧ ∃ acc ps, H' D = some (.lst acc) ∧ TsAt H' acc ps ∧ ps.Sublist (ts.take i) ∧ acc.length ≤ i) ?_ ?_ ?_ ?_⟩
      · exact ⟨Fr.of (same_new hD), hp8.same (same_new hD), [], [], upd_same, .nil, List.nil_sublist _, Nat.le_refl _⟩
      · exact fun i H' _ ⟨f, _⟩ => SqL.of (f.at nlp hl)
      · rintro i v H' hi ⟨f, hpi, acc, ps, hacc, ta, hsub, hal⟩
        obtain ⟨r, x, rfl, hx, hr2⟩ := ht.get hi
        have hi2 : i < us.length := (List.getElem?_eq_some_iff.mp hi).1
        have nDp : D ∉ [p] := fun z => pthere8 (by rw [← List.mem_singleton.mp z]; exact hD)
        refine ⟨rfl, _, rfl, p, 4 + 200 + i, 2, rfl, by decide, by decide, by omega, hpi, fun H9 g9 f9 hp9 hg9 => ⟨rfl, _, rfl, ite2 (fun _ => ?_) (fun _ => ?_)⟩⟩
        · have hacc9 := f9.at nDp hacc
          refine ⟨_, rfl, acc, hacc9, small1000 (by omega), (f.trans f9).new_upd hD, ?_, acc ++ [.ref r], ps ++ [x], upd_same, ?_, ?_, by rw [List.length_append, List.length_singleton]; omega⟩
          · obtain ⟨a1, a2, a3, e1, e2⟩ := hp9
            exact ⟨a1, a2, a3, by rw [upd_ne (fun z => nDp (by rw [z]; exact .head _))]; exact e1, by omega⟩
          · refine ((ta.fr f9).put hacc9).app (.one ?_)
            rw [upd_ne (ne_of ((f.trans f9).tup hr2) hacc9 (by intro z; cases z))]
            exact (f.trans f9).tup hr2
          · rw [take_succ hx]
            exact List.Sublist.append hsub (List.Sublist.refl _)
        · refine ⟨f.trans f9, hp9.le (by omega), acc, ps, f9.at nDp hacc, ta.fr f9, ?_, by omega⟩
          rw [take_succ hx]
          exact hsub.trans (List.sublist_append_left _ _)
      rintro H9 ⟨f9, hp9, acc, ps, hacc, ta, hsub, _⟩
      rw [hul, List.take_length] at hsub
      rw [hul] at hp9
      have nDp : D ∉ [p] := fun z => pthere8 (by rw [← List.mem_singleton.mp z]; exact hD)
      refine ⟨_, rfl, p, 4 + 200 + ts.length, 30, rfl, by decide, by decide, by omega, hp9, fun H10 t f10 hp10 ht10 => ?_⟩
      refine ⟨_, rfl, _, rfl, _, rfl, _, rfl, _, rfl, (6 + d), 6, t, l, D, ts, ps, congrArg (fun z => [V.int z, nV 6, V.ref l, V.ref D, nV t]) en, (by omega), (by omega), (by decide), (by decide), by omega, ⟨us, f10.at nlp (f9.at nlp hl), (ht.fr f9).fr f10⟩, ⟨acc, f10.at nDp hacc, ta.fr f10⟩, okt, hndt, hlt, hsub, fun H12 s12 => ⟨true, rfl, iteF ?_⟩⟩
      exact ⟨⟨_, _, _, _, _, _, _, _, rfl⟩, sm.trans ((Fr.new s3 ((((((f4.trans f5).trans f6).trans f7).trans f8).trans f9).trans f10) fp).trans s12)⟩
    · skip
      refine ⟨_, rfl, _, rfl, p, n, 3, rfl, n1, (by omega), by decide, hp6, fun H8 l ts f8 hln hl hp8 okt hndt hlt => ?_⟩
      obtain ⟨us, hl, ht⟩ := hl
      have hul := ht.len
      have pthere : H6 p ≠ none := by
        obtain ⟨_, _, _, e, _⟩ := hp6
        rw [e]
        simp
      have pthere8 : H8 p ≠ none := by
        obtain ⟨_, _, _, e, _⟩ := hp8
        rw [e]
        simp
      have nlp : l ∉ [p] := fun z => pthere (by rw [← List.mem_singleton.mp z]; exact hln)
      refine ⟨_, rfl, l, rfl, ⟨_, SqL.of hl⟩, fun D hD => lc_list (K := K) (a := l) (xs := us) (fun i H' => Fr [p] H8 H' ∧ PotAt H' p (3 + 200 + i) ∧ ∃ acc ps, H' D = some (.lst acc) ∧ TsAt H' acc ps ∧ ps.Sublist (ts.take i) ∧ acc.length ≤ i) ?_ ?_ ?_ ?_⟩
      · exact ⟨Fr.of (same_new hD), hp8.same (same_new hD), [], [], upd_same, .nil, List.nil_sublist _, Nat.le_refl _⟩
      · exact fun i H' _ ⟨f, _⟩ => SqL.of (f.at nlp hl)
      · rintro i v H' hi ⟨f, hpi, acc, ps, hacc, ta, hsub, hal⟩
        obtain ⟨r, x, rfl, hx, hr2⟩ := ht.get hi
        have hi2 : i < us.length := (List.getElem?_eq_some_iff.mp hi).1
        have nDp : D ∉ [p] := fun z => pthere8 (by rw [← List.mem_singleton.mp z]; exact hD)
        refine ⟨rfl, _, rfl, p, 3 + 200 + i, 2, rfl, by decide, by decide, by omega, hpi, fun H9 g9 f9 hp9 hg9 => ⟨rfl, _, rfl, ite2 (fun _ => ?_) (fun _ => ?_)⟩⟩
        · have hacc9 := f9.at nDp hacc
          refine ⟨_, rfl, acc, hacc9, small1000 (by omega), (f.trans f9).new_upd hD, ?_, acc ++ [.ref r], ps ++ [x], upd_same, ?_, ?_, by rw [List.length_append, List.length_singleton]; omega⟩
          · obtain ⟨a1, a2, a3, e1, e2⟩ := hp9
            exact ⟨a1, a2, a3, by rw [upd_ne (fun z => nDp (by rw [z]; exact .head _))]; exact e1, by omega⟩
          · refine ((ta.fr f9).put hacc9).app (.one ?_)
            rw [upd_ne (ne_of ((f.trans f9).tup hr2) hacc9 (by intro z; cases z))]
            exact (f.trans f9).tup hr2
          · rw [take_succ hx]
            exact List.Sublist.append hsub (List.Sublist.refl _)
        · refine ⟨f.trans f9, hp9.le (by omega), acc, ps, f9.at nDp hacc, ta.fr f9, ?_, by omega⟩
          rw [take_succ hx]
          exact hsub.trans (List.sublist_append_left _ _)
      rintro H9 ⟨f9, hp9, acc, ps, hacc, ta, hsub, _⟩
      rw [hul, List.take_length] at hsub
      rw [hul] at hp9
      have nDp : D ∉ [p] := fun z => pthere8 (by rw [← List.mem_singleton.mp z]; exact hD)
      refine ⟨_, rfl, p, 3 + 200 + ts.length, 30, rfl, by decide, by decide, by omega, hp9, fun H10 t f10 hp10 ht10 => ?_⟩
      refine ⟨_, rfl, _, rfl, _, rfl, _, rfl, _, rfl, n, (1 + k0), t, l, D, ts, ps, congrArg (fun z => [nV n, V.int z, V.ref l, V.ref D, nV t]) ek, n1, (by omega), (by omega), (by omega), by omega, ⟨us, f10.at nlp (f9.at nlp hl), (ht.fr f9).fr f10⟩, ⟨acc, f10.at nDp hacc, ta.fr f10⟩, okt, hndt, hlt, hsub, fun H12 s12 => ⟨true, rfl, iteF ?_⟩⟩
      exact ⟨⟨_, _, _, _, _, _, _, _, rfl⟩, sm.trans ((Fr.new s3 (((((f4.trans f5).trans f6).trans f8).trans f9).trans f10) fp).trans s12)⟩
  · rintro σ H2 ⟨_, sm⟩
    exact q H2
end
end SP
set_option maxRecDepth 100000
set_option maxHeartbeats 8000000
namespace SP
open PySem PySem.Spec PyProof.Rows L2
theorem gi {mg : Str → Option Value} {x : Str} {i j : Int} (e : i = j) (h : ∃ t, mg x = some (.int i t)) : Glo mg x (.int j) := by
  subst e
  obtain ⟨t, q⟩ := h
  exact ⟨⟨_, q, t, rfl⟩⟩
theorem gs {mg : Str → Option Value} {x z : Str} (h : ∃ t, mg x = some (.str z t)) : Glo mg x (.str z) := by
  obtain ⟨t, q⟩ := h
  exact ⟨⟨_, q, t, rfl⟩⟩
def cW : List (Str × He.Dv) := [("web", .int 2), ("tie", .int 3), ("forget", .int 1), ("back", .int 0), ("net", .int 0)]
section
variable {P : Program} {w : World} {K : PySem.W.Frag} {h : Heap} {mg : Str → Option Value} {f : Addr}
theorem all_T (X : K.In h) (G : h.Ns mainGlobals mg) (c : He.SaysT fa fn ts w K) : Txt K mg where
  isinstance := He.free_ok X G (c.d.fact 55 (f := .free "isinstance") rfl)
  int := He.free_ok X G (c.d.fact 56 (f := .free "int") rfl)
  bool := He.free_ok X G (c.d.fact 57 (f := .free "bool") rfl)
  tuple := He.free_ok X G (c.d.fact 58 (f := .free "tuple") rfl)
  list := He.free_ok X G (c.d.fact 59 (f := .free "list") rfl)
  len := He.free_ok X G (c.d.fact 60 (f := .free "len") rfl)
  all := He.free_ok X G (c.d.fact 61 (f := .free "all") rfl)
  sorted := He.free_ok X G (c.d.fact 62 (f := .free "sorted") rfl)
  min := He.free_ok X G (c.d.fact 63 (f := .free "min") rfl)
  max := He.free_ok X G (c.d.fact 64 (f := .free "max") rfl)
  range := He.free_ok X G (c.d.fact 65 (f := .free "range") rfl)
  reversed := He.free_ok X G (c.d.fact 66 (f := .free "reversed") rfl)
  enumerate := He.free_ok X G (c.d.fact 67 (f := .free "enumerate") rfl)
  zip := He.free_ok X G (c.d.fact 68 (f := .free "zip") rfl)
  str := He.free_ok X G (c.d.fact 69 (f := .free "str") rfl)
  abs := He.free_ok X G (c.d.fact 70 (f := .free "abs") rfl)
  MOST_PLACES_records := gi (by decide) (He.int_ok X G (c.d.fact 71 (f := .int "MOST_PLACES_records" 10) rfl))
  MOST_TIES := gi (by decide) (He.int_ok X G (c.d.fact 72 (f := .int "MOST_TIES" 60) rfl))
  LAST_MOMENT := gi (by decide) (He.int_ok X G (c.d.fact 73 (f := .int "LAST_MOMENT" 1000000000000000000000000000000) rfl))
  MOST_LAYERS_layers := gi (by decide) (He.int_ok X G (c.d.fact 74 (f := .int "MOST_LAYERS_layers" 6) rfl))
  MOST_PLACES_nets := gi (by decide) (He.int_ok X G (c.d.fact 75 (f := .int "MOST_PLACES_nets" 10) rfl))
  MOST_LAYERS_nets := gi (by decide) (He.int_ok X G (c.d.fact 76 (f := .int "MOST_LAYERS_nets" 6) rfl))
  LAST := gi (by decide) (He.int_ok X G (c.d.fact 77 (f := .int "LAST" 1000000000000000000000000000000) rfl))
  MOST_FIGURES_texts := gi (by decide) (He.int_ok X G (c.d.fact 78 (f := .int "MOST_FIGURES_texts" 60) rfl))
  MOST_FIGURES_desk := gi (by decide) (He.int_ok X G (c.d.fact 79 (f := .int "MOST_FIGURES_desk" 60) rfl))
  FIGURES_texts := gs (He.str_ok X G (c.d.fact 80 (f := .str "FIGURES_texts" "0123456789") rfl))
  NOTHING := gs (He.str_ok X G (c.d.fact 81 (f := .str "NOTHING" "none") rfl))
  FIGURES_desk := gs (He.str_ok X G (c.d.fact 82 (f := .str "FIGURES_desk" "0123456789") rfl))
theorem all_KT (X : K.In h) (G : h.Ns mainGlobals mg) (c : He.SaysT fa fn ts w K) : KTxt K mg (He.ga K "Keeper") := ⟨He.cls_ok (c.d.fact 87 (f := .cls "Keeper") rfl), He.noat_ok (c.d.fact 91 (f := .noat "Keeper" "kept") rfl), He.noat_ok (c.d.fact 92 (f := .noat "Keeper" "first") rfl), He.noat_ok (c.d.fact 93 (f := .noat "Keeper" "past") rfl), He.glo_ok X G (c.d.fact 83 (f := .glo "Keeper") rfl)⟩
theorem all_DT (X : K.In h) (G : h.Ns mainGlobals mg) (c : He.SaysT fa fn ts w K) : DTxt K mg (He.ga K "Desk") := ⟨He.cls_ok (c.d.fact 88 (f := .cls "Desk") rfl), He.noat_ok (c.d.fact 94 (f := .noat "Desk" "keeper") rfl), He.glo_ok X G (c.d.fact 84 (f := .glo "Desk") rfl)⟩
theorem all_NT (X : K.In h) (G : h.Ns mainGlobals mg) (c : He.SaysT fa fn ts w K) : NTxt K mg (He.ga K "NoDeed") := by
  obtain ⟨h1, h2, h3, h4⟩ := He.exc_ok (c.d.fact 107 (f := .exc "NoDeed") rfl)
  exact ⟨He.glo_ok X G (c.d.fact 85 (f := .glo "NoDeed") rfl), h1, h2, h3, h4, He.exm_ok (c.d.fact 106 (f := .exm "NoDeed" "NoDeed" true) rfl)⟩
theorem all_CT (X : K.In h) (G : h.Ns mainGlobals mg) (c : He.SaysT fa fn ts w K) (cv : He.valsB K (He.ga K "COUNTS") cW = true) : CTxt K w mg (He.ga K "COUNTS") := by
  refine ⟨⟨⟨_, He.glo_ok X G (c.d.fact 86 (f := .glo "COUNTS") rfl), rfl⟩⟩, c.tab 0, fun q hq => ?_⟩
  rcases List.mem_cons.mp hq with e | hq
  · rw [e]; exact He.valsB_ok cv (q := ("web", .int 2)) (.head _)
  rcases List.mem_cons.mp hq with e | hq
  · rw [e]; exact He.valsB_ok cv (q := ("tie", .int 3)) (.tail _ (.head _))
  rcases List.mem_cons.mp hq with e | hq
  · rw [e]; exact He.valsB_ok cv (q := ("forget", .int 1)) (.tail _ (.tail _ (.head _)))
  rcases List.mem_cons.mp hq with e | hq
  · rw [e]; exact He.valsB_ok cv (q := ("back", .int 0)) (.tail _ (.tail _ (.tail _ (.head _))))
  · rw [List.mem_singleton.mp hq]; exact He.valsB_ok cv (q := ("net", .int 0)) (.tail _ (.tail _ (.tail _ (.tail _ (.head _)))))
theorem facts (X : K.In h) (G : h.Ns mainGlobals mg) (hfa : mg ("law" : Str) = some (.ref f)) (c : He.SaysT fa fn ts w K) (cv : He.valsB K (He.ga K "COUNTS") cW = true) :
    ∃ fd : FuncData, (∀ (s : Shared) (v : Value), BindsTo s fd ⟨[v], []⟩ [("script", v)]) ∧ ∀ base : Heap, K.In base → base.Ns mainGlobals mg → FnOk P w K mg base CX0 14 f fd ["script"] (spLaw K) := by
  have T := all_T X G c
  have KT := all_KT X G c
  have DT := all_DT X G c
  have NT := all_NT X G c
  have CT := all_CT X G c cv
  obtain ⟨fd_is_whole, F_is_whole⟩ := c.d.def_ 0 (d := d_is_whole) rfl
  obtain ⟨fd_since, F_since⟩ := c.d.def_ 8 (d := d_since) rfl
  obtain ⟨fd_joined, F_joined⟩ := c.d.def_ 9 (d := d_joined) rfl
  obtain ⟨fd_layer_for, F_layer_for⟩ := c.d.def_ 12 (d := d_layer_for) rfl
  obtain ⟨fd_is_count, F_is_count⟩ := c.d.def_ 14 (d := d_is_count) rfl
  obtain ⟨fd_look_for_clash, F_look_for_clash⟩ := c.d.def_ 19 (d := d_look_for_clash) rfl
  obtain ⟨fd_come_to, F_come_to⟩ := c.d.def_ 23 (d := d_come_to) rfl
  obtain ⟨fd_is_moment_keeper, F_is_moment_keeper⟩ := c.d.def_ 26 (d := d_is_moment_keeper) rfl
  obtain ⟨fd_Keeper_turn, F_Keeper_turn⟩ := c.d.def_ 28 (d := d_Keeper_turn) rfl
  obtain ⟨fd_Keeper_back, F_Keeper_back⟩ := c.d.def_ 32 (d := d_Keeper_back) rfl
  obtain ⟨fd_Keeper_net, F_Keeper_net⟩ := c.d.def_ 33 (d := d_Keeper_net) rfl
  obtain ⟨fd_tie_text, F_tie_text⟩ := c.d.def_ 34 (d := d_tie_text) rfl
  obtain ⟨fd_number_in_texts, F_number_in_texts⟩ := c.d.def_ 37 (d := d_number_in_texts) rfl
  obtain ⟨fd_number_in_desk, F_number_in_desk⟩ := c.d.def_ 41 (d := d_number_in_desk) rfl
  obtain ⟨fd_words_of, F_words_of⟩ := c.d.def_ 42 (d := d_words_of) rfl
  obtain ⟨fd_places_shown, F_places_shown⟩ := c.d.def_ 44 (d := d_places_shown) rfl
  obtain ⟨fd_DeskInit, F_DeskInit⟩ := c.d.def_ 46 (d := d_DeskInit) rfl
  obtain ⟨fd_Desk_look_for_keeper, F_Desk_look_for_keeper⟩ := c.d.def_ 48 (d := d_Desk_look_for_keeper) rfl
  obtain ⟨fd__law_folded, F__law_folded⟩ := c.d.def_ 52 (d := d__law_folded) rfl
  obtain ⟨fd__law_begun, F__law_begun⟩ := c.d.def_ 53 (d := d__law_begun) rfl
  obtain ⟨fd__law_take, F__law_take⟩ := c.d.def_ 54 (d := d__law_take) rfl
  obtain ⟨fd__law_layers_of, F__law_layers_of⟩ := c.d.def_ 56 (d := d__law_layers_of) rfl
  obtain ⟨fd__law_since, F__law_since⟩ := c.d.def_ 58 (d := d__law_since) rfl
  obtain ⟨fd__law_text, F__law_text⟩ := c.d.def_ 61 (d := d__law_text) rfl
  obtain ⟨fd_is_many, F_is_many⟩ := c.d.def_ 1 (d := d_is_many) rfl
  obtain ⟨fd_is_place_records, F_is_place_records⟩ := c.d.def_ 2 (d := d_is_place_records) rfl
  obtain ⟨fd_is_moment_records, F_is_moment_records⟩ := c.d.def_ 3 (d := d_is_moment_records) rfl
  obtain ⟨fd_is_depth, F_is_depth⟩ := c.d.def_ 10 (d := d_is_depth) rfl
  obtain ⟨fd_ring_with, F_ring_with⟩ := c.d.def_ 24 (d := d_ring_with) rfl
  obtain ⟨fd_record_text, F_record_text⟩ := c.d.def_ 35 (d := d_record_text) rfl
  obtain ⟨fd_tie_in, F_tie_in⟩ := c.d.def_ 38 (d := d_tie_in) rfl
  obtain ⟨fd_numbers_of, F_numbers_of⟩ := c.d.def_ 43 (d := d_numbers_of) rfl
  obtain ⟨fd_moves_shown, F_moves_shown⟩ := c.d.def_ 45 (d := d_moves_shown) rfl
  obtain ⟨fd__law_wide, F__law_wide⟩ := c.d.def_ 55 (d := d__law_wide) rfl
  obtain ⟨fd__law_net_of, F__law_net_of⟩ := c.d.def_ 57 (d := d__law_net_of) rfl
  obtain ⟨fd__law_few_places, F__law_few_places⟩ := c.d.def_ 59 (d := d__law_few_places) rfl
  obtain ⟨fd_is_meeting, F_is_meeting⟩ := c.d.def_ 4 (d := d_is_meeting) rfl
  obtain ⟨fd_look_at_layers, F_look_at_layers⟩ := c.d.def_ 11 (d := d_look_at_layers) rfl
  obtain ⟨fd__law_some_ties, F__law_some_ties⟩ := c.d.def_ 60 (d := d__law_some_ties) rfl
  obtain ⟨fd_is_tie, F_is_tie⟩ := c.d.def_ 5 (d := d_is_tie) rfl
  obtain ⟨fd_record_of, F_record_of⟩ := c.d.def_ 6 (d := d_record_of) rfl
  obtain ⟨fd_layered, F_layered⟩ := c.d.def_ 13 (d := d_layered) rfl
  obtain ⟨fd_is_record, F_is_record⟩ := c.d.def_ 7 (d := d_is_record) rfl
  obtain ⟨fd_net_of, F_net_of⟩ := c.d.def_ 17 (d := d_net_of) rfl
  obtain ⟨fd_KeeperInit, F_KeeperInit⟩ := c.d.def_ 27 (d := d_KeeperInit) rfl
  obtain ⟨fd_is_net, F_is_net⟩ := c.d.def_ 15 (d := d_is_net) rfl
  obtain ⟨fd_with_ties, F_with_ties⟩ := c.d.def_ 20 (d := d_with_ties) rfl
  obtain ⟨fd_moves, F_moves⟩ := c.d.def_ 25 (d := d_moves) rfl
  obtain ⟨fd_read_record, F_read_record⟩ := c.d.def_ 39 (d := d_read_record) rfl
  obtain ⟨fd_look_at_net_nets, F_look_at_net_nets⟩ := c.d.def_ 16 (d := d_look_at_net_nets) rfl
  obtain ⟨fd_net_text, F_net_text⟩ := c.d.def_ 36 (d := d_net_text) rfl
  obtain ⟨fd_read_net, F_read_net⟩ := c.d.def_ 40 (d := d_read_net) rfl
  obtain ⟨fd_net_since, F_net_since⟩ := c.d.def_ 18 (d := d_net_since) rfl
  obtain ⟨fd_laid, F_laid⟩ := c.d.def_ 21 (d := d_laid) rfl
  obtain ⟨fd_net_come, F_net_come⟩ := c.d.def_ 22 (d := d_net_come) rfl
  obtain ⟨fd_Desk_answered, F_Desk_answered⟩ := c.d.def_ 51 (d := d_Desk_answered) rfl
  obtain ⟨fd_Keeper_come, F_Keeper_come⟩ := c.d.def_ 29 (d := d_Keeper_come) rfl
  obtain ⟨fd_Keeper_forget, F_Keeper_forget⟩ := c.d.def_ 30 (d := d_Keeper_forget) rfl
  obtain ⟨fd_Keeper_lay, F_Keeper_lay⟩ := c.d.def_ 31 (d := d_Keeper_lay) rfl
  obtain ⟨fd_Desk_laid_on, F_Desk_laid_on⟩ := c.d.def_ 49 (d := d_Desk_laid_on) rfl
  obtain ⟨fd_Desk_deed_told, F_Desk_deed_told⟩ := c.d.def_ 50 (d := d_Desk_deed_told) rfl
  obtain ⟨fd_Desk_say, F_Desk_say⟩ := c.d.def_ 47 (d := d_Desk_say) rfl
  obtain ⟨fd__law_told, F__law_told⟩ := c.d.def_ 62 (d := d__law_told) rfl
  obtain ⟨fd__law_done, F__law_done⟩ := c.d.def_ 63 (d := d__law_done) rfl
  obtain ⟨fd__law_back_to_none, F__law_back_to_none⟩ := c.d.def_ 64 (d := d__law_back_to_none) rfl
  obtain ⟨fd__law_no_deed, F__law_no_deed⟩ := c.d.def_ 65 (d := d__law_no_deed) rfl
  obtain ⟨fd__law_right, F__law_right⟩ := c.d.def_ 66 (d := d__law_right) rfl
  obtain ⟨fd_law, F_law⟩ := c.d.def_ 67 (d := d_law) rfl
  have e := hfa.symm.trans (He.glo_ok X G (c.d.fact 54 (f := .glo "law") rfl))
  cases e
  have b := FunD.bindsA (ps := ["script"]) F_law fun _ _ _ _ _ _ us hl => match us, hl with | [_], _ => rfl
  refine ⟨fd_law, fun s v => b s [v] rfl, fun base _ _ => ?_⟩
  have C_is_whole : Cal P w K mg base CX0 "is_whole" 1 ["thing"] spWhole := ⟨⟨_, _, ok_is_whole T F_is_whole, He.glo_ok X G (c.d.fact 0 (f := .glo "is_whole") rfl), F_is_whole.kp, F_is_whole.bindsN fun _ _ _ _ _ _ us hl => match us, hl with | [_], _ => rfl⟩⟩
  have C_since : Cal P w K mg base CX0 "since" 1 ["record", "t"] spSince := ⟨⟨_, _, ok_since T F_since, He.glo_ok X G (c.d.fact 8 (f := .glo "since") rfl), F_since.kp, F_since.bindsN fun _ _ _ _ _ _ us hl => match us, hl with | [_, _], _ => rfl⟩⟩
  have C_joined : Cal P w K mg base CX0 "joined" 1 ["marks", "a", "b"] spRow := ⟨⟨_, _, ok_joined T F_joined, He.glo_ok X G (c.d.fact 9 (f := .glo "joined") rfl), F_joined.kp, F_joined.bindsN fun _ _ _ _ _ _ us hl => match us, hl with | [_, _, _], _ => rfl⟩⟩
  have C_layer_for : Cal P w K mg base CX0 "layer_for" 1 ["marks", "a", "b"] spLayerFor := ⟨⟨_, _, ok_layer_for T F_layer_for, He.glo_ok X G (c.d.fact 12 (f := .glo "layer_for") rfl), F_layer_for.kp, F_layer_for.bindsN fun _ _ _ _ _ _ us hl => match us, hl with | [_, _, _], _ => rfl⟩⟩
  have C_is_count : Cal P w K mg base CX0 "is_count" 1 ["thing", "most"] spCount := ⟨⟨_, _, ok_is_count T F_is_count, He.glo_ok X G (c.d.fact 14 (f := .glo "is_count") rfl), F_is_count.kp, F_is_count.bindsN fun _ _ _ _ _ _ us hl => match us, hl with | [_, _], _ => rfl⟩⟩
  have C_look_for_clash : Cal P w K mg base CX0 "look_for_clash" 1 ["ties", "others"] spClash := ⟨⟨_, _, ok_look_for_clash T F_look_for_clash, He.glo_ok X G (c.d.fact 19 (f := .glo "look_for_clash") rfl), F_look_for_clash.kp, F_look_for_clash.bindsN fun _ _ _ _ _ _ us hl => match us, hl with | [_, _], _ => rfl⟩⟩
  have C_come_to : Cal P w K mg base CX0 "come_to" 1 ["ties", "place"] spComeTo := ⟨⟨_, _, ok_come_to T F_come_to, He.glo_ok X G (c.d.fact 23 (f := .glo "come_to") rfl), F_come_to.kp, F_come_to.bindsN fun _ _ _ _ _ _ us hl => match us, hl with | [_, _], _ => rfl⟩⟩
  have C_is_moment_keeper : Cal P w K mg base CX0 "is_moment_keeper" 1 ["thing"] spMoment := ⟨⟨_, _, ok_is_moment_keeper T F_is_moment_keeper, He.glo_ok X G (c.d.fact 26 (f := .glo "is_moment_keeper") rfl), F_is_moment_keeper.kp, F_is_moment_keeper.bindsN fun _ _ _ _ _ _ us hl => match us, hl with | [_], _ => rfl⟩⟩
  have M_turn : CalM P w K mg base CX0 (He.ga K "Keeper") "turn" 1 ["self", "kept", "first"] (spTurn (He.ga K "Keeper")) := ⟨⟨_, _, ok_Keeper_turn T KT F_Keeper_turn, He.meth_ok (c.d.fact 95 (f := .meth "Keeper" "turn") rfl), F_Keeper_turn.bindsN fun _ _ _ _ _ _ us hl => match us, hl with | [_, _, _], _ => rfl⟩⟩
  have M_back : CalM P w K mg base (L2.CX P w) (He.ga K "Keeper") "back" 1 ["self"] (spBack (He.ga K "Keeper") (He.ga K "NoDeed")) := ⟨⟨_, _, ok_Keeper_back T KT NT F_Keeper_back, He.meth_ok (c.d.fact 99 (f := .meth "Keeper" "back") rfl), F_Keeper_back.bindsN fun _ _ _ _ _ _ us hl => match us, hl with | [_], _ => rfl⟩⟩
  have M_net : CalM P w K mg base CX0 (He.ga K "Keeper") "net" 1 ["self"] (spNet (He.ga K "Keeper")) := ⟨⟨_, _, ok_Keeper_net T KT F_Keeper_net, He.meth_ok (c.d.fact 100 (f := .meth "Keeper" "net") rfl), F_Keeper_net.bindsN fun _ _ _ _ _ _ us hl => match us, hl with | [_], _ => rfl⟩⟩
  have C_tie_text : Cal P w K mg base CX0 "tie_text" 1 ["tie"] spTieText := ⟨⟨_, _, ok_tie_text T F_tie_text, He.glo_ok X G (c.d.fact 27 (f := .glo "tie_text") rfl), F_tie_text.kp, F_tie_text.bindsN fun _ _ _ _ _ _ us hl => match us, hl with | [_], _ => rfl⟩⟩
  have C_number_in_texts : Cal P w K mg base CX0 "number_in_texts" 1 ["text"] spNumIn := ⟨⟨_, _, ok_number_in_texts T F_number_in_texts, He.glo_ok X G (c.d.fact 30 (f := .glo "number_in_texts") rfl), F_number_in_texts.kp, F_number_in_texts.bindsN fun _ _ _ _ _ _ us hl => match us, hl with | [_], _ => rfl⟩⟩
  have C_number_in_desk : Cal P w K mg base CX0 "number_in_desk" 1 ["word"] spNumIn := ⟨⟨_, _, ok_number_in_desk T F_number_in_desk, He.glo_ok X G (c.d.fact 34 (f := .glo "number_in_desk") rfl), F_number_in_desk.kp, F_number_in_desk.bindsN fun _ _ _ _ _ _ us hl => match us, hl with | [_], _ => rfl⟩⟩
  have C_words_of : Cal P w K mg base CX0 "words_of" 1 ["row"] spWords := ⟨⟨_, _, ok_words_of T F_words_of, He.glo_ok X G (c.d.fact 35 (f := .glo "words_of") rfl), F_words_of.kp, F_words_of.bindsN fun _ _ _ _ _ _ us hl => match us, hl with | [_], _ => rfl⟩⟩
  have C_places_shown : Cal P w K mg base CX0 "places_shown" 1 ["places"] spPlaces := ⟨⟨_, _, ok_places_shown T F_places_shown, He.glo_ok X G (c.d.fact 37 (f := .glo "places_shown") rfl), F_places_shown.kp, F_places_shown.bindsN fun _ _ _ _ _ _ us hl => match us, hl with | [_], _ => rfl⟩⟩
  have I_Desk : CalI P w K mg base CX0 (He.ga K "Desk") 1 ["self"] (spDInit (He.ga K "Desk")) := ⟨⟨_, _, ok_DeskInit T DT F_DeskInit, He.mkr_ok (c.d.fact 90 (f := .mkr "Desk") rfl), F_DeskInit.bindsN fun _ _ _ _ _ _ us hl => match us, hl with | [_], _ => rfl⟩⟩
  have M_look : CalM P w K mg base CX0 (He.ga K "Desk") "look_for_keeper" 1 ["self"] (spLook (He.ga K "Desk")) := ⟨⟨_, _, ok_Desk_look_for_keeper T DT F_Desk_look_for_keeper, He.meth_ok (c.d.fact 102 (f := .meth "Desk" "look_for_keeper") rfl), F_Desk_look_for_keeper.bindsN fun _ _ _ _ _ _ us hl => match us, hl with | [_], _ => rfl⟩⟩
  have C__law_folded : Cal P w K mg base CX0 "_law_folded" 1 ["cells", "many"] (spFolded K) := ⟨⟨_, _, ok__law_folded T F__law_folded, He.glo_ok X G (c.d.fact 39 (f := .glo "_law_folded") rfl), F__law_folded.kp, F__law_folded.bindsN fun _ _ _ _ _ _ us hl => match us, hl with | [_, _], _ => rfl⟩⟩
  have C__law_begun : Cal P w K mg base CX0 "_law_begun" 1 ["cell"] spBegun := ⟨⟨_, _, ok__law_begun T F__law_begun, He.glo_ok X G (c.d.fact 40 (f := .glo "_law_begun") rfl), F__law_begun.kp, F__law_begun.bindsN fun _ _ _ _ _ _ us hl => match us, hl with | [_], _ => rfl⟩⟩
  have C__law_take : Cal P w K mg base CX0 "_law_take" 1 ["pot", "size"] spTake := ⟨⟨_, _, ok__law_take T F__law_take, He.glo_ok X G (c.d.fact 41 (f := .glo "_law_take") rfl), F__law_take.kp, F__law_take.bindsN fun _ _ _ _ _ _ us hl => match us, hl with | [_, _], _ => rfl⟩⟩
  have C__law_layers_of : Cal P w K mg base CX0 "_law_layers_of" 1 ["n", "ties", "k"] spLLayers := ⟨⟨_, _, ok__law_layers_of T F__law_layers_of, He.glo_ok X G (c.d.fact 43 (f := .glo "_law_layers_of") rfl), F__law_layers_of.kp, F__law_layers_of.bindsN fun _ _ _ _ _ _ us hl => match us, hl with | [_, _, _], _ => rfl⟩⟩
  have C__law_since : Cal P w K mg base CX0 "_law_since" 1 ["ties", "t"] spSince := ⟨⟨_, _, ok__law_since T F__law_since, He.glo_ok X G (c.d.fact 45 (f := .glo "_law_since") rfl), F__law_since.kp, F__law_since.bindsN fun _ _ _ _ _ _ us hl => match us, hl with | [_, _], _ => rfl⟩⟩
  have C__law_text : Cal P w K mg base CX0 "_law_text" 1 ["net"] spLText := ⟨⟨_, _, ok__law_text T F__law_text, He.glo_ok X G (c.d.fact 48 (f := .glo "_law_text") rfl), F__law_text.kp, F__law_text.bindsN fun _ _ _ _ _ _ us hl => match us, hl with | [_], _ => rfl⟩⟩
  have C_is_many : Cal P w K mg base CX0 "is_many" 2 ["thing"] spMany := ⟨⟨_, _, ok_is_many T C_is_whole F_is_many, He.glo_ok X G (c.d.fact 1 (f := .glo "is_many") rfl), F_is_many.kp, F_is_many.bindsN fun _ _ _ _ _ _ us hl => match us, hl with | [_], _ => rfl⟩⟩
  have C_is_place_records : Cal P w K mg base CX0 "is_place_records" 2 ["n", "thing"] spPlace := ⟨⟨_, _, ok_is_place_records T C_is_whole F_is_place_records, He.glo_ok X G (c.d.fact 2 (f := .glo "is_place_records") rfl), F_is_place_records.kp, F_is_place_records.bindsN fun _ _ _ _ _ _ us hl => match us, hl with | [_, _], _ => rfl⟩⟩
  have C_is_moment_records : Cal P w K mg base CX0 "is_moment_records" 2 ["thing"] spMoment := ⟨⟨_, _, ok_is_moment_records T C_is_whole F_is_moment_records, He.glo_ok X G (c.d.fact 3 (f := .glo "is_moment_records") rfl), F_is_moment_records.kp, F_is_moment_records.bindsN fun _ _ _ _ _ _ us hl => match us, hl with | [_], _ => rfl⟩⟩
  have C_is_depth : Cal P w K mg base CX0 "is_depth" 2 ["thing"] spDepth := ⟨⟨_, _, ok_is_depth T C_is_whole F_is_depth, He.glo_ok X G (c.d.fact 10 (f := .glo "is_depth") rfl), F_is_depth.kp, F_is_depth.bindsN fun _ _ _ _ _ _ us hl => match us, hl with | [_], _ => rfl⟩⟩
  have C_ring_with : Cal P w K mg base CX0 "ring_with" 2 ["ties", "tie"] spRing := ⟨⟨_, _, ok_ring_with T C_come_to F_ring_with, He.glo_ok X G (c.d.fact 24 (f := .glo "ring_with") rfl), F_ring_with.kp, F_ring_with.bindsN fun _ _ _ _ _ _ us hl => match us, hl with | [_, _], _ => rfl⟩⟩
  have C_record_text : Cal P w K mg base CX0 "record_text" 2 ["record"] spRecText := ⟨⟨_, _, ok_record_text T C_tie_text F_record_text, He.glo_ok X G (c.d.fact 28 (f := .glo "record_text") rfl), F_record_text.kp, F_record_text.bindsN fun _ _ _ _ _ _ us hl => match us, hl with | [_], _ => rfl⟩⟩
  have C_tie_in : Cal P w K mg base CX0 "tie_in" 2 ["text"] spTieIn := ⟨⟨_, _, ok_tie_in T C_number_in_texts F_tie_in, He.glo_ok X G (c.d.fact 31 (f := .glo "tie_in") rfl), F_tie_in.kp, F_tie_in.bindsN fun _ _ _ _ _ _ us hl => match us, hl with | [_], _ => rfl⟩⟩
  have C_numbers_of : Cal P w K mg base CX0 "numbers_of" 2 ["words"] (spNumsOf K (He.ga K "COUNTS")) := ⟨⟨_, _, ok_numbers_of T CT C_number_in_desk F_numbers_of, He.glo_ok X G (c.d.fact 36 (f := .glo "numbers_of") rfl), F_numbers_of.kp, F_numbers_of.bindsN fun _ _ _ _ _ _ us hl => match us, hl with | [_], _ => rfl⟩⟩
  have C_moves_shown : Cal P w K mg base CX0 "moves_shown" 2 ["told"] spMovesShown := ⟨⟨_, _, ok_moves_shown T C_places_shown F_moves_shown, He.glo_ok X G (c.d.fact 38 (f := .glo "moves_shown") rfl), F_moves_shown.kp, F_moves_shown.bindsN fun _ _ _ _ _ _ us hl => match us, hl with | [_], _ => rfl⟩⟩
  have C__law_wide : Cal P w K mg base CX0 "_law_wide" 2 ["pot", "size"] spWide := ⟨⟨_, _, ok__law_wide T C__law_take F__law_wide, He.glo_ok X G (c.d.fact 42 (f := .glo "_law_wide") rfl), F__law_wide.kp, F__law_wide.bindsN fun _ _ _ _ _ _ us hl => match us, hl with | [_, _], _ => rfl⟩⟩
  have C__law_net_of : Cal P w K mg base CX0 "_law_net_of" 2 ["n", "ties", "k"] spNetOf := ⟨⟨_, _, ok__law_net_of T C__law_layers_of F__law_net_of, He.glo_ok X G (c.d.fact 44 (f := .glo "_law_net_of") rfl), F__law_net_of.kp, F__law_net_of.bindsN fun _ _ _ _ _ _ us hl => match us, hl with | [_, _, _], _ => rfl⟩⟩
  have C__law_few_places : Cal P w K mg base CX0 "_law_few_places" 2 ["pot"] spFew := ⟨⟨_, _, ok__law_few_places T C__law_take F__law_few_places, He.glo_ok X G (c.d.fact 46 (f := .glo "_law_few_places") rfl), F__law_few_places.kp, F__law_few_places.bindsN fun _ _ _ _ _ _ us hl => match us, hl with | [_], _ => rfl⟩⟩
  have C_is_meeting : Cal P w K mg base CX0 "is_meeting" 3 ["n", "thing"] spMeeting := ⟨⟨_, _, ok_is_meeting T C_is_place_records C_is_moment_records F_is_meeting, He.glo_ok X G (c.d.fact 4 (f := .glo "is_meeting") rfl), F_is_meeting.kp, F_is_meeting.bindsN fun _ _ _ _ _ _ us hl => match us, hl with | [_, _], _ => rfl⟩⟩
  have C_look_at_layers : Cal P w K mg base CX0 "look_at_layers" 3 ["k"] spLookLayers := ⟨⟨_, _, ok_look_at_layers T C_is_depth F_look_at_layers, He.glo_ok X G (c.d.fact 11 (f := .glo "look_at_layers") rfl), F_look_at_layers.kp, F_look_at_layers.bindsN fun _ _ _ _ _ _ us hl => match us, hl with | [_], _ => rfl⟩⟩
  have C__law_some_ties : Cal P w K mg base CX0 "_law_some_ties" 3 ["pot", "n"] spSome := ⟨⟨_, _, ok__law_some_ties T C__law_take C__law_wide F__law_some_ties, He.glo_ok X G (c.d.fact 47 (f := .glo "_law_some_ties") rfl), F__law_some_ties.kp, F__law_some_ties.bindsN fun _ _ _ _ _ _ us hl => match us, hl with | [_, _], _ => rfl⟩⟩
  have C_is_tie : Cal P w K mg base CX0 "is_tie" 4 ["n", "thing"] spMeeting := ⟨⟨_, _, ok_is_tie T C_is_meeting F_is_tie, He.glo_ok X G (c.d.fact 5 (f := .glo "is_tie") rfl), F_is_tie.kp, F_is_tie.bindsN fun _ _ _ _ _ _ us hl => match us, hl with | [_, _], _ => rfl⟩⟩
  have C_record_of : Cal P w K mg base CX0 "record_of" 4 ["n", "things"] spRecordOf := ⟨⟨_, _, ok_record_of T C_is_many C_is_meeting F_record_of, He.glo_ok X G (c.d.fact 6 (f := .glo "record_of") rfl), F_record_of.kp, F_record_of.bindsN fun _ _ _ _ _ _ us hl => match us, hl with | [_, _], _ => rfl⟩⟩
  have C_layered : Cal P w K mg base CX0 "layered" 4 ["n", "record", "k"] spLayered := ⟨⟨_, _, ok_layered T C_look_at_layers C_layer_for C_joined F_layered, He.glo_ok X G (c.d.fact 13 (f := .glo "layered") rfl), F_layered.kp, F_layered.bindsN fun _ _ _ _ _ _ us hl => match us, hl with | [_, _, _], _ => rfl⟩⟩
  have C_is_record : Cal P w K mg base CX0 "is_record" 5 ["n", "thing"] spRecord := ⟨⟨_, _, ok_is_record T C_is_tie F_is_record, He.glo_ok X G (c.d.fact 7 (f := .glo "is_record") rfl), F_is_record.kp, F_is_record.bindsN fun _ _ _ _ _ _ us hl => match us, hl with | [_, _], _ => rfl⟩⟩
  have C_net_of : Cal P w K mg base CX0 "net_of" 5 ["n", "record", "k"] spNetOf := ⟨⟨_, _, ok_net_of T C_layered F_net_of, He.glo_ok X G (c.d.fact 17 (f := .glo "net_of") rfl), F_net_of.kp, F_net_of.bindsN fun _ _ _ _ _ _ us hl => match us, hl with | [_, _, _], _ => rfl⟩⟩
  have I_Keeper : CalI P w K mg base CX0 (He.ga K "Keeper") 5 ["self", "n", "k"] (spKInit (He.ga K "Keeper")) := ⟨⟨_, _, ok_KeeperInit T KT C_record_of C_layered F_KeeperInit, He.mkr_ok (c.d.fact 89 (f := .mkr "Keeper") rfl), F_KeeperInit.bindsN fun _ _ _ _ _ _ us hl => match us, hl with | [_, _, _], _ => rfl⟩⟩
  have C_is_net : Cal P w K mg base CX0 "is_net" 6 ["thing"] spIsNet := ⟨⟨_, _, ok_is_net T C_is_count C_is_record C_layered F_is_net, He.glo_ok X G (c.d.fact 15 (f := .glo "is_net") rfl), F_is_net.kp, F_is_net.bindsN fun _ _ _ _ _ _ us hl => match us, hl with | [_], _ => rfl⟩⟩
  have C_with_ties : Cal P w K mg base CX0 "with_ties" 6 ["net", "others"] spWith := ⟨⟨_, _, ok_with_ties T C_net_of F_with_ties, He.glo_ok X G (c.d.fact 20 (f := .glo "with_ties") rfl), F_with_ties.kp, F_with_ties.bindsN fun _ _ _ _ _ _ us hl => match us, hl with | [_, _], _ => rfl⟩⟩
  have C_moves : Cal P w K mg base CX0 "moves" 6 ["n", "record", "k", "tie"] spMoves := ⟨⟨_, _, ok_moves T C_layered C_is_record C_ring_with F_moves, He.glo_ok X G (c.d.fact 25 (f := .glo "moves") rfl), F_moves.kp, F_moves.bindsN fun _ _ _ _ _ _ us hl => match us, hl with | [_, _, _, _], _ => rfl⟩⟩
  have C_read_record : Cal P w K mg base CX0 "read_record" 6 ["n", "text"] spReadRec := ⟨⟨_, _, ok_read_record T C_tie_in C_is_record F_read_record, He.glo_ok X G (c.d.fact 32 (f := .glo "read_record") rfl), F_read_record.kp, F_read_record.bindsN fun _ _ _ _ _ _ us hl => match us, hl with | [_, _], _ => rfl⟩⟩
  have C_look_at_net_nets : Cal P w K mg base CX0 "look_at_net_nets" 7 ["thing"] spLookNet := ⟨⟨_, _, ok_look_at_net_nets T C_is_net F_look_at_net_nets, He.glo_ok X G (c.d.fact 16 (f := .glo "look_at_net_nets") rfl), F_look_at_net_nets.kp, F_look_at_net_nets.bindsN fun _ _ _ _ _ _ us hl => match us, hl with | [_], _ => rfl⟩⟩
  have C_net_text : Cal P w K mg base CX0 "net_text" 7 ["net"] spNetText := ⟨⟨_, _, ok_net_text T C_is_net C_record_text F_net_text, He.glo_ok X G (c.d.fact 29 (f := .glo "net_text") rfl), F_net_text.kp, F_net_text.bindsN fun _ _ _ _ _ _ us hl => match us, hl with | [_], _ => rfl⟩⟩
  have C_read_net : Cal P w K mg base CX0 "read_net" 7 ["text"] spReadNet := ⟨⟨_, _, ok_read_net T C_number_in_texts C_is_many C_read_record C_is_net F_read_net, He.glo_ok X G (c.d.fact 33 (f := .glo "read_net") rfl), F_read_net.kp, F_read_net.bindsN fun _ _ _ _ _ _ us hl => match us, hl with | [_], _ => rfl⟩⟩
  have C_net_since : Cal P w K mg base CX0 "net_since" 8 ["net", "t"] spNetSince := ⟨⟨_, _, ok_net_since T C_look_at_net_nets C_since F_net_since, He.glo_ok X G (c.d.fact 18 (f := .glo "net_since") rfl), F_net_since.kp, F_net_since.bindsN fun _ _ _ _ _ _ us hl => match us, hl with | [_, _], _ => rfl⟩⟩
  have C_laid : Cal P w K mg base CX0 "laid" 8 ["net", "other"] spLaid := ⟨⟨_, _, ok_laid T C_look_at_net_nets C_look_for_clash C_with_ties F_laid, He.glo_ok X G (c.d.fact 21 (f := .glo "laid") rfl), F_laid.kp, F_laid.bindsN fun _ _ _ _ _ _ us hl => match us, hl with | [_, _], _ => rfl⟩⟩
  have C_net_come : Cal P w K mg base CX0 "net_come" 8 ["net", "tie"] spNetCome := ⟨⟨_, _, ok_net_come T C_look_at_net_nets C_is_record C_look_for_clash C_with_ties F_net_come, He.glo_ok X G (c.d.fact 22 (f := .glo "net_come") rfl), F_net_come.kp, F_net_come.bindsN fun _ _ _ _ _ _ us hl => match us, hl with | [_, _], _ => rfl⟩⟩
  have M_answered : CalM P w K mg base CX0 (He.ga K "Desk") "answered" 8 ["self", "word", "numbers", "net"] spAnswered := ⟨⟨_, _, ok_Desk_answered T C_net_text F_Desk_answered, He.meth_ok (c.d.fact 105 (f := .meth "Desk" "answered") rfl), F_Desk_answered.bindsN fun _ _ _ _ _ _ us hl => match us, hl with | [_, _, _, _], _ => rfl⟩⟩
  have M_come : CalM P w K mg base CX0 (He.ga K "Keeper") "come" 9 ["self", "tie"] (spCome (He.ga K "Keeper")) := ⟨⟨_, _, ok_Keeper_come T KT C_is_record C_net_come C_moves M_turn F_Keeper_come, He.meth_ok (c.d.fact 96 (f := .meth "Keeper" "come") rfl), F_Keeper_come.bindsN fun _ _ _ _ _ _ us hl => match us, hl with | [_, _], _ => rfl⟩⟩
  have M_forget : CalM P w K mg base CX0 (He.ga K "Keeper") "forget" 9 ["self", "t"] (spForget (He.ga K "Keeper")) := ⟨⟨_, _, ok_Keeper_forget T KT C_is_moment_keeper C_net_since M_turn F_Keeper_forget, He.meth_ok (c.d.fact 97 (f := .meth "Keeper" "forget") rfl), F_Keeper_forget.bindsN fun _ _ _ _ _ _ us hl => match us, hl with | [_, _], _ => rfl⟩⟩
  have M_lay : CalM P w K mg base CX0 (He.ga K "Keeper") "lay" 9 ["self", "net"] (spLay (He.ga K "Keeper")) := ⟨⟨_, _, ok_Keeper_lay T KT C_laid C_net_since M_turn F_Keeper_lay, He.meth_ok (c.d.fact 98 (f := .meth "Keeper" "lay") rfl), F_Keeper_lay.bindsN fun _ _ _ _ _ _ us hl => match us, hl with | [_, _], _ => rfl⟩⟩
  have M_laid_on : CalM P w K mg base CX0 (He.ga K "Desk") "laid_on" 10 ["self", "text"] (spLaidOn (He.ga K "Desk") (He.ga K "Keeper")) := ⟨⟨_, _, ok_Desk_laid_on T KT DT M_look C_read_net M_lay F_Desk_laid_on, He.meth_ok (c.d.fact 103 (f := .meth "Desk" "laid_on") rfl), F_Desk_laid_on.bindsN fun _ _ _ _ _ _ us hl => match us, hl with | [_, _], _ => rfl⟩⟩
  have M_deed_told : CalM P w K mg base (L2.CX P w) (He.ga K "Desk") "deed_told" 10 ["self", "word", "numbers"] (spDeed (He.ga K "Desk") (He.ga K "Keeper") (He.ga K "NoDeed")) := ⟨⟨_, _, ok_Desk_deed_told T KT DT C_moves_shown M_come M_forget M_back F_Desk_deed_told, He.meth_ok (c.d.fact 104 (f := .meth "Desk" "deed_told") rfl), F_Desk_deed_told.bindsN fun _ _ _ _ _ _ us hl => match us, hl with | [_, _, _], _ => rfl⟩⟩
  have M_say : CalM P w K mg base (L2.CX P w) (He.ga K "Desk") "say" 11 ["self", "row"] (spSay (He.ga K "Desk") (He.ga K "Keeper") (He.ga K "NoDeed")) := ⟨⟨_, _, ok_Desk_say T KT DT CT C_words_of C_numbers_of M_look M_laid_on M_deed_told M_answered M_net I_Keeper F_Desk_say, He.meth_ok (c.d.fact 101 (f := .meth "Desk" "say") rfl), F_Desk_say.bindsN fun _ _ _ _ _ _ us hl => match us, hl with | [_, _], _ => rfl⟩⟩
  have C__law_told : Cal P w K mg base CX0 "_law_told" 12 ["n", "k", "ties"] (spTold (He.ga K "Desk") (He.ga K "Keeper")) := ⟨⟨_, _, ok__law_told T DT I_Desk M_say F__law_told, He.glo_ok X G (c.d.fact 49 (f := .glo "_law_told") rfl), F__law_told.kp, F__law_told.bindsN fun _ _ _ _ _ _ us hl => match us, hl with | [_, _, _], _ => rfl⟩⟩
  have C__law_done : Cal P w K mg base CX0 "_law_done" 12 ["desk", "rows"] (spDone (He.ga K "Desk") (He.ga K "Keeper")) := ⟨⟨_, _, ok__law_done T DT M_say F__law_done, He.glo_ok X G (c.d.fact 50 (f := .glo "_law_done") rfl), F__law_done.kp, F__law_done.bindsN fun _ _ _ _ _ _ us hl => match us, hl with | [_, _], _ => rfl⟩⟩
  have C__law_back_to_none : Cal P w K mg base CX0 "_law_back_to_none" 12 ["desk", "many", "none"] (spBackTo (He.ga K "Desk") (He.ga K "Keeper")) := ⟨⟨_, _, ok__law_back_to_none T DT M_say F__law_back_to_none, He.glo_ok X G (c.d.fact 51 (f := .glo "_law_back_to_none") rfl), F__law_back_to_none.kp, F__law_back_to_none.bindsN fun _ _ _ _ _ _ us hl => match us, hl with | [_, _, _], _ => rfl⟩⟩
  have C__law_no_deed : Cal P w K mg base CX0 "_law_no_deed" 12 ["desk"] (spNoDeed (He.ga K "Desk") (He.ga K "Keeper")) := ⟨⟨_, _, ok__law_no_deed T DT NT M_say F__law_no_deed, He.glo_ok X G (c.d.fact 52 (f := .glo "_law_no_deed") rfl), F__law_no_deed.kp, F__law_no_deed.bindsN fun _ _ _ _ _ _ us hl => match us, hl with | [_], _ => rfl⟩⟩
  have C__law_right : Cal P w K mg base CX0 "_law_right" 13 ["n", "k", "ties", "part", "t"] (spRight (He.ga K "Desk") (He.ga K "Keeper")) := ⟨⟨_, _, ok__law_right T DT I_Desk M_say C__law_since C__law_net_of C__law_text C__law_told C__law_done C__law_back_to_none C__law_no_deed F__law_right, He.glo_ok X G (c.d.fact 53 (f := .glo "_law_right") rfl), F__law_right.kp, F__law_right.bindsN fun _ _ _ _ _ _ us hl => match us, hl with | [_, _, _, _, _], _ => rfl⟩⟩
  exact ok_law T C__law_folded C__law_begun C__law_few_places C__law_take C__law_some_ties C__law_right F_law
end
end SP
set_option maxRecDepth 100000
set_option maxHeartbeats 0
namespace SPH
open SP (fa fn ts)
open PySem PySem.Spec PyProof.Rows L2
abbrev R : PySem.W.OpenRow := PySem.W.OpenLaw.row PySem.Challenge.rw_sinceply_k65_whole_desks_and_texts
/-- what is looked at: what the module's names stand for, their code, what stands in their classes, its code -/
def codeAd : Option Obj → List Addr
  | some ⟨_, _, .func fd, _⟩ => He.refV fd.code
  | some ⟨_, _, .cls cd, _⟩ => [cd.ns]
  | _ => []
def nsAd (g : Addr → Option Obj) : Option Obj → List Addr
  | some ⟨_, _, .cls cd, _⟩ => (match g cd.ns with
    | some n => He.refsO n
    | none => [])
  | _ => []
def asM (g : Addr → Option Obj) (l m : List Addr) : List Addr := l ++ (l.flatMap (fun a => codeAd (g a)) ++ (m ++ m.flatMap fun a => codeAd (g a)))
def asL (g : Addr → Option Obj) (l : List Addr) : List Addr := asM g l (l.flatMap fun a => nsAd g (g a))
def asA (g : Addr → Option Obj) : List Addr := asL g (mainGlobals :: (match g mainGlobals with
  | some o => He.refsO o
  | none => []))
def cV : List (Str × He.Dv) := [("web", .int 2), ("tie", .int 3), ("forget", .int 1), ("back", .int 0), ("net", .int 0)]
def obsK (K : PySem.W.Frag) : He.AlT × Bool := (He.obsT fa fn ts K, He.valsB K (He.ga K "COUNTS") cV)
def obsA (g : Addr → Option Obj) : He.AlT × Bool := obsK (He.frG g (asA g))
def hk : PySem.W.Hook where
  α := He.AlT × Bool
  obs := fun s => obsA s.heap.get?
  val := fun w => (He.valT fn ts w, true)
  says := fun w h => ∃ K : PySem.W.Frag, K.In h ∧ obsK K = (He.valT fn ts w, true)
  of := fun _ _ e => ⟨_, He.frG_in, e⟩
  keeps := fun _ _ _ ⟨K, hK, c⟩ k => ⟨K, PySem.W.Frag.In.keeps hK k, c⟩
def ob (s : PySem.W.SharedT) : He.AlT × Bool := obsA (HandSHeadRun.getT s)
theorem ob_eq (s : PySem.W.SharedT) : ob s = hk.obs s.abs := by
  have e : HandSHeadRun.getT s = s.abs.heap.get? := funext (HandSHeadRun.getT_eq s)
  show obsA (HandSHeadRun.getT s) = obsA s.abs.heap.get?
  rw [e]
def names0 : List Str := ["__name__", "can_go", "spread", "push", "next_tie", "one_way", "ways_and_side", "PlyError", "NoPlaces", "NoTies", "NoLayers", "NoPair", "NoNet", "Unlike", "NoText", "NoRow", "NoDeed", "Clash", "MOST_PLACES_records", "MOST_TIES", "LAST_MOMENT", "is_whole", "is_many", "is_place", "is_place_records", "is_moment", "is_moment_records", "is_meeting", "is_tie", "record_of"]
def names1 : List Str := ["is_record", "since", "rim", "joined", "MOST_LAYERS_layers", "is_depth", "look_at_layers", "layer_for", "layered", "MOST_PLACES_nets", "MOST_LAYERS_nets", "is_count", "is_net", "look_at_net", "look_at_net_nets", "net_of", "net_since", "is_place_hangs", "look_at_pair", "look_at_net_hangs", "told_of", "hang", "sides_of", "cut_rank", "small_cuts", "shows_of", "least_cut", "look_for_clash", "with_ties", "laid"]
def names2 : List Str := ["net_come", "come_to", "ring_with", "moves", "LAST", "is_moment_keeper", "Keeper", "FIGURES_texts", "MOST_FIGURES_texts", "NOTHING", "tie_text", "record_text", "net_text", "number_in", "number_in_texts", "tie_in", "read_record", "read_net", "look_at_layer", "hang_so", "classes", "youngest", "when", "FIGURES_desk", "MOST_FIGURES_desk", "COUNTS", "number_in_desk", "words_of", "numbers_of", "places_shown"]
def names3 : List Str := ["moves_shown", "least_shown", "when_shown", "Desk", "_law_folded", "_law_begun", "_law_take", "_law_wide", "_law_layers_of", "_law_net_of", "_law_since", "_law_few_places", "_law_some_ties", "_law_text", "_law_told", "_law_done", "_law_back_to_none", "_law_no_deed", "_law_right"]
def names : List Str := names0 ++ names1 ++ names2 ++ names3
theorem runF (w : World) : HandSHeadRun.RunEq R (PySem.W.view R.prog [127]) hk ob 12000 names (w.withFollow "special-get-raises" false) := by
  intro os
  kernel_rfl
theorem runT (w : World) : HandSHeadRun.RunEq R (PySem.W.view R.prog [127]) hk ob 12000 names (w.withFollow "special-get-raises" true) := by
  intro os
  kernel_rfl
theorem run (w : World) : HandSHeadRun.RunEq R (PySem.W.view R.prog [127]) hk ob 12000 names w := PySem.W.byRow2 "special-get-raises" (P := fun w => HandSHeadRun.RunEq R (PySem.W.view R.prog [127]) hk ob 12000 names w) runF runT w
end SPH
set_option maxRecDepth 100000
set_option maxHeartbeats 0
open PySem PySem.W PySem.Calls PyProof.Rows
theorem PySem.Challenge.cw_sinceply_k65_whole_desks_and_texts_holds : PySem.Challenge.rw_sinceply_k65_whole_desks_and_texts.Holds := by
  w_on; o_law
  refine HandSHeadRun.head_any (r := OpenLaw.row PySem.Challenge.rw_sinceply_k65_whole_desks_and_texts) (q := view (OpenLaw.row PySem.Challenge.rw_sinceply_k65_whole_desks_and_texts).prog [127]) (H := SPH.hk) (ob := SPH.ob) (M := 12000) (loose := SPH.names) (d := HandSHeadRun.topDef (OpenLaw.row PySem.Challenge.rw_sinceply_k65_whole_desks_and_texts).prog 127) (kwd := []) SPH.ob_eq
    (by kernel_rfl) (fun s => by kernel_rfl) SPH.run (by kernel_rfl) (by kernel_rfl) (by kernel_rfl) (by rfl) (by first | assumption | decide +kernel) (by decide +kernel) ⟨rfl, rfl, rfl, rfl, rfl, by decide +kernel⟩ ?hw ?hc
  case hw => w_witness2
  case hc =>
    refine L2.walk_ofE (l := PySem.Challenge.rw_sinceply_k65_whole_desks_and_texts) (n := 63) (k := 14) (x := "script") (CX := L2.CX0) rfl (by decide) (by kernel_rfl) ⟨rfl, by decide, by decide⟩ ?F (fun _ _ _ _ z => z)
    intro w mg fa h Y G hmg0
    obtain ⟨K, KX, c⟩ := Y
    have hmg : mg ("law" : PySem.Str) = some (.ref fa) := by
      have e : (HandSHeadRun.topDef (OpenLaw.row PySem.Challenge.rw_sinceply_k65_whole_desks_and_texts).prog 127).name = ("law" : PySem.Str) := by kernel_rfl
      rw [← e]
      exact hmg0
    have c1 : He.SaysT SP.fa SP.fn SP.ts w K := congrArg (fun z : He.AlT × Bool => z.1) c
    have c2 : He.valsB K (He.ga K "COUNTS") SP.cW = true := congrArg (fun z : He.AlT × Bool => z.2) c
    obtain ⟨fd, hb, hF⟩ := SP.facts (P := (PySem.Challenge.rw_sinceply_k65_whole_desks_and_texts).prog) (w := w) KX G hmg c1 c2
    exact ⟨K, fd, SP.spLaw K, KX, hb, fun H a ns hl _ hS => ⟨a, ns, rfl, hS, Nat.le_trans hl (by decide), fun _ => rfl⟩, hF⟩
