import PyProof.Rows.All
import Wide.All
import OpenK.AllK
import Wide.FinOn
import KE.KStateDown
import HandS.HeadEnd
import HandS.Head0
import HandS.Head1
import HandS.Head2
import HandS.HeadHook1
import HandS.HeadHook2
import HandS.HeadNt
import HandS.ForMost
import HandS.IsInst
import HandS.Deep
import PySem.Challenge.RW_windowsteps_k73_whole_least_steps
import HandS.Star
import OpenK.KDescr
import HandS.Walk
import HandS.Steps
import HandS.GenList
import HandS.DictComp
import HandS.Iter
import KE.KDictCopyH
import KE.KDictPairs
import PyProof.NeKinds
import PyProof.EqAt
import KE.DatumOrd
import KE.KEqDict
import PyProof.Rows.TmSorted
import PyProof.Rows.StrMeet
import HandS.SortOrd
import HandS.SortRule
import HandS.Keys
import KE.KSortTup
import KE.DatumMoreOrd
import HandS.ListItems
import PyProof.ReprRoads
import PyProof.GenComp
import HandS.SortKw
import HandS.Conv
import KE.SortKeyHeap
import KE.KDictSum
import HandS.Set
import HandS.Strs
import HandS.Codes
import PyProof.P3Eq
import HandS.Ends
set_option Elab.async false
set_option linter.all false
set_option maxRecDepth 100000
set_option maxHeartbeats 200000
/-! Rules between things, chains of rules, blocks, and: between two admitted numbers a safe step leads on. Plain Lean. -/
namespace K73

/-- a rule: the number of hi is at least the number of lo plus gap; none is the ground -/
structure Rl (N : Type) where
  lo : Option N
  hi : Option N
  gap : Int
  deriving DecidableEq

section
variable {N : Type} [DecidableEq N]

def valAt (m : N → Int) : Option N → Int
  | none => 0
  | some x => m x
def Holds (m : N → Int) (r : Rl N) : Prop := valAt m r.lo + r.gap ≤ valAt m r.hi
def Adm (G : List (Rl N)) (m : N → Int) : Prop := ∀ r ∈ G, Holds m r

/-- a chain of rules of G with the total t -/
inductive Ch (G : List (Rl N)) : Option N → Option N → Int → Prop
  | nil (a : Option N) : Ch G a a 0
  | snoc {a b : Option N} {t : Int} (r : Rl N) : Ch G a b t → r ∈ G → r.lo = b → Ch G a r.hi (t + r.gap)

variable {G : List (Rl N)} {a b c : Option N} {t u : Int} {m : N → Int}

theorem Ch.one {r : Rl N} (h : r ∈ G) : Ch G r.lo r.hi r.gap := by
  have q := Ch.snoc r (Ch.nil r.lo) h rfl
  rw [Int.zero_add] at q
  exact q
theorem Ch.trans (h1 : Ch G a b t) (h2 : Ch G b c u) : Ch G a c (t + u) := by
  induction h2 with
  | nil => rw [Int.add_zero]; exact h1
  | snoc r _ hr he ih =>
    rw [← Int.add_assoc]
    exact Ch.snoc r ih hr he
theorem Ch.le (h : Ch G a b t) (ad : Adm G m) : t ≤ valAt m b - valAt m a := by
  induction h with
  | nil => omega
  | snoc r _ hr he ih =>
    have q := ad r hr
    unfold Holds at q
    rw [he] at q
    omega
theorem Ch.cast {t' : Int} (h : Ch G a b t) (e : t = t') : Ch G a b t' := e ▸ h
theorem Ch.loop (h : Ch G a a t) (ad : Adm G m) : t ≤ 0 := by
  have := h.le ad
  omega

/-- the greatest total -/
def Tight (G : List (Rl N)) (a b : Option N) (d : Int) : Prop := Ch G a b d ∧ ∀ t, Ch G a b t → t ≤ d
theorem Tight.one {d d' : Int} (h : Tight G a b d) (h' : Tight G a b d') : d = d' := by
  have q1 := h.2 _ h'.1
  have q2 := h'.2 _ h.1
  omega

/-- a and b move together -/
def Mate (G : List (Rl N)) (a b : Option N) : Prop := ∃ t, Ch G a b t ∧ Ch G b a (-t)
theorem Mate.refl (a : Option N) : Mate G a a := ⟨0, .nil a, .nil a⟩
theorem Mate.symm (h : Mate G a b) : Mate G b a := by
  obtain ⟨t, h1, h2⟩ := h
  exact ⟨-t, h2, h1.cast (by omega)⟩
theorem Mate.trans (h : Mate G a b) (h' : Mate G b c) : Mate G a c := by
  obtain ⟨t, h1, h2⟩ := h
  obtain ⟨u, h3, h4⟩ := h'
  exact ⟨t + u, h1.trans h3, (h4.trans h2).cast (by omega)⟩
/-- their difference is the same in all admitted numbers -/
theorem Mate.diff {m' : N → Int} (h : Mate G a b) (ad : Adm G m) (ad' : Adm G m') : valAt m b - valAt m a = valAt m' b - valAt m' a := by
  obtain ⟨t, h1, h2⟩ := h
  have q1 := h1.le ad
  have q2 := h2.le ad
  have q3 := h1.le ad'
  have q4 := h2.le ad'
  omega
theorem Mate.tight (h : Mate G a b) (ad : Adm G m) : Ch G a b (valAt m b - valAt m a) := by
  obtain ⟨t, h1, h2⟩ := h
  have q1 := h1.le ad
  have q2 := h2.le ad
  exact h1.cast (by omega)
/-- tight gaps there and back that add up to nothing -/
theorem mate_iff {d e : Int} (ad : Adm G m) (h1 : Tight G a b d) (h2 : Tight G b a e) : Mate G a b ↔ d + e = 0 := by
  constructor
  · rintro ⟨t, c1, c2⟩
    have q1 := h1.2 _ c1
    have q2 := h2.2 _ c2
    have q3 := (h1.1.trans h2.1).loop ad
    omega
  · intro z
    exact ⟨d, h1.1, h2.1.cast (by omega)⟩

/-! ### reversed -/
def rev (r : Rl N) : Rl N := ⟨r.hi, r.lo, r.gap⟩
def neg (m : N → Int) : N → Int := fun x => -(m x)
theorem valAt_neg (m : N → Int) (a : Option N) : valAt (neg m) a = -(valAt m a) := by
  cases a with
  | none => rfl
  | some x => rfl
theorem adm_rev (ad : Adm G m) : Adm (G.map rev) (neg m) := by
  intro r hr
  obtain ⟨r', h', e⟩ := List.mem_map.mp hr
  subst e
  have q := ad r' h'
  unfold Holds at q ⊢
  show valAt (neg m) r'.hi + r'.gap ≤ valAt (neg m) r'.lo
  rw [valAt_neg, valAt_neg]
  omega
theorem rev_rev (r : Rl N) : rev (rev r) = r := rfl
theorem map_rev_rev (G : List (Rl N)) : (G.map rev).map rev = G := by
  rw [List.map_map]
  exact List.map_id'' (fun r => rfl) G
theorem adm_unrev (ad : Adm (G.map rev) m) : Adm G (neg m) := by
  have q := adm_rev ad
  rw [map_rev_rev] at q
  exact q
theorem ch_rev (h : Ch G a b t) : Ch (G.map rev) b a t := by
  induction h with
  | nil => exact .nil _
  | @snoc b t r _ hr he ih =>
    have q := Ch.one (List.mem_map_of_mem (f := rev) hr)
    have q' : Ch (G.map rev) r.hi b r.gap := by rw [← he]; exact q
    exact (q'.trans ih).cast (by omega)
theorem mate_rev : Mate (G.map rev) a b ↔ Mate G a b := by
  constructor
  · rintro ⟨t, h1, h2⟩
    have q1 := ch_rev h1
    have q2 := ch_rev h2
    rw [map_rev_rev] at q1 q2
    exact ⟨-t, q2, q1.cast (by omega)⟩
  · rintro ⟨t, h1, h2⟩
    exact ⟨-t, ch_rev h2, (ch_rev h1).cast (by omega)⟩

/-! ### blocks -/
open Classical in
/-- the names that move with x, as they stand in ns -/
noncomputable def blkOf (G : List (Rl N)) (ns : List N) (x : N) : List N := ns.filter fun y => decide (Mate G (some x) (some y))
open Classical in
/-- the names of the blocks -/
noncomputable def heads (G : List (Rl N)) (ns : List N) : List N := ns.filter fun x => decide (¬ Mate G none (some x) ∧ (blkOf G ns x).head? = some x)
noncomputable def blocksL (G : List (Rl N)) (ns : List N) : List (List N) := (heads G ns).map (blkOf G ns)
variable {ns : List N} {x y : N}
open Classical in
theorem mem_blk : y ∈ blkOf G ns x ↔ y ∈ ns ∧ Mate G (some x) (some y) := by
  unfold blkOf
  rw [List.mem_filter, decide_eq_true_iff]
open Classical in
theorem mem_heads : x ∈ heads G ns ↔ x ∈ ns ∧ ¬ Mate G none (some x) ∧ (blkOf G ns x).head? = some x := by
  unfold heads
  rw [List.mem_filter, decide_eq_true_iff]
open Classical in
theorem blk_same (h : Mate G (some x) (some y)) : blkOf G ns x = blkOf G ns y := by
  unfold blkOf
  refine List.filter_congr fun z _ => ?_
  exact decide_eq_decide.mpr ⟨fun q => h.symm.trans q, fun q => h.trans q⟩
/-- each name that is not grounded has its block's name -/
theorem head_of (hx : x ∈ ns) (hg : ¬ Mate G none (some x)) : ∃ h, h ∈ heads G ns ∧ Mate G (some x) (some h) ∧ (blkOf G ns x).head? = some h := by
  have hm : x ∈ blkOf G ns x := mem_blk.mpr ⟨hx, .refl _⟩
  cases e : blkOf G ns x with
  | nil => rw [e] at hm; cases hm
  | cons h r =>
    have hh : h ∈ blkOf G ns x := by rw [e]; exact List.mem_cons_self
    obtain ⟨h1, h2⟩ := mem_blk.mp hh
    refine ⟨h, mem_heads.mpr ⟨h1, fun q => hg (q.trans h2.symm), ?_⟩, h2, rfl⟩
    rw [← blk_same h2, e]
    rfl
/-- two names of blocks are not mates -/
theorem heads_apart (hx : x ∈ heads G ns) (hy : y ∈ heads G ns) (h : Mate G (some x) (some y)) : x = y := by
  have e1 := (mem_heads.mp hx).2.2
  have e2 := (mem_heads.mp hy).2.2
  rw [blk_same h, e2] at e1
  exact (Option.some.inj e1).symm

/-! ### steps -/
def shift (m : N → Int) (B : List N) (c : Int) : N → Int := fun x => if x ∈ B then m x + c else m x
theorem shift_in {B : List N} {c : Int} (h : x ∈ B) : shift m B c x = m x + c := if_pos h
theorem shift_out {B : List N} {c : Int} (h : ¬ x ∈ B) : shift m B c x = m x := if_neg h
/-- what a step does at the names of blocks -/
theorem shift_head {h h' : N} {c : Int} (hh : h ∈ heads G ns) (hh' : h' ∈ heads G ns) : shift m (blkOf G ns h) c h' = if h' = h then m h' + c else m h' := by
  by_cases e : h' = h
  · rw [if_pos e]
    exact shift_in (by rw [e]; exact mem_blk.mpr ⟨(mem_heads.mp hh).1, .refl _⟩)
  · rw [if_neg e]
    exact shift_out fun q => e (heads_apart hh hh' (mem_blk.mp q).2).symm

/-- among finitely many there is one that is below none but its equals -/
theorem exists_top {α : Type} (R : α → α → Prop) (tr : ∀ a b c, R a b → R b c → R a c) (rf : ∀ a, R a a) : ∀ l : List α, l ≠ [] → ∃ m ∈ l, ∀ b ∈ l, R m b → R b m
  | [], h => (h rfl).elim
  | [a], _ => ⟨a, List.mem_cons_self, fun b hb _ => by
      rcases List.mem_cons.mp hb with e | e
      · rw [e]; exact rf a
      · cases e⟩
  | a :: b :: l, _ => by
    obtain ⟨m, hm, top⟩ := exists_top R tr rf (b :: l) (by simp)
    by_cases q : R m a
    · refine ⟨a, List.mem_cons_self, fun z hz hR => ?_⟩
      rcases List.mem_cons.mp hz with e | e
      · rw [e]; exact rf a
      · exact tr z m a (top z e (tr m a z q hR)) q
    · refine ⟨m, List.mem_cons_of_mem _ hm, fun z hz hR => ?_⟩
      rcases List.mem_cons.mp hz with e | e
      · rw [e] at hR; exact (q hR).elim
      · exact top z e hR

/-- all ends of rules are the ground or names of ns -/
def Within (G : List (Rl N)) (ns : List N) : Prop := ∀ r ∈ G, (∀ x, r.lo = some x → x ∈ ns) ∧ ∀ x, r.hi = some x → x ∈ ns

/-- where some block has to rise, some block may -/
theorem step_up {v : N → Int} {h0 : N} (wi : Within G ns) (adm : Adm G m) (adv : Adm G v) (hh : h0 ∈ heads G ns) (lt : m h0 < v h0) :
    ∃ h ∈ heads G ns, m h < v h ∧ Adm G (shift m (blkOf G ns h) 1) := by
  classical
  have ne : (heads G ns).filter (fun h => decide (m h < v h)) ≠ [] := fun q => by
    have z : h0 ∈ (heads G ns).filter (fun h => decide (m h < v h)) := List.mem_filter.mpr ⟨hh, decide_eq_true lt⟩
    rw [q] at z
    cases z
  obtain ⟨h, hm, top⟩ := exists_top (fun a b : N => Ch G (some a) (some b) (m b - m a)) (fun a b c h1 h2 => (h1.trans h2).cast (by omega)) (fun a => (Ch.nil (some a)).cast (by omega)) _ ne
  obtain ⟨hhd, hlt⟩ := List.mem_filter.mp hm
  have hlt : m h < v h := of_decide_eq_true hlt
  refine ⟨h, hhd, hlt, fun r hr => ?_⟩
  have old := adm r hr
  have new := adv r hr
  obtain ⟨w1, w2⟩ := wi r hr
  unfold Holds at old new ⊢
  -- the low end lies in the block, the high end does not
  by_cases hl : ∃ x, r.lo = some x ∧ x ∈ blkOf G ns h
  · obtain ⟨x, ex, hx⟩ := hl
    obtain ⟨hxn, hxm⟩ := mem_blk.mp hx
    have sx : valAt (shift m (blkOf G ns h) 1) r.lo = m x + 1 := by rw [ex]; exact shift_in hx
    have vx : valAt m r.lo = m x := by rw [ex]; rfl
    have vx' : valAt v r.lo = v x := by rw [ex]; rfl
    have dx := hxm.diff adm adv
    have dx : m x - m h = v x - v h := dx
    by_cases hy : ∃ y, r.hi = some y ∧ y ∈ blkOf G ns h
    · obtain ⟨y, ey, hy⟩ := hy
      have sy : valAt (shift m (blkOf G ns h) 1) r.hi = m y + 1 := by rw [ey]; exact shift_in hy
      have vy : valAt m r.hi = m y := by rw [ey]; rfl
      omega
    · have sy : valAt (shift m (blkOf G ns h) 1) r.hi = valAt m r.hi := by
        cases e : r.hi with
        | none => rfl
        | some y => exact shift_out fun q => hy ⟨y, e, q⟩
      rw [sx, sy]
      by_cases tight : m x + 1 + r.gap ≤ valAt m r.hi
      · exact tight
      · exfalso
        have eq : m x + r.gap = valAt m r.hi := by omega
        have up : valAt m r.hi < valAt v r.hi := by omega
        cases e : r.hi with
        | none => rw [e] at up; exact absurd up (by simp [valAt])
        | some y =>
          rw [e] at up eq
          have up : m y < v y := up
          have eq : m x + r.gap = m y := eq
          have hyn : y ∈ ns := w2 y e
          have hg : ¬ Mate G none (some y) := fun q => by
            have d := q.diff adm adv
            have d : m y - 0 = v y - 0 := d
            omega
          obtain ⟨k, hk, hyk, _⟩ := head_of hyn hg
          have dk := hyk.diff adm adv
          have dk : m k - m y = v k - v y := dk
          have c1 : Ch G (some h) (some y) (m y - m h) := by
            have q1 : Ch G (some h) (some x) (m x - m h) := hxm.tight adm
            have q2 : Ch G (some x) (some y) r.gap := by
              have q := Ch.one hr
              rw [ex, e] at q
              exact q
            exact (q1.trans q2).cast (by omega)
          have c2 : Ch G (some h) (some k) (m k - m h) := by
            have q : Ch G (some y) (some k) (m k - m y) := hyk.tight adm
            exact (c1.trans q).cast (by omega)
          have c3 := top k (List.mem_filter.mpr ⟨hk, decide_eq_true (by omega)⟩) c2
          have hmk : Mate G (some h) (some k) := ⟨m k - m h, c2, c3.cast (by omega)⟩
          exact hy ⟨y, e, mem_blk.mpr ⟨hyn, hmk.trans hyk.symm⟩⟩
  · have sx : valAt (shift m (blkOf G ns h) 1) r.lo = valAt m r.lo := by
      cases e : r.lo with
      | none => rfl
      | some x => exact shift_out fun q => hl ⟨x, e, q⟩
    have sy : valAt m r.hi ≤ valAt (shift m (blkOf G ns h) 1) r.hi := by
      cases e : r.hi with
      | none => exact Int.le_refl _
      | some y =>
        show m y ≤ shift m (blkOf G ns h) 1 y
        unfold shift
        split <;> omega
    omega
open Classical in
theorem blk_rev : blkOf (G.map rev) ns x = blkOf G ns x := by
  unfold blkOf
  exact List.filter_congr fun z _ => decide_eq_decide.mpr mate_rev
open Classical in
theorem heads_rev : heads (G.map rev) ns = heads G ns := by
  unfold heads
  refine List.filter_congr fun z _ => decide_eq_decide.mpr ?_
  rw [mate_rev, blk_rev]
theorem within_rev (wi : Within G ns) : Within (G.map rev) ns := fun r hr => by
  obtain ⟨r', h', e⟩ := List.mem_map.mp hr
  subst e
  exact ⟨(wi r' h').2, (wi r' h').1⟩
theorem neg_shift (m : N → Int) (B : List N) (c : Int) : neg (shift (neg m) B c) = shift m B (-c) := by
  funext x
  show -(if x ∈ B then -(m x) + c else -(m x)) = if x ∈ B then m x + -c else m x
  split <;> omega
theorem step_down {v : N → Int} {h0 : N} (wi : Within G ns) (adm : Adm G m) (adv : Adm G v) (hh : h0 ∈ heads G ns) (lt : v h0 < m h0) :
    ∃ h ∈ heads G ns, v h < m h ∧ Adm G (shift m (blkOf G ns h) (-1)) := by
  obtain ⟨h, h1, h2, h3⟩ := step_up (m := neg m) (v := neg v) (h0 := h0) (within_rev wi) (adm_rev adm) (adm_rev adv) (by rw [heads_rev]; exact hh) (by show -(m h0) < -(v h0); omega)
  rw [heads_rev] at h1
  have h2 : -(m h) < -(v h) := h2
  rw [blk_rev] at h3
  have q := adm_unrev h3
  rw [neg_shift] at q
  exact ⟨h, h1, by omega, q⟩
/-- numbers that agree at the names of blocks agree -/
theorem same_of_heads {v : N → Int} (adm : Adm G m) (adv : Adm G v) (h : ∀ k ∈ heads G ns, m k = v k) : ∀ x ∈ ns, m x = v x := by
  intro x hx
  by_cases hg : Mate G none (some x)
  · have d := hg.diff adm adv
    have d : m x - 0 = v x - 0 := d
    omega
  · obtain ⟨k, hk, hxk, _⟩ := head_of hx hg
    have d := hxk.diff adm adv
    have d : m k - m x = v k - v x := d
    have := h k hk
    omega
/-- the way on: +1 or -1 -/
def way (m v : N → Int) (h : N) : Int := if m h < v h then 1 else -1
theorem step_on {v : N → Int} {h0 : N} (wi : Within G ns) (adm : Adm G m) (adv : Adm G v) (hh : h0 ∈ heads G ns) (ne : m h0 ≠ v h0) :
    ∃ h ∈ heads G ns, m h ≠ v h ∧ Adm G (shift m (blkOf G ns h) (way m v h)) := by
  by_cases lt : m h0 < v h0
  · obtain ⟨h, h1, h2, h3⟩ := step_up wi adm adv hh lt
    exact ⟨h, h1, by omega, by unfold way; rw [if_pos h2]; exact h3⟩
  · obtain ⟨h, h1, h2, h3⟩ := step_down wi adm adv hh (by omega : v h0 < m h0)
    exact ⟨h, h1, by omega, by unfold way; rw [if_neg (by omega)]; exact h3⟩

/-! ### the distance -/
def dist (hs : List N) (m v : N → Int) : Nat := (hs.map fun h => (v h - m h).natAbs).sum
theorem dist_zero {hs : List N} {v : N → Int} : dist hs m v = 0 ↔ ∀ h ∈ hs, m h = v h := by
  unfold dist
  induction hs with
  | nil => simp
  | cons h r ih =>
    rw [List.map_cons, List.sum_cons]
    constructor
    · intro z k hk
      rcases List.mem_cons.mp hk with e | e
      · rw [e]; omega
      · exact ih.mp (by omega) k e
    · intro z
      have z1 := z h List.mem_cons_self
      have z2 := ih.mpr fun k hk => z k (List.mem_cons_of_mem _ hk)
      omega
theorem dist_comm (hs : List N) (m v : N → Int) : dist hs m v = dist hs v m := by
  unfold dist
  congr 1
  exact List.map_congr_left fun h _ => by omega
theorem dist_change {hs : List N} {m' v : N → Int} {h : N} {c : Int} (nd : hs.Nodup) (hh : h ∈ hs) (e : ∀ k ∈ hs, m' k = if k = h then m k + c else m k) :
    (dist hs m' v : Int) = (dist hs m v : Int) - ((v h - m h).natAbs : Int) + ((v h - (m h + c)).natAbs : Int) := by
  unfold dist
  induction hs with
  | nil => cases hh
  | cons a r ih =>
    rw [List.map_cons, List.sum_cons, List.map_cons, List.sum_cons]
    obtain ⟨n1, n2⟩ := List.nodup_cons.mp nd
    by_cases q : a = h
    · subst q
      have e1 : m' a = m a + c := by rw [e a List.mem_cons_self, if_pos rfl]
      have e2 : r.map (fun k => (v k - m' k).natAbs) = r.map (fun k => (v k - m k).natAbs) := List.map_congr_left fun k hk => by
        rw [e k (List.mem_cons_of_mem _ hk), if_neg (fun z => n1 (by rw [← z]; exact hk))]
      rw [e1, e2]
      omega
    · have hr : h ∈ r := by
        rcases List.mem_cons.mp hh with z | z
        · exact (q z.symm).elim
        · exact z
      have i := ih n2 hr fun k hk => e k (List.mem_cons_of_mem _ hk)
      have e1 : m' a = m a := by rw [e a List.mem_cons_self, if_neg q]
      rw [e1]
      omega
theorem heads_nodup (nd : ns.Nodup) : (heads G ns).Nodup := nd.sublist List.filter_sublist
theorem abs_pos {z : Int} (h : 0 ≤ z) : ((z.natAbs : Nat) : Int) = z := Int.natAbs_of_nonneg h
theorem abs_neg {z : Int} (h : z ≤ 0) : ((z.natAbs : Nat) : Int) = -z := Int.ofNat_natAbs_of_nonpos h
/-- a step towards shortens the way by one -/
theorem dist_on {v : N → Int} {h : N} (nd : ns.Nodup) (hh : h ∈ heads G ns) (ne : m h ≠ v h) : dist (heads G ns) (shift m (blkOf G ns h) (way m v h)) v + 1 = dist (heads G ns) m v := by
  have q := dist_change (m := m) (m' := shift m (blkOf G ns h) (way m v h)) (v := v) (heads_nodup nd) hh (fun k hk => shift_head (m := m) (c := way m v h) hh hk)
  unfold way at q ⊢
  by_cases lt : m h < v h
  · rw [if_pos lt] at q ⊢
    rw [abs_pos (by omega), abs_pos (by omega)] at q
    omega
  · rw [if_neg lt] at q ⊢
    rw [abs_neg (by omega), abs_neg (by omega)] at q
    omega
/-- any step changes it by one -/
theorem dist_step {v : N → Int} {h : N} {c : Int} (nd : ns.Nodup) (hh : h ∈ heads G ns) (hc : c = 1 ∨ c = -1) :
    dist (heads G ns) (shift m (blkOf G ns h) c) v = dist (heads G ns) m v + 1 ∨ dist (heads G ns) (shift m (blkOf G ns h) c) v + 1 = dist (heads G ns) m v := by
  have q := dist_change (m := m) (m' := shift m (blkOf G ns h) c) (v := v) (heads_nodup nd) hh (fun k hk => shift_head (m := m) (c := c) hh hk)
  rcases hc with e | e
  · subst e
    by_cases lt : m h < v h
    · rw [abs_pos (by omega), abs_pos (by omega)] at q
      omega
    · rw [abs_neg (by omega), abs_neg (by omega)] at q
      omega
  · subst e
    by_cases lt : v h < m h
    · rw [abs_neg (by omega), abs_neg (by omega)] at q
      omega
    · rw [abs_pos (by omega), abs_pos (by omega)] at q
      omega
/-- a step towards moves each number only towards its new one -/
theorem way_between {v : N → Int} {h x : N} (adm : Adm G m) (adv : Adm G v) (hh : h ∈ heads G ns) (ne : m h ≠ v h) :
    min (m x) (v x) ≤ shift m (blkOf G ns h) (way m v h) x ∧ shift m (blkOf G ns h) (way m v h) x ≤ max (m x) (v x) := by
  unfold shift way
  split
  · rename_i hx
    have d := (mem_blk.mp hx).2.diff adm adv
    have d : m x - m h = v x - v h := d
    split <;> omega
  · omega
end
end K73
set_option maxHeartbeats 200000
/-! The text by places, the slots of each def. -/
namespace K73
open PySem L2
def top (i : Nat) : Stmt := PySem.Challenge.pw_windowsteps_k73_whole_least_steps.main.body.getD i (.Pass ⟨0, 0, 0, 0⟩)
abbrev sIsInteger : Stmt := top 11
abbrev nIsInteger : List Str := ["thing", "low", "high"]
theorem cIsInteger : FnScope nIsInteger ["thing", "low", "high"] (defScope sIsInteger) := ⟨rfl, rfl, rfl, by decide +kernel, rfl, by decide +kernel, by decide +kernel⟩
abbrev sIsName : Stmt := top 12
abbrev nIsName : List Str := ["thing", "sign"]
theorem cIsName : FnScope nIsName ["thing"] (defScope sIsName) := ⟨rfl, rfl, rfl, by decide +kernel, rfl, by decide +kernel, by decide +kernel⟩
abbrev sRuleKey : Stmt := top 13
abbrev nRuleKey : List Str := ["rule"]
theorem cRuleKey : FnScope nRuleKey ["rule"] (defScope sRuleKey) := ⟨rfl, rfl, rfl, by decide +kernel, rfl, by decide +kernel, by decide +kernel⟩
abbrev sIsThing : Stmt := top 14
abbrev nIsThing : List Str := ["thing"]
theorem cIsThing : FnScope nIsThing ["thing"] (defScope sIsThing) := ⟨rfl, rfl, rfl, by decide +kernel, rfl, by decide +kernel, by decide +kernel⟩
abbrev sInitS : Stmt := inClass (top 15) 0
abbrev nInitS : List Str := ["self", "names", "rules", "name", "rule", "thing"]
theorem cInitS : FnScope nInitS ["self", "names", "rules"] (defScope sInitS) := ⟨rfl, rfl, rfl, by decide +kernel, rfl, by decide +kernel, by decide +kernel⟩
abbrev sIsRule : Stmt := inClass (top 15) 1
abbrev nIsRule : List Str := ["thing"]
theorem cIsRule : FnScope nIsRule ["thing"] (defScope sIsRule) := ⟨rfl, rfl, rfl, by decide +kernel, rfl, by decide +kernel, by decide +kernel⟩
abbrev sAreNumbers : Stmt := top 18
abbrev nAreNumbers : List Str := ["system", "thing", "name"]
theorem cAreNumbers : FnScope nAreNumbers ["system", "thing"] (defScope sAreNumbers) := ⟨rfl, rfl, rfl, by decide +kernel, rfl, by decide +kernel, by decide +kernel⟩
abbrev sCheckNumbers : Stmt := top 19
abbrev nCheckNumbers : List Str := ["system", "some", "thing"]
theorem cCheckNumbers : FnScope nCheckNumbers ["system", "some"] (defScope sCheckNumbers) := ⟨rfl, rfl, rfl, by decide +kernel, rfl, by decide +kernel, by decide +kernel⟩
abbrev sNumberAt : Stmt := top 20
abbrev nNumberAt : List Str := ["numbers", "thing"]
theorem cNumberAt : FnScope nNumberAt ["numbers", "thing"] (defScope sNumberAt) := ⟨rfl, rfl, rfl, by decide +kernel, rfl, by decide +kernel, by decide +kernel⟩
abbrev sShortBy : Stmt := top 21
abbrev nShortBy : List Str := ["numbers", "rule"]
theorem cShortBy : FnScope nShortBy ["numbers", "rule"] (defScope sShortBy) := ⟨rfl, rfl, rfl, by decide +kernel, rfl, by decide +kernel, by decide +kernel⟩
abbrev sBrokenRules : Stmt := top 22
abbrev nBrokenRules : List Str := ["system", "numbers", "rule"]
theorem cBrokenRules : FnScope nBrokenRules ["system", "numbers"] (defScope sBrokenRules) := ⟨rfl, rfl, rfl, by decide +kernel, rfl, by decide +kernel, by decide +kernel⟩
abbrev sFirstBreach : Stmt := top 23
abbrev nFirstBreach : List Str := ["system", "numbers", "rule"]
theorem cFirstBreach : FnScope nFirstBreach ["system", "numbers"] (defScope sFirstBreach) := ⟨rfl, rfl, rfl, by decide +kernel, rfl, by decide +kernel, by decide +kernel⟩
abbrev sRingThrough : Stmt := top 25
abbrev nRingThrough : List Str := ["last", "start", "size", "thing", "turn", "ring"]
theorem cRingThrough : FnScope nRingThrough ["last", "start", "size"] (defScope sRingThrough) := ⟨rfl, rfl, rfl, by decide +kernel, rfl, by decide +kernel, by decide +kernel⟩
abbrev sContradiction : Stmt := top 26
abbrev nContradiction : List Str := ["system", "best", "last", "turn", "reached", "rule", "thing"]
theorem cContradiction : FnScope nContradiction ["system"] (defScope sContradiction) := ⟨rfl, rfl, rfl, by decide +kernel, rfl, by decide +kernel, by decide +kernel⟩
abbrev sCheckConsistent : Stmt := top 27
abbrev nCheckConsistent : List Str := ["system"]
theorem cCheckConsistent : FnScope nCheckConsistent ["system"] (defScope sCheckConsistent) := ⟨rfl, rfl, rfl, by decide +kernel, rfl, by decide +kernel, by decide +kernel⟩
abbrev sInitR : Stmt := inClass (top 28) 0
abbrev nInitR : List Str := ["self", "system", "start", "improved", "rule", "low", "high", "gap"]
theorem cInitR : FnScope nInitR ["self", "system", "start"] (defScope sInitR) := ⟨rfl, rfl, rfl, by decide +kernel, rfl, by decide +kernel, by decide +kernel⟩
abbrev sBlockTable : Stmt := top 30
abbrev nBlockTable : List Str := ["system", "things", "totals", "found", "name", "mates", "thing", "other"]
theorem cBlockTable : FnScope nBlockTable ["system"] (defScope sBlockTable) := ⟨rfl, rfl, rfl, by decide +kernel, rfl, by decide +kernel, by decide +kernel⟩
abbrev sBlocks : Stmt := top 31
abbrev nBlocks : List Str := ["system", "table", "heads", "name", "other"]
theorem cBlocks : FnScope nBlocks ["system"] (defScope sBlocks) := ⟨rfl, rfl, rfl, by decide +kernel, rfl, by decide +kernel, by decide +kernel⟩
abbrev sNamedBlocks : Stmt := top 33
abbrev nNamedBlocks : List Str := ["system", "block"]
theorem cNamedBlocks : FnScope nNamedBlocks ["system"] (defScope sNamedBlocks) := ⟨rfl, rfl, rfl, by decide +kernel, rfl, by decide +kernel, by decide +kernel⟩
abbrev sIsStep : Stmt := top 34
abbrev nIsStep : List Str := ["known", "thing"]
theorem cIsStep : FnScope nIsStep ["known", "thing"] (defScope sIsStep) := ⟨rfl, rfl, rfl, by decide +kernel, rfl, by decide +kernel, by decide +kernel⟩
abbrev sShifted : Stmt := top 35
abbrev nShifted : List Str := ["numbers", "names", "change", "name"]
theorem cShifted : FnScope nShifted ["numbers", "names", "change"] (defScope sShifted) := ⟨rfl, rfl, rfl, by decide +kernel, rfl, by decide +kernel, by decide +kernel⟩
abbrev sSafeSteps : Stmt := top 36
abbrev nSafeSteps : List Str := ["system", "numbers", "known", "step", "name", "change"]
abbrev sCheckAdmitted : Stmt := top 38
abbrev nCheckAdmitted : List Str := ["system", "old", "new", "numbers", "rule"]
theorem cCheckAdmitted : FnScope nCheckAdmitted ["system", "old", "new"] (defScope sCheckAdmitted) := ⟨rfl, rfl, rfl, by decide +kernel, rfl, by decide +kernel, by decide +kernel⟩
abbrev sLeastSteps : Stmt := top 39
abbrev nLeastSteps : List Str := ["system", "old", "new", "name"]
theorem cLeastSteps : FnScope nLeastSteps ["system", "old", "new"] (defScope sLeastSteps) := ⟨rfl, rfl, rfl, by decide +kernel, rfl, by decide +kernel, by decide +kernel⟩
abbrev sNextStep : Stmt := top 40
abbrev nNextStep : List Str := ["system", "known", "numbers", "new", "name", "change"]
theorem cNextStep : FnScope nNextStep ["system", "known", "numbers", "new"] (defScope sNextStep) := ⟨rfl, rfl, rfl, by decide +kernel, rfl, by decide +kernel, by decide +kernel⟩
abbrev sSequence : Stmt := top 41
abbrev nSequence : List Str := ["system", "old", "new", "known", "found", "numbers", "name", "change"]
theorem cSequence : FnScope nSequence ["system", "old", "new"] (defScope sSequence) := ⟨rfl, rfl, rfl, by decide +kernel, rfl, by decide +kernel, by decide +kernel⟩
abbrev sIsSequence : Stmt := top 42
abbrev nIsSequence : List Str := ["system", "old", "new", "thing", "known", "numbers", "name", "change", "step"]
theorem cIsSequence : FnScope nIsSequence ["system", "old", "new", "thing"] (defScope sIsSequence) := ⟨rfl, rfl, rfl, by decide +kernel, rfl, by decide +kernel, by decide +kernel⟩
abbrev sMoments : Stmt := top 43
abbrev nMoments : List Str := ["system", "old", "new", "steps", "known", "numbers", "name", "change"]
abbrev sLPen : Stmt := top 45
abbrev nLPen : List Str := ["_law_script"]
theorem cLPen : FnScope nLPen ["_law_script"] (defScope sLPen) := ⟨rfl, rfl, rfl, by decide +kernel, rfl, by decide +kernel, by decide +kernel⟩
abbrev sLNext : Stmt := top 46
abbrev nLNext : List Str := ["_law_pen_here", "_law_index", "_law_cell", "_law_some_here", "_law_more", "_law_top"]
theorem cLNext : FnScope nLNext ["_law_pen_here"] (defScope sLNext) := ⟨rfl, rfl, rfl, by decide +kernel, rfl, by decide +kernel, by decide +kernel⟩
abbrev sLDraw : Stmt := top 47
abbrev nLDraw : List Str := ["_law_pen_here", "_law_under", "_law_digit"]
theorem cLDraw : FnScope nLDraw ["_law_pen_here", "_law_under"] (defScope sLDraw) := ⟨rfl, rfl, rfl, by decide +kernel, rfl, by decide +kernel, by decide +kernel⟩
abbrev sLSome : Stmt := top 48
abbrev nLSome : List Str := ["_law_pen_here", "_law_pool", "_law_most", "_law_left", "_law_turn"]
theorem cLSome : FnScope nLSome ["_law_pen_here", "_law_pool", "_law_most"] (defScope sLSome) := ⟨rfl, rfl, rfl, by decide +kernel, rfl, by decide +kernel, by decide +kernel⟩
abbrev sLNyms : Stmt := top 49
abbrev nLNyms : List Str := ["_law_pen_here", "_law_most"]
theorem cLNyms : FnScope nLNyms ["_law_pen_here", "_law_most"] (defScope sLNyms) := ⟨rfl, rfl, rfl, by decide +kernel, rfl, by decide +kernel, by decide +kernel⟩
abbrev sLGoal : Stmt := top 50
abbrev nLGoal : List Str := ["_law_pen_here", "_law_nyms_here", "_law_wide", "_law_nym"]
theorem cLGoal : FnScope nLGoal ["_law_pen_here", "_law_nyms_here"] (defScope sLGoal) := ⟨rfl, rfl, rfl, by decide +kernel, rfl, by decide +kernel, by decide +kernel⟩
abbrev sLAt : Stmt := top 51
abbrev nLAt : List Str := ["_law_held", "_law_thing"]
theorem cLAt : FnScope nLAt ["_law_held", "_law_thing"] (defScope sLAt) := ⟨rfl, rfl, rfl, by decide +kernel, rfl, by decide +kernel, by decide +kernel⟩
abbrev sLGaps : Stmt := top 52
abbrev nLGaps : List Str := ["_law_pen_here", "_law_nyms_here", "_law_goals", "_law_most", "_law_found", "_law_things", "_law_turn", "_law_left", "_law_first", "_law_second", "_law_spans", "_law_gap", "_law_goal_here"]
theorem cLGaps : FnScope nLGaps ["_law_pen_here", "_law_nyms_here", "_law_goals", "_law_most"] (defScope sLGaps) := ⟨rfl, rfl, rfl, by decide +kernel, rfl, by decide +kernel, by decide +kernel⟩
abbrev sLKey : Stmt := top 53
abbrev nLKey : List Str := ["_law_ask"]
theorem cLKey : FnScope nLKey ["_law_ask"] (defScope sLKey) := ⟨rfl, rfl, rfl, by decide +kernel, rfl, by decide +kernel, by decide +kernel⟩
abbrev sLSorted : Stmt := top 54
abbrev nLSorted : List Str := ["_law_gaps_here", "_law_different", "_law_ask", "_law_pair"]
theorem cLSorted : FnScope nLSorted ["_law_gaps_here"] (defScope sLSorted) := ⟨rfl, rfl, rfl, by decide +kernel, rfl, by decide +kernel, by decide +kernel⟩
abbrev sLShort : Stmt := top 55
abbrev nLShort : List Str := ["_law_held", "_law_ask"]
theorem cLShort : FnScope nLShort ["_law_held", "_law_ask"] (defScope sLShort) := ⟨rfl, rfl, rfl, by decide +kernel, rfl, by decide +kernel, by decide +kernel⟩
abbrev sLBroken : Stmt := top 56
abbrev nLBroken : List Str := ["_law_gaps_here", "_law_held", "_law_ask"]
theorem cLBroken : FnScope nLBroken ["_law_gaps_here", "_law_held"] (defScope sLBroken) := ⟨rfl, rfl, rfl, by decide +kernel, rfl, by decide +kernel, by decide +kernel⟩
abbrev sLFar : Stmt := top 57
abbrev nLFar : List Str := ["_law_nyms_here", "_law_gaps_here", "_law_things", "_law_far_here", "_law_first", "_law_second", "_law_gap", "_law_middle", "_law_way", "_law_thing", "_law_one"]
theorem cLFar : FnScope nLFar ["_law_nyms_here", "_law_gaps_here"] (defScope sLFar) := ⟨rfl, rfl, rfl, by decide +kernel, rfl, by decide +kernel, by decide +kernel⟩
abbrev sLJoined : Stmt := top 58
abbrev nLJoined : List Str := ["_law_far_here", "_law_first", "_law_second"]
theorem cLJoined : FnScope nLJoined ["_law_far_here", "_law_first", "_law_second"] (defScope sLJoined) := ⟨rfl, rfl, rfl, by decide +kernel, rfl, by decide +kernel, by decide +kernel⟩
abbrev sLBlocks : Stmt := top 59
abbrev nLBlocks : List Str := ["_law_nyms_here", "_law_far_here", "_law_found", "_law_nym", "_law_block_here", "_law_one"]
theorem cLBlocks : FnScope nLBlocks ["_law_nyms_here", "_law_far_here"] (defScope sLBlocks) := ⟨rfl, rfl, rfl, by decide +kernel, rfl, by decide +kernel, by decide +kernel⟩
abbrev sLMade : Stmt := top 60
abbrev nLMade : List Str := ["_law_nyms_here", "_law_gaps_here"]
theorem cLMade : FnScope nLMade ["_law_nyms_here", "_law_gaps_here"] (defScope sLMade) := ⟨rfl, rfl, rfl, by decide +kernel, rfl, by decide +kernel, by decide +kernel⟩
abbrev sLAfter : Stmt := top 61
abbrev nLAfter : List Str := ["_law_held", "_law_some_here", "_law_change", "_law_nym"]
theorem cLAfter : FnScope nLAfter ["_law_held", "_law_some_here", "_law_change"] (defScope sLAfter) := ⟨rfl, rfl, rfl, by decide +kernel, rfl, by decide +kernel, by decide +kernel⟩
abbrev sLBox : Stmt := top 62
abbrev nLBox : List Str := ["_law_pen_here", "_law_nyms_here", "_law_size", "_law_corner", "_law_nym", "_law_gaps_here", "_law_inner", "_law_other", "_law_found", "_law_longer", "_law_held", "_law_k"]
theorem cLBox : FnScope nLBox ["_law_pen_here"] (defScope sLBox) := ⟨rfl, rfl, rfl, by decide +kernel, rfl, by decide +kernel, by decide +kernel⟩
abbrev sLDistances : Stmt := top 63
abbrev nLDistances : List Str := ["_law_good", "_law_parts", "_law_one", "_law_found", "_law_edge", "_law_held", "_law_part", "_law_change", "_law_later"]
theorem cLDistances : FnScope nLDistances ["_law_good", "_law_parts", "_law_one"] (defScope sLDistances) := ⟨rfl, rfl, rfl, by decide +kernel, rfl, by decide +kernel, by decide +kernel⟩
abbrev sLPairRight : Stmt := top 64
abbrev nLPairRight : List Str := ["_law_made_here", "_law_gaps_here", "_law_parts", "_law_one", "_law_two", "_law_due", "_law_told", "_law_before", "_law_held", "_law_nym", "_law_part", "_law_later"]
theorem cLPairRight : FnScope nLPairRight ["_law_made_here", "_law_gaps_here", "_law_parts", "_law_one", "_law_two"] (defScope sLPairRight) := ⟨rfl, rfl, rfl, by decide +kernel, rfl, by decide +kernel, by decide +kernel⟩
abbrev sLaw : Stmt := top 65
abbrev nLaw : List Str := ["_law_script", "_law_pen_here", "_law_turn", "_law_nyms_here", "_law_gaps_here", "_law_every", "_law_made_here", "_law_parts", "_law_held", "_law_good", "_law_one", "_law_two", "_law_distances_here", "_law_due", "_law_part", "_law_change"]
theorem cLaw : FnScope nLaw ["_law_script"] (defScope sLaw) := ⟨rfl, rfl, rfl, by decide +kernel, rfl, by decide +kernel, by decide +kernel⟩
end K73
set_option maxHeartbeats 200000
/-! How rules, numbers, systems lie in the heap; a def of the text with its name and its binding. -/
namespace K73
open PySem L2
abbrev Rul := Rl Str
/-- a thing: None or a name -/
def vT : Option Str → V
  | none => .non
  | some s => .str s
theorem vT_inj {a b : Option Str} (h : vT a = vT b) : a = b := by
  cases a <;> cases b <;> simp [vT] at h <;> simp [h]
def RuleAt (H : Hp) (p : Addr) (r : Rul) : Prop := H p = some (.tup [vT r.lo, vT r.hi, .int r.gap])
/-- a point's pairs -/
def pt (ns : List Str) (f : Str → Int) : List (Key × V) := ns.map fun n => (.inr n, .int (f n))
def PtAt (H : Hp) (d : Addr) (ns : List Str) (f : Str → Int) : Prop := H d = some (.dK (pt ns f))
abbrev refs (L : List (Addr × Rul)) : List V := L.map fun q => V.ref q.1
def Rules (H : Hp) (L : List (Addr × Rul)) : Prop := ∀ q ∈ L, RuleAt H q.1 q.2
abbrev gapsOf (L : List (Addr × Rul)) : List Rul := L.map (·.2)
abbrev fields (sl gl : Addr) : List (Str × V) := [("settings", .ref sl), ("gaps", .ref gl)]
/-- a system of the names ns and the rules of L -/
def SysAt (C : Addr) (H : Hp) (p : Addr) (ns : List Str) (L : List (Addr × Rul)) : Prop :=
  ∃ dx sl gl, H p = some (.ins C dx (fields sl gl)) ∧ H sl = some (.lst (ns.map V.str)) ∧ H gl = some (.lst (refs L)) ∧ Rules H L
section
variable {H H' : Hp} {p d : Addr} {r : Rul} {ns : List Str} {f : Str → Int} {L : List (Addr × Rul)} {C : Addr}
theorem RuleAt.same (h : RuleAt H p r) (e : Same H H') : RuleAt H' p r := e _ _ h
theorem PtAt.same (h : PtAt H d ns f) (e : Same H H') : PtAt H' d ns f := e _ _ h
theorem Rules.same (h : Rules H L) (e : Same H H') : Rules H' L := fun q hq => e _ _ (h q hq)
theorem SysAt.same (h : SysAt C H p ns L) (e : Same H H') : SysAt C H' p ns L := by
  obtain ⟨dx, sl, gl, h1, h2, h3, h4⟩ := h
  exact ⟨dx, sl, gl, e _ _ h1, e _ _ h2, e _ _ h3, h4.same e⟩
theorem same_upd {o : HO} (h : H p = none) : Same H (upd H p o) := fun b u e => by rw [upd_ne (ne_of_none e h)]; exact e
theorem pt_get {n : Str} (h : n ∈ ns) : valV (pt ns f) (.inr n) = some (.int (f n)) := by
  unfold valV pt
  induction ns with
  | nil => cases h
  | cons a t ih =>
    rw [List.map_cons, List.find?_cons]
    by_cases e : a = n
    · subst e
      simp
    · have q : decide ((Sum.inr a : Key) = .inr n) = false := decide_eq_false fun z => e (Sum.inr.inj z)
      simp only [q]
      exact ih (by rcases List.mem_cons.mp h with z | z; exact absurd z.symm e; exact z)
theorem pt_out {n : Str} (h : n ∉ ns) : valV (pt ns f) (.inr n) = none := by
  unfold valV pt
  induction ns with
  | nil => rfl
  | cons a t ih =>
    rw [List.map_cons, List.find?_cons]
    have e : a ≠ n := fun z => h (by rw [z]; exact List.mem_cons_self)
    have q : decide ((Sum.inr a : Key) = .inr n) = false := decide_eq_false fun z => e (Sum.inr.inj z)
    simp only [q]
    exact ih fun z => h (List.mem_cons_of_mem _ z)
theorem pt_length : (pt ns f).length = ns.length := by unfold pt; rw [List.length_map]
theorem pt_congr {g : Str → Int} (h : ∀ n ∈ ns, f n = g n) : pt ns f = pt ns g := by
  unfold pt
  exact List.map_congr_left fun n hn => by rw [h n hn]
theorem PtAt.get {n : Str} (h : PtAt H d ns f) (hn : n ∈ ns) : DGet H d (.str n) (some (.int (f n))) := by
  have q := DGet.k (k := Sum.inr n) h
  rw [pt_get hn] at q
  exact q
theorem fs_set {sl gl : Addr} : (fields sl gl).lookup ("settings" : Str) = some (.ref sl) := by rfl
theorem fs_gap {sl gl : Addr} : (fields sl gl).lookup ("gaps" : Str) = some (.ref gl) := by
  show (match ("gaps" : Str) == ("settings" : Str) with | true => some (V.ref sl) | false => _) = _
  have e : (("gaps" : Str) == ("settings" : Str)) = false := by decide +kernel
  rw [e]
  rfl
end
/-- a def of the text: where it stands, its name, how its arguments bind -/
structure Dn (K : PySem.W.Frag) (mg : Str → Option Value) (x qual : Str) (st : Stmt) (ps : List Str) (f : Addr) (fd : FuncData) : Prop where
  fn : Fun K x qual st f fd
  bi : Binds K fd ps []
  im : mg x = some (.ref f)
theorem pe_d {X : Cx} {x qual : Str} {st : Stmt} {ps : List Str} {f : Addr} {fd : FuncData} {k : Nat} {sp : Sp} {e : Expr} {es : List Expr} {p pos : Pos} {t : TA} (D : Dn X.K X.mg x qual st ps f fd) (G : FnOk X.prog X.w X.K X.mg X.base CX0 k f fd ps sp) (hr : Room k X.A) (hg : Gl X x) (ha : PA X (e :: es) t)
    (hd : (x == ("__debug__" : Str)) = false := by decide) (he : starEach (e :: es) X.env = (false, eval e X.env) :: starEach es X.env := by rfl) (hpl : (backTo pos (starEach es X.env)).any (·.1) = false := by rfl) : PE X (.Call (.Name x p) (e :: es) [] pos) (tCall sp [] E0 t) :=
  pe_call G hr hg D.im D.fn.kp D.bi .nil pass0 ha hd he hpl
/-- what the names of the top and the built-in ones hold -/
structure Nm (mg : Str → Option Value) : Prop where
  isinstance : mg "isinstance" = none
  int : mg "int" = none
  bool : mg "bool" = none
  str : mg "str" = none
  len : mg "len" = none
  all : mg "all" = none
  list : mg "list" = none
  set : mg "set" = none
  sorted : mg "sorted" = none
  tuple : mg "tuple" = none
  dict : mg "dict" = none
  range : mg "range" = none
  min : mg "min" = none
  max : mg "max" = none
  sum : mg "sum" = none
  abs : mg "abs" = none
  repr : mg "repr" = none
  maxName : ∃ t, mg "MAX_NAME" = some (.int 8 t)
  maxGap : ∃ t, mg "MAX_GAP" = some (.int 999 t)
  maxNumber : ∃ t, mg "MAX_NUMBER" = some (.int 99999 t)
  letters : ∃ t, mg "LETTERS" = some (.str "abcdefghijklmnopqrstuvwxyz" t)
/-- what the class System's attributes are -/
structure SysC (K : PySem.W.Frag) (mg : Str → Option Value) (C : Addr) : Prop where
  cl : Cls K C
  nS : NoAttr K C "settings"
  nG : NoAttr K C "gaps"
  im : mg "System" = some (.ref C)
end K73
set_option maxHeartbeats 200000
/-! Every def of the text, where it stands. -/
namespace K73
open PySem L2
structure Tp (K : PySem.W.Frag) (mg : Str → Option Value) where
  nm : Nm mg
  C : Addr
  S : SysC K mg C
  gInitS : Addr
  dInitS : FuncData
  InitS : Fun K "__init__" "System.__init__" sInitS gInitS dInitS
  bInitS : Binds K dInitS ["self", "names", "rules"] []
  mkS : Mk K C gInitS
  gIsRule : Addr
  dIsRule : FuncData
  IsRule : Fun K "is_rule" "System.is_rule" sIsRule gIsRule dIsRule
  bIsRule : Binds K dIsRule ["thing"] []
  pIsRule : Addr
  rest : List Value
  rdS : PySem.W.readsIn K C (.type "type") = true
  gaS : PySem.W.specialIn K (.ref C) "__getattribute__" = some (some (.builtin "type.__getattribute__"))
  smS : PySem.W.findCls K (.ref C) (.type "type") "is_rule" = some (.get (.builtin "staticmethod.__get__") (.ref pIsRule) .none (.ref C))
  rcS : PySem.W.recIn K pIsRule "staticmethod" = some (.ref gIsRule :: rest)
  fiS : PySem.W.fnIn K gIsRule = true
  CR : Addr
  clR : Cls K CR
  nStart : NoAttr K CR "start"
  nBest : NoAttr K CR "best"
  nLast : NoAttr K CR "last"
  imR : mg "Reach" = some (.ref CR)
  gInitR : Addr
  dInitR : FuncData
  InitR : Fun K "__init__" "Reach.__init__" sInitR gInitR dInitR
  bInitR : Binds K dInitR ["self", "system", "start"] []
  mkR : Mk K CR gInitR
  gCheckNumbers : Addr
  dCheckNumbers : FuncData
  CheckNumbers : Fun K "check_numbers" "check_numbers" sCheckNumbers gCheckNumbers dCheckNumbers
  imCN : mg "check_numbers" = some (.ref gCheckNumbers)
  gSafeSteps : Addr
  dSafeSteps : FuncData
  SafeSteps : Fun K "safe_steps" "safe_steps" sSafeSteps gSafeSteps dSafeSteps
  imSS : mg "safe_steps" = some (.ref gSafeSteps)
  gMoments : Addr
  dMoments : FuncData
  Moments : Fun K "moments" "moments" sMoments gMoments dMoments
  imMo : mg "moments" = some (.ref gMoments)
  gIsInteger : Addr
  dIsInteger : FuncData
  IsInteger : Dn K mg "is_integer" "is_integer" sIsInteger ["thing", "low", "high"] gIsInteger dIsInteger
  gIsName : Addr
  dIsName : FuncData
  IsName : Dn K mg "is_name" "is_name" sIsName ["thing"] gIsName dIsName
  gRuleKey : Addr
  dRuleKey : FuncData
  RuleKey : Dn K mg "rule_key" "rule_key" sRuleKey ["rule"] gRuleKey dRuleKey
  gIsThing : Addr
  dIsThing : FuncData
  IsThing : Dn K mg "is_thing" "is_thing" sIsThing ["thing"] gIsThing dIsThing
  gAreNumbers : Addr
  dAreNumbers : FuncData
  AreNumbers : Dn K mg "are_numbers" "are_numbers" sAreNumbers ["system", "thing"] gAreNumbers dAreNumbers
  gNumberAt : Addr
  dNumberAt : FuncData
  NumberAt : Dn K mg "number_at" "number_at" sNumberAt ["numbers", "thing"] gNumberAt dNumberAt
  gShortBy : Addr
  dShortBy : FuncData
  ShortBy : Dn K mg "short_by" "short_by" sShortBy ["numbers", "rule"] gShortBy dShortBy
  gBrokenRules : Addr
  dBrokenRules : FuncData
  BrokenRules : Dn K mg "broken_rules" "broken_rules" sBrokenRules ["system", "numbers"] gBrokenRules dBrokenRules
  gFirstBreach : Addr
  dFirstBreach : FuncData
  FirstBreach : Dn K mg "first_breach" "first_breach" sFirstBreach ["system", "numbers"] gFirstBreach dFirstBreach
  gRingThrough : Addr
  dRingThrough : FuncData
  RingThrough : Dn K mg "ring_through" "ring_through" sRingThrough ["last", "start", "size"] gRingThrough dRingThrough
  gContradiction : Addr
  dContradiction : FuncData
  Contradiction : Dn K mg "contradiction" "contradiction" sContradiction ["system"] gContradiction dContradiction
  gCheckConsistent : Addr
  dCheckConsistent : FuncData
  CheckConsistent : Dn K mg "check_consistent" "check_consistent" sCheckConsistent ["system"] gCheckConsistent dCheckConsistent
  gBlockTable : Addr
  dBlockTable : FuncData
  BlockTable : Dn K mg "block_table" "block_table" sBlockTable ["system"] gBlockTable dBlockTable
  gBlocks : Addr
  dBlocks : FuncData
  Blocks : Dn K mg "blocks" "blocks" sBlocks ["system"] gBlocks dBlocks
  gNamedBlocks : Addr
  dNamedBlocks : FuncData
  NamedBlocks : Dn K mg "named_blocks" "named_blocks" sNamedBlocks ["system"] gNamedBlocks dNamedBlocks
  gIsStep : Addr
  dIsStep : FuncData
  IsStep : Dn K mg "is_step" "is_step" sIsStep ["known", "thing"] gIsStep dIsStep
  gShifted : Addr
  dShifted : FuncData
  Shifted : Dn K mg "shifted" "shifted" sShifted ["numbers", "names", "change"] gShifted dShifted
  gCheckAdmitted : Addr
  dCheckAdmitted : FuncData
  CheckAdmitted : Dn K mg "check_admitted" "check_admitted" sCheckAdmitted ["system", "old", "new"] gCheckAdmitted dCheckAdmitted
  gLeastSteps : Addr
  dLeastSteps : FuncData
  LeastSteps : Dn K mg "least_steps" "least_steps" sLeastSteps ["system", "old", "new"] gLeastSteps dLeastSteps
  gNextStep : Addr
  dNextStep : FuncData
  NextStep : Dn K mg "next_step" "next_step" sNextStep ["system", "known", "numbers", "new"] gNextStep dNextStep
  gSequence : Addr
  dSequence : FuncData
  Sequence : Dn K mg "sequence" "sequence" sSequence ["system", "old", "new"] gSequence dSequence
  gIsSequence : Addr
  dIsSequence : FuncData
  IsSequence : Dn K mg "is_sequence" "is_sequence" sIsSequence ["system", "old", "new", "thing"] gIsSequence dIsSequence
  gLPen : Addr
  dLPen : FuncData
  LPen : Dn K mg "_law_pen" "_law_pen" sLPen ["_law_script"] gLPen dLPen
  gLNext : Addr
  dLNext : FuncData
  LNext : Dn K mg "_law_next" "_law_next" sLNext ["_law_pen_here"] gLNext dLNext
  gLDraw : Addr
  dLDraw : FuncData
  LDraw : Dn K mg "_law_draw" "_law_draw" sLDraw ["_law_pen_here", "_law_under"] gLDraw dLDraw
  gLSome : Addr
  dLSome : FuncData
  LSome : Dn K mg "_law_some" "_law_some" sLSome ["_law_pen_here", "_law_pool", "_law_most"] gLSome dLSome
  gLNyms : Addr
  dLNyms : FuncData
  LNyms : Dn K mg "_law_nyms" "_law_nyms" sLNyms ["_law_pen_here", "_law_most"] gLNyms dLNyms
  gLGoal : Addr
  dLGoal : FuncData
  LGoal : Dn K mg "_law_goal" "_law_goal" sLGoal ["_law_pen_here", "_law_nyms_here"] gLGoal dLGoal
  gLAt : Addr
  dLAt : FuncData
  LAt : Dn K mg "_law_at" "_law_at" sLAt ["_law_held", "_law_thing"] gLAt dLAt
  gLGaps : Addr
  dLGaps : FuncData
  LGaps : Dn K mg "_law_gaps" "_law_gaps" sLGaps ["_law_pen_here", "_law_nyms_here", "_law_goals", "_law_most"] gLGaps dLGaps
  gLKey : Addr
  dLKey : FuncData
  LKey : Dn K mg "_law_key" "_law_key" sLKey ["_law_ask"] gLKey dLKey
  gLSorted : Addr
  dLSorted : FuncData
  LSorted : Dn K mg "_law_sorted" "_law_sorted" sLSorted ["_law_gaps_here"] gLSorted dLSorted
  gLShort : Addr
  dLShort : FuncData
  LShort : Dn K mg "_law_short" "_law_short" sLShort ["_law_held", "_law_ask"] gLShort dLShort
  gLBroken : Addr
  dLBroken : FuncData
  LBroken : Dn K mg "_law_broken" "_law_broken" sLBroken ["_law_gaps_here", "_law_held"] gLBroken dLBroken
  gLFar : Addr
  dLFar : FuncData
  LFar : Dn K mg "_law_far" "_law_far" sLFar ["_law_nyms_here", "_law_gaps_here"] gLFar dLFar
  gLJoined : Addr
  dLJoined : FuncData
  LJoined : Dn K mg "_law_joined" "_law_joined" sLJoined ["_law_far_here", "_law_first", "_law_second"] gLJoined dLJoined
  gLBlocks : Addr
  dLBlocks : FuncData
  LBlocks : Dn K mg "_law_blocks" "_law_blocks" sLBlocks ["_law_nyms_here", "_law_far_here"] gLBlocks dLBlocks
  gLMade : Addr
  dLMade : FuncData
  LMade : Dn K mg "_law_made" "_law_made" sLMade ["_law_nyms_here", "_law_gaps_here"] gLMade dLMade
  gLAfter : Addr
  dLAfter : FuncData
  LAfter : Dn K mg "_law_after" "_law_after" sLAfter ["_law_held", "_law_some_here", "_law_change"] gLAfter dLAfter
  gLBox : Addr
  dLBox : FuncData
  LBox : Dn K mg "_law_box" "_law_box" sLBox ["_law_pen_here"] gLBox dLBox
  gLDistances : Addr
  dLDistances : FuncData
  LDistances : Dn K mg "_law_distances" "_law_distances" sLDistances ["_law_good", "_law_parts", "_law_one"] gLDistances dLDistances
  gLPairRight : Addr
  dLPairRight : FuncData
  LPairRight : Dn K mg "_law_pair_right" "_law_pair_right" sLPairRight ["_law_made_here", "_law_gaps_here", "_law_parts", "_law_one", "_law_two"] gLPairRight dLPairRight
  gLaw : Addr
  dLaw : FuncData
  Law : Dn K mg "law" "law" sLaw ["_law_script"] gLaw dLaw
end K73
set_option maxHeartbeats 200000
/-! Comprehensions whose turns leave all that is tracked as it was; isinstance; all of a comprehension. -/
namespace K73
open PySem PySem.Spec PyProof.Rows L2
theorem paired_snoc {α β : Type} {F : α → β → Prop} : ∀ {xs : List α} {ys : List β} {x : α} {y : β}, Paired F xs ys → F x y → Paired F (xs ++ [x]) (ys ++ [y])
  | _, _, _, _, .nil, h => .cons h .nil
  | _, _, _, _, .cons a t, h => .cons a (paired_snoc t h)
theorem paired_mono {α β : Type} {F F' : α → β → Prop} (m : ∀ a b, F a b → F' a b) : ∀ {xs : List α} {ys : List β}, Paired F xs ys → Paired F' xs ys
  | _, _, .nil => .nil
  | _, _, .cons a t => .cons (m _ _ a) (paired_mono m t)
theorem paired_len {α β : Type} {F : α → β → Prop} : ∀ {xs : List α} {ys : List β}, Paired F xs ys → xs.length = ys.length
  | _, _, .nil => rfl
  | _, _, .cons _ t => congrArg (· + 1) (paired_len t)
theorem paired_map {α β : Type} {f : α → β} : ∀ {xs : List α} {ys : List β}, Paired (fun x y => y = f x) xs ys → ys = xs.map f
  | _, _, .nil => rfl
  | _, _, .cons a t => by rw [a, paired_map t]; rfl
theorem same_put {H H' : Hp} {D : Addr} {o : HO} (e : Same H H') (h : H D = none) : Same H (upd H' D o) := fun b u q => by rw [upd_ne (ne_of_none q h)]; exact e b u q
theorem wipe_one {σ : L2.St} {j : Nat} {v : Option V} : (wipe σ [j]).set j v = σ.set j v := by
  show (σ.set j none).set j v = _
  rw [List.set_set]
theorem wipe_set {σ : L2.St} {j : Nat} {v : Option V} : wipe (σ.set j v) [j] = wipe σ [j] := by
  show (σ.set j v).set j none = σ.set j none
  rw [List.set_set]
theorem lc_rel {J : It} {n : Nat} {G : Hp → Prop} {Y : Nat → Hp → V → Hp → Prop} (w : Walk J n G Y) {tt : TT} {te : TE} {j : Nat} {σ : L2.St} {H1 : Hp} {D : Addr} {Qd : Hp → Prop} (hD : H1 D = none) (xs : List V) (hn : xs.length = n) (hz : n < sizeLine)
    (hG : ∀ H', Same H1 H' → G H') (hY : ∀ i H x H', i < n → Y i H x H' → H' = H ∧ xs[i]? = some x) (keep : V → Bool) (R : V → V → Hp → Prop) (mono : ∀ x y H H', Same H H' → R x y H → R x y H')
    (ht : ∀ x H' (Qt : Bool → Hp → Prop), x ∈ xs → Same H1 H' → (∀ H4, Same H' H4 → Qt (keep x) H4) → tt (σ.set j (some x)) H' Qt)
    (he : ∀ x H' (Qe : VK), x ∈ xs → keep x = true → Same H1 H' → (∃ u, H' D = some u) → (∀ y H4, Same H' H4 → (∀ H5, (∀ b o, b ≠ D → H4 b = some o → H5 b = some o) → R x y H5) → Qe y H4) → te (σ.set j (some x)) H' Qe)
    (hd : ∀ H' ys, Same H1 H' → H' D = some (.lst ys) → Paired (fun x y => R x y H') (xs.filter keep) ys → Qd H') :
    ∃ W : Nat → Nat → Hp → Prop, (∃ m, W 0 m (upd H1 D (.lst []))) ∧ ∀ i m H, W i m H →
      (J.stop i H ∧ Qd H) ∨ (J.go i H ∧ ∃ Nx : Hp → Prop, (∀ H', Nx H' → ∃ m', m' < m ∧ W (i + 1) m' H') ∧ ∀ x H', J.yld i H x H' → gName j x (wipe σ [j]) H' fun σ2 H2 => wipe σ2 [j] = wipe σ [j] ∧ tt σ2 H2 fun b H3 =>
        if b = true then te σ2 H3 fun y H4 => ∃ acc, H4 D = some (.lst acc) ∧ acc.length < sizeLine ∧ Nx (upd H4 D (.lst (acc ++ [y]))) else Nx H3) := by
  refine lc_it w (fun i H' => ∃ ys, Same H1 H' ∧ H' D = some (.lst ys) ∧ Paired (fun x y => ∀ H5, (∀ b o, b ≠ D → H' b = some o → H5 b = some o) → R x y H5) ((xs.take i).filter keep) ys) ⟨[], same_upd hD, upd_same, .nil⟩ (fun i H' _ ⟨_, e, _⟩ => hG H' e) ?_ ?_
  · rintro i x H' H'' hi ⟨ys, e, hy, hp⟩ y
    obtain ⟨rfl, hx⟩ := hY i H' x H'' hi y
    have hm : x ∈ xs := List.mem_of_getElem? hx
    have hL : xs.take (i + 1) = xs.take i ++ [x] := by rw [List.take_add_one, hx]; rfl
    have hlen : ys.length < sizeLine := by
      have := paired_len hp
      have h2 := List.length_filter_le keep (xs.take i)
      have h3 : (xs.take i).length ≤ i := List.length_take_le _ _
      omega
    show wipe _ [j] = wipe σ [j] ∧ tt ((wipe σ [j]).set j (some x)) H'' _
    refine ⟨by rw [wipe_one, wipe_set], ?_⟩
    rw [wipe_one]
    refine ht x H'' _ hm e fun H4 e4 => ?_
    cases hk : keep x with
    | false =>
      rw [if_neg Bool.false_ne_true]
      refine ⟨ys, e.trans e4, e4 _ _ hy, ?_⟩
      rw [hL, List.filter_append, List.filter_cons, if_neg (by simp [hk]), List.filter_nil, List.append_nil]
      exact paired_mono (fun a b h H5 q => h H5 fun b o hb eo => q b o hb (e4 _ _ eo)) hp
    | true =>
      rw [if_pos rfl]
      refine he x H4 _ hm hk (e.trans e4) ⟨_, e4 _ _ hy⟩ fun y H5 e5 r => ⟨ys, e5 _ _ (e4 _ _ hy), hlen, ys ++ [y], same_put ((e.trans e4).trans e5) hD, upd_same, ?_⟩
      rw [hL, List.filter_append, List.filter_cons, if_pos hk, List.filter_nil]
      refine paired_snoc (paired_mono (fun a b h H6 q => h H6 fun b o hb eo => q b o hb ?_) hp) fun H6 q => r H6 fun b o hb eo => q b o hb ?_
      · rw [upd_ne hb]; exact eo
      · rw [upd_ne hb]; exact e5 _ _ (e4 _ _ eo)
  · rintro H' ⟨ys, e, hy, hp⟩
    subst hn
    rw [List.take_length] at hp
    exact hd H' ys e hy (paired_mono (fun a b h => h H' fun b o _ eo => eo) hp)
/-- .. values that are told by the items alone -/
theorem lc_val {J : It} {n : Nat} {G : Hp → Prop} {Y : Nat → Hp → V → Hp → Prop} (w : Walk J n G Y) {tt : TT} {te : TE} {j : Nat} {σ : L2.St} {H1 : Hp} {D : Addr} {Qd : Hp → Prop} (hD : H1 D = none) (xs : List V) (hn : xs.length = n) (hz : n < sizeLine)
    (hG : ∀ H', Same H1 H' → G H') (hY : ∀ i H x H', i < n → Y i H x H' → H' = H ∧ xs[i]? = some x) (keep : V → Bool) (val : V → V)
    (ht : ∀ x H' (Qt : Bool → Hp → Prop), x ∈ xs → Same H1 H' → (∀ H4, Same H' H4 → Qt (keep x) H4) → tt (σ.set j (some x)) H' Qt)
    (he : ∀ x H' (Qe : VK), x ∈ xs → keep x = true → Same H1 H' → (∀ H4, Same H' H4 → Qe (val x) H4) → te (σ.set j (some x)) H' Qe)
    (hd : ∀ H', Same H1 H' → H' D = some (.lst ((xs.filter keep).map val)) → Qd H') :
    ∃ W : Nat → Nat → Hp → Prop, (∃ m, W 0 m (upd H1 D (.lst []))) ∧ ∀ i m H, W i m H →
      (J.stop i H ∧ Qd H) ∨ (J.go i H ∧ ∃ Nx : Hp → Prop, (∀ H', Nx H' → ∃ m', m' < m ∧ W (i + 1) m' H') ∧ ∀ x H', J.yld i H x H' → gName j x (wipe σ [j]) H' fun σ2 H2 => wipe σ2 [j] = wipe σ [j] ∧ tt σ2 H2 fun b H3 =>
        if b = true then te σ2 H3 fun y H4 => ∃ acc, H4 D = some (.lst acc) ∧ acc.length < sizeLine ∧ Nx (upd H4 D (.lst (acc ++ [y]))) else Nx H3) :=
  lc_rel w hD xs hn hz hG hY keep (fun x y _ => y = val x) (fun _ _ _ _ _ h => h) ht (fun x H' Qe hm hk e _ q => he x H' Qe hm hk e fun H4 e4 => q _ H4 e4 fun _ _ => rfl)
    fun H' ys e hy hp => hd H' e (by rw [← paired_map hp]; exact hy)
/-- over a list -/
theorem lcl_val {K : PySem.W.Frag} {a : Addr} {tt : TT} {te : TE} {j : Nat} {σ : L2.St} {H1 : Hp} {D : Addr} {Qd : Hp → Prop} {xs : List V} (hl : SqL K H1 a xs) (hD : H1 D = none) (hz : xs.length < sizeLine) (keep : V → Bool) (val : V → V)
    (ht : ∀ x H' (Qt : Bool → Hp → Prop), x ∈ xs → Same H1 H' → (∀ H4, Same H' H4 → Qt (keep x) H4) → tt (σ.set j (some x)) H' Qt)
    (he : ∀ x H' (Qe : VK), x ∈ xs → keep x = true → Same H1 H' → (∀ H4, Same H' H4 → Qe (val x) H4) → te (σ.set j (some x)) H' Qe)
    (hd : ∀ H', Same H1 H' → H' D = some (.lst ((xs.filter keep).map val)) → Qd H') :
    ∃ W : Nat → Nat → Hp → Prop, (∃ m, W 0 m (upd H1 D (.lst []))) ∧ ∀ i m H, W i m H →
      ((Itl K a).stop i H ∧ Qd H) ∨ ((Itl K a).go i H ∧ ∃ Nx : Hp → Prop, (∀ H', Nx H' → ∃ m', m' < m ∧ W (i + 1) m' H') ∧ ∀ x H', (Itl K a).yld i H x H' → gName j x (wipe σ [j]) H' fun σ2 H2 => wipe σ2 [j] = wipe σ [j] ∧ tt σ2 H2 fun b H3 =>
        if b = true then te σ2 H3 fun y H4 => ∃ acc, H4 D = some (.lst acc) ∧ acc.length < sizeLine ∧ Nx (upd H4 D (.lst (acc ++ [y]))) else Nx H3) :=
  lc_val walk_list hD xs rfl hz (fun H' e => e.seq hl) (fun i H x H' _ y => y) keep val ht he hd
/-- .. all kept -/
theorem lcl_map {K : PySem.W.Frag} {a : Addr} {te : TE} {j : Nat} {σ : L2.St} {H1 : Hp} {D : Addr} {Qd : Hp → Prop} {xs : List V} (hl : SqL K H1 a xs) (hD : H1 D = none) (hz : xs.length < sizeLine) (val : V → V)
    (he : ∀ x H' (Qe : VK), x ∈ xs → Same H1 H' → (∀ H4, Same H' H4 → Qe (val x) H4) → te (σ.set j (some x)) H' Qe)
    (hd : ∀ H', Same H1 H' → H' D = some (.lst (xs.map val)) → Qd H') :
    ∃ W : Nat → Nat → Hp → Prop, (∃ m, W 0 m (upd H1 D (.lst []))) ∧ ∀ i m H, W i m H →
      ((Itl K a).stop i H ∧ Qd H) ∨ ((Itl K a).go i H ∧ ∃ Nx : Hp → Prop, (∀ H', Nx H' → ∃ m', m' < m ∧ W (i + 1) m' H') ∧ ∀ x H', (Itl K a).yld i H x H' → gName j x (wipe σ [j]) H' fun σ2 H2 => wipe σ2 [j] = wipe σ [j] ∧ tYes σ2 H2 fun b H3 =>
        if b = true then te σ2 H3 fun y H4 => ∃ acc, H4 D = some (.lst acc) ∧ acc.length < sizeLine ∧ Nx (upd H4 D (.lst (acc ++ [y]))) else Nx H3) :=
  lcl_val hl hD hz (fun _ => true) val (fun x H' Qt _ _ q => q H' (Same.refl _)) (fun x H' Qe hm _ e q => he x H' Qe hm e q) fun H' e h => hd H' e (by rw [h, List.filter_eq_self.mpr fun _ _ => rfl])
/-- isinstance of a value and a built-in class -/
theorem pe_isi {X : Cx} {e : Expr} {te : TE} {c : Str} {n : String} {p p2 pos : Pos} (T : Nm X.mg) (hg : Gl X "isinstance") (hg2 : Gl X c) (hm2 : X.mg c = none) (hb : bootBuiltins c = some (.type n)) (he : PE X e te) (hn : c ≠ "__name__" := by decide) (hd : (c == ("__debug__" : Str)) = false := by decide)
    (hs : starEach (e :: [.Name c p2]) X.env = (false, eval e X.env) :: starEach [.Name c p2] X.env := by rfl) (hs2 : starEach (e :: [.Name c p2]) X.env = (false, eval e X.env) :: starEach [.Name c p2] X.env := by rfl) : PE X (.Call (.Name "isinstance" p) [e, .Name c p2] [] pos) (tCB (rIsi X.K) (tCons te (tCons (tC (.ty n)) tNil))) :=
  pe_callB (p := p) (pos := pos) call_isi hg T.isinstance boot_isinstance (pa_cons he (pa_cons (pe_bltn (v := V.ty n) (pos := p2) hg2 hm2 hb rfl hn hd) pa_nil) hs) (by decide) (by decide) hs2
/-- an item of a tuple in a slot -/
theorem pat {X : Cx} (i : Nat) {x : Str} {k : Int} {c : Nat} {p p2 pos : Pos} (hN : X.N[i]? = some x := by rfl) (hv : Vis X.env.scope x := by first | exact Or.inl rfl | exact Or.inr (Or.inl rfl) | exact Or.inr (Or.inr rfl)) (hd : (x == ("__debug__" : Str)) = false := by decide)
    (hcd : (x == ("__classdict__" : Str)) = false := by decide) : PE X (.Subscript (.Name x p) (.Constant (.int k) c p2) pos) (tOp (rIxT X.K) (tVar i) (tC (.int k))) := pe_ix ix_tup (pv i hN hv hd hcd) pe_int (fun _ _ => rfl)
/-- a branch that is never taken -/
theorem pss_no {X : Cx} {sts : List Stmt} : PSs X sts tNever := pss_never
theorem ptv {X : Cx} {e : Expr} {t : TE} (h : PE X e t) (he : ∀ whole, isTrue e X.env whole = (do let v ← whole; standAt e.pos; holding [v] (truthy v)) := by intro _; rfl) : PT X e (tB t) := L2.pt_val h he
/-- a def with a star parameter, called with plain arguments -/
theorem pe_callR {X : Cx} {CX : CXT} {k : Nat} {f : Addr} {sp : Sp} {E : XK} {x : Str} {e : Expr} {es : List Expr} {t : TA} {p pos : Pos} (F : FnR X.prog X.w X.K X.mg X.base CX k f sp) (hr : Room k X.A) (hg : Gl X x) (hm : X.mg x = some (.ref f)) (hk : PySem.W.keepIn X.K (.ref f) = true) (hx : Passes CX X E)
    (ha : PA X (e :: es) t) (hdb : (x == ("__debug__" : Str)) = false := by decide) (he : starEach (e :: es) X.env = (false, eval e X.env) :: starEach es X.env := by rfl) (hpl : (backTo pos (starEach es X.env)).any (·.1) = false := by rfl) :
    PE X (.Call (.Name x p) (e :: es) [] pos) (fun σ H Q => t σ H fun vs H1 => sp vs H1 Q E) := by
  refine ⟨fun pins s σ H Q I h => ?_⟩
  refine wpAny_Call_Name_kw (ld_glob I hg hm ?_ hdb)
  refine PySem.W.callWith_K (h₀ := X.base) I.ok.mod.kin hk (thn (ha.run pos pins s σ H _ I h) fun us s1 ⟨vs, H1, I1, r, q⟩ => ⟨I1.kIn, ?_⟩) he hpl
  exact wpAny_call (run_fnR F hr hx I1 r q)
/-- the next statement -/
theorem nx_of {t : TS} {D : L2.Ends} {r : V → Hp → Prop} {b c : L2.St → Hp → Prop} {σ : L2.St} {H : Hp} (h : t D σ H) : ({ nx := t D, rt := r, bk := b, ct := c } : L2.Ends).nx σ H := h
end K73
set_option maxHeartbeats 200000
/-! The lowest defs. -/
namespace K73
open PySem L2
section
variable {P : Program} {w : World} {K : PySem.W.Frag} {mg : Str → Option Value} {base : Heap}
/-! number_at -/
def spNumberAt : Sp := fun vs H Q _ => ∃ (d : Addr) (t : Option Str) (ns : List Str) (f : Str → Int), vs = [.ref d, vT t] ∧ PtAt H d ns f ∧ (∀ x, t = some x → x ∈ ns) ∧ Q (.int (valAt f t)) H
theorem ok_numberAt {x qual : Str} {g : Addr} {fd : FuncData} (F : Fun K x qual sNumberAt g fd) : FnOk P w K mg base CX0 1 g fd ["numbers", "thing"] spNumberAt := by
  refine F.ok cNumberAt (fun vs H Q E h => ?_) (fun cdv A outer s H vs Q E hr h => ?_)
  · obtain ⟨d, t, ns, f, rfl, _⟩ := h
    rfl
  · obtain ⟨d, t, ns, f, rfl, hd, ht, q⟩ := h
    refine ⟨_, pss_one (ps_ret (pe_ifExp (pt_cmpR op_isN (pv 1) pe_non (nomark _)) pe_int (pe_dget (hu_of hr) (pv 0) (pv 1) (fun _ _ => rfl)))), ?_⟩
    refine ⟨_, rfl, rfl, _, rfl, ?_⟩
    cases t with
    | none => exact iteT q
    | some x => exact iteF ⟨_, rfl, _, rfl, d, _, rfl, hd.get (ht x rfl), q⟩
/-! short_by -/
def short (f : Str → Int) (r : Rul) : Int := valAt f r.lo + r.gap - valAt f r.hi
theorem short_pos {f : Str → Int} {r : Rul} : 0 < short f r ↔ ¬ Holds f r := by unfold short Holds; omega
def InR (ns : List Str) (r : Rul) : Prop := (∀ x, r.lo = some x → x ∈ ns) ∧ ∀ x, r.hi = some x → x ∈ ns
def spShortBy : Sp := fun vs H Q _ => ∃ (d p : Addr) (r : Rul) (ns : List Str) (f : Str → Int), vs = [.ref d, .ref p] ∧ PtAt H d ns f ∧ RuleAt H p r ∧ InR ns r ∧ Q (.int (short f r)) H
theorem ok_shortBy {x qual q2 : Str} {g g2 : Addr} {fd fd2 : FuncData} (F : Fun K x qual sShortBy g fd) (N : Dn K mg "number_at" q2 sNumberAt ["numbers", "thing"] g2 fd2) : FnOk P w K mg base CX0 2 g fd ["numbers", "rule"] spShortBy := by
  refine F.ok cShortBy (fun vs H Q E h => ?_) (fun cdv A outer s H vs Q E hr h => ?_)
  · obtain ⟨d, p, r, ns, f, rfl, _⟩ := h
    rfl
  · obtain ⟨d, p, r, ns, f, rfl, hd, hp, hw, q⟩ := h
    have G := ok_numberAt (P := P) (w := w) (mg := mg) (base := base) N.fn
    refine ⟨_, pss_one (ps_ret (pe_op op_sub (pe_op op_add (pe_d N G hr rfl (pa_cons (pv 0) (pa_cons (pe_ix ix_tup (pv 1) pe_int (fun _ _ => rfl)) pa_nil))) (pe_ix ix_tup (pv 1) pe_int (fun _ _ => rfl))) (pe_d N G hr rfl (pa_cons (pv 0) (pa_cons (pe_ix ix_tup (pv 1) pe_int (fun _ _ => rfl)) pa_nil))))), ?_⟩
    refine ⟨_, rfl, _, rfl, p, _, _, _, rfl, rfl, SqT.of hp, atI_nat (j := 0) rfl, d, r.lo, ns, f, rfl, hd, hw.1, ?_⟩
    refine ⟨_, rfl, p, _, _, _, rfl, rfl, SqT.of hp, atI_nat (j := 2) rfl, _, _, rfl, rfl, ?_⟩
    refine ⟨_, rfl, _, rfl, p, _, _, _, rfl, rfl, SqT.of hp, atI_nat (j := 1) rfl, d, r.hi, ns, f, rfl, hd, hw.2, _, _, rfl, rfl, q⟩
/-! broken_rules -/
open Classical in
noncomputable def brk (L : List (Addr × Rul)) (f : Str → Int) : List (Addr × Rul) := L.filter fun q => decide (¬ Holds f q.2)
theorem brk_nil {L : List (Addr × Rul)} {f : Str → Int} : brk L f = [] ↔ Adm (gapsOf L) f := by
  unfold brk Adm gapsOf
  rw [List.filter_eq_nil_iff]
  constructor
  · intro h r hr
    obtain ⟨q, hq, rfl⟩ := List.mem_map.mp hr
    have := h q hq
    simpa using this
  · intro h q hq
    have := h q.2 (List.mem_map.mpr ⟨q, hq, rfl⟩)
    simpa using this
def spBrokenRules (C : Addr) : Sp := fun vs H Q _ => ∃ (sy d : Addr) (ns : List Str) (L : List (Addr × Rul)) (f : Str → Int), vs = [.ref sy, .ref d] ∧ SysAt C H sy ns L ∧ PtAt H d ns f ∧ Within (gapsOf L) ns ∧ L.length < 1000 ∧
  ∀ H' p, Same H H' → H p = none → H' p = some (.lst (refs (brk L f))) → Q (.ref p) H'
theorem ok_brokenRules {x qual q2 q3 : Str} {C g g2 g3 : Addr} {fd fd2 fd3 : FuncData} (S : SysC K mg C) (F : Fun K x qual sBrokenRules g fd) (B : Dn K mg "short_by" q3 sShortBy ["numbers", "rule"] g3 fd3) (N : Dn K mg "number_at" q2 sNumberAt ["numbers", "thing"] g2 fd2) :
    FnOk P w K mg base CX0 3 g fd ["system", "numbers"] (spBrokenRules C) := by
  refine F.ok cBrokenRules (fun vs H Q E h => ?_) (fun cdv A outer s H vs Q E hr h => ?_)
  · obtain ⟨sy, d, ns, L, f, rfl, _⟩ := h
    rfl
  · obtain ⟨sy, d, ns, L, f, rfl, hs, hd, hw, hl, k⟩ := h
    have G := ok_shortBy (P := P) (w := w) (mg := mg) (base := base) B.fn N
    refine ⟨_, pss_one (ps_ret (pe_lc (own := [("rule", 2)]) (g := gName 2) rfl cBrokenRules.nd (pi_list (pe_fld (pv 0) rfl)) (blkOk_by (N := nBrokenRules) (sc := defScope sBrokenRules) (by decide +kernel)) (fun _ _ _ _ _ => pg_name (i := 2) cBrokenRules.nd rfl (Or.inl rfl))
      (fun _ _ _ _ _ => pts_one (pt_cmpR op_gt (pe_d B G hr rfl (pa_cons (pv 1) (pa_cons (pv 2) pa_nil))) pe_int (nomark _))) (fun _ _ _ _ _ => pv 2))), ?_⟩
    obtain ⟨dx, sl, gl, h1, h2, h3, h4⟩ := id hs
    refine ⟨_, rfl, sy, C, dx, _, _, rfl, h1, S.cl, S.nG, fs_gap, gl, rfl, ⟨_, SqL.of h3⟩, fun D hD => ?_⟩
    have hsD : ∀ acc, Same H (upd H D (.lst acc)) := fun acc => same_upd hD
    refine lc_list (xs := refs L) (fun i H' => H' = upd H D (.lst (refs (brk (L.take i) f)))) rfl (fun i H' _ e => e ▸ (hsD _).seq (SqL.of h3)) ?_ ?_
    · rintro i y H' hi rfl
      obtain ⟨q, hq, rfl⟩ : ∃ q, L[i]? = some q ∧ y = .ref q.1 := by
        rw [List.getElem?_map] at hi
        cases e : L[i]? with
        | none => rw [e] at hi; cases hi
        | some q => rw [e] at hi; exact ⟨q, rfl, (Option.some.inj hi).symm⟩
      have hm : q ∈ L := List.mem_of_getElem? hq
      have ew := hw q.2 (List.mem_map.mpr ⟨q, hm, rfl⟩)
      have hL : L.take (i + 1) = L.take i ++ [q] := by rw [List.take_add_one, hq]; rfl
      refine ⟨rfl, _, rfl, _, rfl, d, q.1, q.2, ns, f, rfl, hd.same (hsD _), (h4 q hm).same (hsD _), ew, _, _, rfl, rfl, _, rfl, ?_⟩
      by_cases hb : Holds f q.2
      · have e0 : decide ((0 : Int) < short f q.2) = false := decide_eq_false fun z => short_pos.mp z hb
        show if decide ((0 : Int) < short f q.2) = true then _ else _
        rw [e0, if_neg Bool.false_ne_true, hL]
        unfold brk
        rw [List.filter_append, List.filter_cons, if_neg (by simp [hb]), List.filter_nil, List.append_nil]
      · have e0 : decide ((0 : Int) < short f q.2) = true := decide_eq_true (short_pos.mpr hb)
        show if decide ((0 : Int) < short f q.2) = true then _ else _
        rw [e0, if_pos rfl]
        refine ⟨_, rfl, _, upd_same, ?_, ?_⟩
        · refine Nat.lt_of_le_of_lt (Nat.le_trans (Nat.le_of_eq (List.length_map _)) (Nat.le_trans (List.length_filter_le _ _) (List.length_take_le' _ _))) (Nat.lt_trans hl (by decide))
        · rw [upd_upd, hL]
          unfold brk refs
          rw [List.filter_append, List.filter_cons, if_pos (by simp [hb]), List.filter_nil, List.map_append]
          rfl
    · rintro H' rfl
      rw [List.length_map, List.take_length]
      exact k _ D (hsD _) hD upd_same
end
end K73
set_option maxHeartbeats 200000
/-! Promises of defs that look where the run stands: no repr is under way. -/
namespace K73
open PySem PySem.Spec PyProof.Rows L2
structure FnG (P : Program) (w : World) (K : PySem.W.Frag) (mg : Str → Option Value) (base : Heap) (k : Nat) (f : Addr) (fd : FuncData) (ps : List Str) (sp : Sp) : Prop where
  len : ∀ vs H Q E, sp vs H Q E → vs.length = ps.length
  run : ∀ (A : Around) (outer : List Env) (s : Shared) (H : Hp) (args : Args) (us : List Value) (vs : List V) (Q : VK) (E : XK), Room k A → A.guards = some [] → Env0 P w K mg base A outer s H → BindsTo s fd args (ps.zip us) → Vals vs us → sp vs H Q E →
    codeAny (model P w) A (.call (.ref f) args) (CR CX0 outer P w H s Q E) s
theorem fn_ofG {P : Program} {w : World} {K : PySem.W.Frag} {mg : Str → Option Value} {base : Heap} {k : Nat} {f : Addr} {name qual : Str} {params : Arguments} {body : List Stmt} {scope : Scope} {dV kV doc pm cdv ct oc : Value} {an od : Option Addr}
    {osl : Array (Option Value)} {N ps : List Str} {sp : Sp} (lk : K.lookup f = some ⟨oc, od, .func (PySem.W.fnOf name qual params body scope dV kV doc pm an cdv ct), osl⟩) (hcd : PySem.W.codeIn K cdv qual = true) (S : FnScope N ps scope)
    (len : ∀ vs H Q E, sp vs H Q E → vs.length = ps.length)
    (hbody : ∀ (A : Around) (outer : List Env) (s : Shared) (H : Hp) (vs : List V) (Q : VK) (E : XK), Room k (A.deeper (envOfC qual scope s.heap.objs.size f cdv)) → A.guards = some [] → sp vs H Q E →
      ∃ t, PSs (cxOf CX0 P w K mg base N qual scope f cdv A outer s H E) body t ∧ t { nx := fun _ H' => Q .non H', rt := Q } (L2.start N vs) H) :
    FnG P w K mg base (k + 1) f (PySem.W.fnOf name qual params body scope dV kV doc pm an cdv ct) ps sp := by
  refine ⟨len, fun A outer s H args us vs Q E hr hgd e0 hb r hsp => ?_⟩
  have hl := len _ _ _ _ hsp
  have KX : K.In s.heap := e0.mod.kin.keeps fun b o e => (e0.bs b o e).1
  have lim : s.heap.NoLimit := e0.mod.nolimit.keeps fun b o e => (e0.bs b o e).1
  have hkind : ∀ y ∈ ps.zip us, scope.names.lookup y.1 = some .local ∨ (scope.names.lookup y.1 = some .cell ∧ ((cellsFrom (s.heap.objs.size + 1) scope.names []).lookup y.1).isSome = true) := fun ⟨n, v⟩ hy => by
    rcases S.par n (List.of_mem_zip hy).1 with q | q
    · exact .inl q
    · exact .inr ⟨q, PySem.W.cellsFrom_some _ _ _ (.inl q)⟩
  refine codeAny_call_function hr.depth (KX _ _ lk) rfl S.co S.gen rfl (PySem.W.codeRec_of KX hcd) (hb _ _ _ _ ?_)
  refine wpAny_newFunctionEnv_cells S.kind hkind fun env he s1 x => ?_
  subst he
  refine ⟨lim.keeps x.toInCall.keep, codeAny_func ?_⟩
  obtain ⟨t, ht, hq⟩ := hbody A outer s H vs Q E (hr.deeper _) hgd hsp
  have I : Inv (cxOf CX0 P w K mg base N qual scope f cdv A outer s H E) [] (L2.start N vs) H s1 := inv_start S hr.hd e0 hl r x
  refine wpAny_mono (ht.run [] s1 (L2.start N vs) H _ I hq) (fun fl s' hs => ?_) fun e s' hs => hs
  have fin : ∀ {σ' : L2.St} {H' : Hp} {v : V} {u : Value}, Inv (cxOf CX0 P w K mg base N qual scope f cdv A outer s H E) [] σ' H' s' → RelV v u → Q v H' → CE outer P w H s Q u s' :=
    fun {σ' H' v u} J rv q => ⟨v, H', J.os, J.bare, J.base, J.hok, rv, q⟩
  cases fl with
  | ret u =>
    obtain ⟨v, σ', H', J, rv, q⟩ := hs
    exact fin J rv q
  | next =>
    obtain ⟨σ', H', J, q⟩ := hs
    exact fin (v := V.non) (u := Value.none) J rfl q
  | brk =>
    obtain ⟨_, _, _, q⟩ := hs
    exact False.elim q
  | cont =>
    obtain ⟨_, _, _, q⟩ := hs
    exact False.elim q
theorem Fun_okG {P : Program} {w : World} {K : PySem.W.Frag} {mg : Str → Option Value} {base : Heap} {x qual : Str} {st : Stmt} {f : Addr} {fd : FuncData} {N ps : List Str} {k : Nat} {sp : Sp} (F : Fun K x qual st f fd) (S : FnScope N ps (defScope st)) (len : ∀ vs H Q E, sp vs H Q E → vs.length = ps.length)
    (hbody : ∀ (cdv : Value) (A : Around) (outer : List Env) (s : Shared) (H : Hp) (vs : List V) (Q : VK) (E : XK), Room k (A.deeper (envOfC qual (defScope st) s.heap.objs.size f cdv)) → A.guards = some [] → sp vs H Q E →
      ∃ t, PSs (cxOf CX0 P w K mg base N qual (defScope st) f cdv A outer s H E).nox (defBody st) t ∧ t { nx := fun _ H' => Q .non H', rt := Q } (L2.start N vs) H) : FnG P w K mg base (k + 1) f fd ps sp := by
  obtain ⟨oc, od, kV, doc, pm, an, cdv, ct, osl, rfl, lk, hcd⟩ := F.ex
  refine fn_ofG lk hcd S len fun A outer s H vs Q E hr hgd hsp => ?_
  obtain ⟨t, h, q⟩ := hbody cdv A outer s H vs Q E hr hgd hsp
  exact ⟨t, h.nox, q⟩
section
variable {X : Cx} {k : Nat} {f : Addr} {fd : FuncData} {ps : List Str} {sp : Sp} {x qual : Str} {st : Stmt} {e : Expr} {es : List Expr} {p pos : Pos} {t : TA}
theorem run_fnG {pins : List (Addr × Obj)} {σ : L2.St} {H : Hp} {s : Shared} {Q : VK} {us ds : List Value} {vs dvs : List V} {E : XK} (F : FnG X.prog X.w X.K X.mg X.base k f fd ps sp) (hr : Room k X.A) (hgd : X.A.guards = some []) (hb : Binds X.K fd ps ds) (hd : Vals dvs ds) (hx : Passes CX0 X E)
    (I : Inv X pins σ H s) (r : Vals vs us) (h : sp (vs ++ dvs) H Q E) : wpAny (model X.prog X.w) X.A (call (.ref f) us) (EP X pins σ Q) X.xe s := by
  have r2 : Vals (vs ++ dvs) (us ++ ds) := r.append hd
  have hl : (us ++ ds).length = ps.length := by rw [← r2.length]; exact F.len _ _ _ _ h
  refine wpAny_call (codeAny_mono (F.run X.A X.stack s H ⟨us, []⟩ (us ++ ds) (vs ++ dvs) Q E hr hgd I.env0 (hb s us I.kIn hl) r2 h) fun r s' hq => ?_)
  cases r with
  | error e => exact hx pins σ H s e s' I hq
  | ok fl =>
    cases fl with
    | ret u => exact I.after hq
    | next => exact False.elim hq
    | brk => exact False.elim hq
    | cont => exact False.elim hq
theorem pe_dG (D : Dn X.K X.mg x qual st ps f fd) (G : FnG X.prog X.w X.K X.mg X.base k f fd ps sp) (hr : Room k X.A) (hgd : X.A.guards = some []) (hg : Gl X x) (ha : PA X (e :: es) t)
    (hdb : (x == ("__debug__" : Str)) = false := by decide) (he : starEach (e :: es) X.env = (false, eval e X.env) :: starEach es X.env := by rfl) (hpl : (backTo pos (starEach es X.env)).any (·.1) = false := by rfl) :
    PE X (.Call (.Name x p) (e :: es) [] pos) (tCall sp [] E0 t) := by
  refine ⟨fun pins s σ H Q I h => ?_⟩
  refine wpAny_Call_Name_kw (ld_glob I hg D.im ?_ hdb)
  refine PySem.W.callWith_K (h₀ := X.base) I.ok.mod.kin D.fn.kp (thn (ha.run pos pins s σ H _ I h) fun us s1 ⟨vs, H1, I1, r, q⟩ => ⟨I1.kIn, ?_⟩) he hpl
  exact run_fnG G hr hgd D.bi .nil pass0 I1 r q
end
end K73
set_option maxHeartbeats 200000
/-! {key: value for x in a list}, the keys different texts. -/
namespace K73
open PySem PySem.Spec PyProof.Rows L2
theorem nd_takeS {l : List Str} (nd : l.Nodup) {i : Nat} {x : Str} (h : l[i]? = some x) : x ∉ l.take i := by
  have e : (l.take (i + 1)).Nodup := nd.sublist (List.take_sublist _ _)
  rw [List.take_add_one, h, List.nodup_append] at e
  exact fun hx => e.2.2 x hx x (List.mem_singleton.mpr rfl) rfl
theorem val_out {kvs : List (Key × V)} {k : Key} (h : k ∉ kvs.map (·.1)) : valV kvs k = none := by
  cases e : valV kvs k with
  | none => rfl
  | some v => exact absurd (valV_in e) h
theorem dck {K : PySem.W.Frag} {a : Addr} {tk tv : TE} {j : Nat} {σ : L2.St} {H1 : Hp} {D : Addr} {Qd : Hp → Prop} (M : List (V × Str × V)) (nd : (M.map fun q => q.2.1).Nodup) (hz : M.length < sizeLine) (hl : SqL K H1 a (M.map (·.1))) (hD : H1 D = none)
    (hk : ∀ q H' (Qe : VK), q ∈ M → Same H1 H' → (∀ H4, Same H' H4 → Qe (.str q.2.1) H4) → tk (σ.set j (some q.1)) H' Qe)
    (hv : ∀ q H' (Qe : VK), q ∈ M → Same H1 H' → (∀ H4, Same H' H4 → Qe q.2.2 H4) → tv (σ.set j (some q.1)) H' Qe)
    (hd : ∀ H', Same H1 H' → H' D = some (.dK (M.map fun q => (.inr q.2.1, q.2.2))) → Qd H') :
    ∃ W : Nat → Nat → Hp → Prop, (∃ m, W 0 m (upd H1 D (.dK []))) ∧ ∀ i m H, W i m H →
      ((Itl K a).stop i H ∧ Qd H) ∨ ((Itl K a).go i H ∧ ∃ Nx : Hp → Prop, (∀ H', Nx H' → ∃ m', m' < m ∧ W (i + 1) m' H') ∧ ∀ x H', (Itl K a).yld i H x H' → gName j x (wipe σ [j]) H' fun σ2 H2 => wipe σ2 [j] = wipe σ [j] ∧ tYes σ2 H2 fun b H3 =>
        if b = true then tk σ2 H3 fun y H4 => tv σ2 H4 fun z H5 => ∃ kvs k, y = kV k ∧ H5 D = some (.dK kvs) ∧ kvs.length < sizeLine ∧ Nx (upd H5 D (.dK (putK kvs k z))) else Nx H3) := by
  have hn : (M.map (·.1)).length = M.length := List.length_map _
  refine ⟨fun i m H' => m = M.length - i ∧ i ≤ M.length ∧ Same H1 H' ∧ H' D = some (.dK ((M.take i).map fun q => (.inr q.2.1, q.2.2))), ⟨M.length, by simp, Nat.zero_le _, same_upd hD, upd_same⟩, ?_⟩
  rintro i m H' ⟨rfl, hi, e, hd'⟩
  by_cases hlt : i < M.length
  · refine .inr ⟨⟨_, (M.map (·.1))[i]'(by omega), e.seq hl, by simp [hlt]⟩, _, fun H'' p' => ⟨M.length - (i + 1), by omega, rfl, hlt, p'⟩, fun x H'' y => ?_⟩
    obtain ⟨e2, y⟩ := y
    subst e2
    have hx := y _ (e.seq hl)
    obtain ⟨q, hq, rfl⟩ : ∃ q, M[i]? = some q ∧ x = q.1 := by
      rw [List.getElem?_map] at hx
      cases e : M[i]? with
      | none => rw [e] at hx; cases hx
      | some q => rw [e] at hx; exact ⟨q, rfl, (Option.some.inj hx).symm⟩
    have hm : q ∈ M := List.mem_of_getElem? hq
    have hL : M.take (i + 1) = M.take i ++ [q] := by rw [List.take_add_one, hq]; rfl
    refine ⟨by rw [wipe_one, wipe_set], ?_⟩
    unfold tYes
    dsimp only
    rw [if_pos rfl, wipe_one]
    refine hk q H'' _ hm e fun H4 e4 => hv q H4 _ hm (e.trans e4) fun H5 e5 => ⟨_, .inr q.2.1, rfl, e5 _ _ (e4 _ _ hd'), ?_, same_put ((e.trans e4).trans e5) hD, ?_⟩
    · rw [List.length_map]
      exact Nat.lt_of_le_of_lt (List.length_take_le' _ _) hz
    · have hnot : (Sum.inr q.2.1 : Key) ∉ ((M.take i).map fun q => ((.inr q.2.1, q.2.2) : Key × V)).map (·.1) := fun z => by
        rw [List.map_map] at z
        obtain ⟨q', hq', eq⟩ := List.mem_map.mp z
        have eq : q'.2.1 = q.2.1 := Sum.inr.inj eq
        have h1 : (M.map fun q => q.2.1)[i]? = some q.2.1 := by rw [List.getElem?_map, hq]; rfl
        refine nd_takeS nd h1 ?_
        rw [← List.map_take]
        exact List.mem_map.mpr ⟨q', hq', eq⟩
      rw [upd_same, putK_new _ (val_out hnot), hL, List.map_append]
      rfl
  · have ei : i = M.length := by omega
    subst ei
    rw [List.take_length] at hd'
    exact .inl ⟨⟨_, e.seq hl, Nat.le_of_eq hn⟩, hd H' e hd'⟩
theorem ite_no {c : Bool} {A B : Prop} (h : c = false) (b : B) : if c = true then A else B := by rw [h]; exact iteF b
theorem ite_yes {c : Bool} {A B : Prop} (h : c = true) (a : A) : if c = true then A else B := by rw [h]; exact iteT a
/-- a thing that is locked for good as soon as it is there -/
def tFrz (te : TE) : TE := fun σ H Q => te σ H fun x H1 => ∃ d u, x = .ref d ∧ H1 d = some u ∧ Mut (some u) ∧ ∀ od, Q (.ref d) (upd H1 d (.frz od u))
theorem pe_frz {X : Cx} {e : Expr} {te : TE} (he : PE X e te) : PE X e (tFrz te) := by
  refine ⟨fun pins s σ H Q I h => thn (he.run pins s σ H _ I h) fun v s1 ⟨x, H1, I1, rx, d, u, ex, hd, mu, q⟩ => ?_⟩
  subst ex
  obtain ⟨od, I2⟩ := I1.lock hd mu
  exact ⟨.ref d, _, I2, rx, q od⟩
/-- a statement, whatever way it goes, and then the next -/
theorem two_step {t1 t2 : TS} {D : L2.Ends} {σ : L2.St} {H : Hp} (C : L2.St → Hp → Prop) (h1 : ∀ nx : L2.St → Hp → Prop, (∀ σ' H', C σ' H' → nx σ' H') → t1 { D with nx := nx } σ H) (h2 : ∀ σ' H', C σ' H' → t2 D σ' H') : tSeq t1 t2 D σ H := h1 _ h2
theorem e_join {te : TE} {σ : L2.St} {H : Hp} {Q : VK} (C : V → Hp → Prop) (h1 : ∀ Q' : VK, (∀ x H', C x H' → Q' x H') → te σ H Q') (h2 : ∀ x H', C x H' → Q x H') : te σ H Q := h1 Q h2
end K73
set_option maxHeartbeats 1000000
/-! Dicts whose keys are texts and None (oN), and dicts whose keys are tuples of texts, whole numbers and None (oT), over the layer. -/
namespace K73
open PySem PySem.Spec PyProof.Rows L2

/-- a leaf's value -/
def lV : Leaf → V
  | .none => .non
  | .num i => .int i
  | .text x => .str x
theorem lV_is {P : Program} {w : World} {k : Leaf} {u : Value} (r : RelV (lV k) u) : (leafKind P w).is k u = true := by
  cases k with
  | none => have e : u = Value.none := r; subst e; rfl
  | num i => obtain ⟨t, e⟩ := (show ∃ t, u = Value.int i t from r); subst e; exact decide_eq_true rfl
  | text x => obtain ⟨t, e⟩ := (show ∃ t, u = Value.str x t from r); subst e; show Value.isStrOf x (.str x t) = true; simp [Value.isStrOf]
theorem lV_inj {a b : Leaf} (e : lV a = lV b) : a = b := by
  cases a <;> cases b <;> simp [lV] at e <;> first | rfl | (rw [e])
theorem lVs_inj : ∀ {a b : List Leaf}, a.map lV = b.map lV → a = b
  | [], [], _ => rfl
  | [], _ :: _, e => by simp at e
  | _ :: _, [], e => by simp at e
  | x :: xs, y :: ys, e => by
    rw [List.map_cons, List.map_cons] at e
    injection e with e1 e2
    rw [lV_inj e1, lVs_inj e2]
theorem itemsL {P : Program} {w : World} : ∀ {ks : List Leaf} {us : List Value}, Vals (ks.map lV) us → ItemsAre (leafKind P w) ks us
  | [], _, r => by rw [List.map_nil] at r; cases r; exact .nil
  | k :: ks, _, r => by
    rw [List.map_cons] at r
    cases r with
    | cons h t => exact .cons (lV_is h) (itemsL t)

/-! ### keys that are texts and None -/
def phN (P : Program) (w : World) (a : Addr) (kvs : List (Leaf × V)) (h : Heap) : Prop := kvs.length ≤ sizeLine ∧ (a == sysModules) = false ∧ ∃ vs, KV kvs vs ∧ h.DictOf (leafKind P w) a vs
def oN (P : Program) (w : World) (a : Addr) (kvs : List (Leaf × V)) : HO := .ext (phN P w a kvs)
section
variable {P : Program} {w : World} {H : Hp} {h : Heap} {a : Addr} {kvs : List (Leaf × V)}
theorem dictOf_at {K : Type} [DecidableEq K] {knd : KeyKind P w K} {h1 h2 : Heap} {vs : List (K × Value)} (d : h1.DictOf knd a vs) (k : ∀ o, h1.get? a = some o → h2.get? a = some o) : h2.DictOf knd a vs := d.at k
theorem dictOf_there {K : Type} [DecidableEq K] {knd : KeyKind P w K} {vs : List (K × Value)} (d : h.DictOf knd a vs) : ∃ o, h.get? a = some o := let ⟨o, _, _, e, _⟩ := d; ⟨o, e⟩
theorem oN_ok (x : phN P w a kvs h) : ObjOk P w H h a (oN P w a kvs) :=
  ⟨x, let ⟨_, _, _, _, d⟩ := x; dictOf_there d, fun _ _ ⟨z, y, vs, r, d⟩ k => ⟨z, y, vs, r, dictOf_at d k⟩⟩
theorem oN_rd (ok : HOk P w H h) (e : Rd H a (oN P w a kvs)) : phN P w a kvs h := (show ObjOk P w H h a (oN P w a kvs) from e.ok ok).1
end

/-! ### keys that are tuples -/
abbrev XT := List Leaf × Addr × V
abbrev XTR : List XT → List (List Leaf × Addr × Value) → Prop := Paired fun p q => p.1 = q.1 ∧ p.2.1 = q.2.1 ∧ RelV p.2.2 q.2.2
def phT (P : Program) (w : World) (a : Addr) (xs : List XT) (h : Heap) : Prop := xs.length ≤ sizeLine ∧ (a == sysModules) = false ∧ ∃ ys, XTR xs ys ∧
  ∃ o es ep, h.get? a = some o ∧ o.ExactDict ∧ o.data = .dict es ep ∧ es.toList = ys.map (entryOfKey (tupleKind (leafKind P w))) ∧ (ys.map (·.1)).Nodup
def oT (P : Program) (w : World) (a : Addr) (xs : List XT) : HO := .ext (phT P w a xs)
/-- the keys' own tuples -/
def KeysAt (H : Hp) (xs : List XT) : Prop := ∀ x ∈ xs, H x.2.1 = some (.tup (x.1.map lV))
def atX (xs : List XT) (k : List Leaf) : Option V := (xs.find? fun x => decide (x.1 = k)).map fun x => x.2.2
def putX (xs : List XT) (k : List Leaf) (b : Addr) (v : V) : List XT := if (atX xs k).isSome = true then xs.map (fun x => if x.1 = k then (x.1, x.2.1, v) else x) else xs ++ [(k, b, v)]
section
variable {P : Program} {w : World} {H : Hp} {h : Heap} {a : Addr} {xs : List XT} {ys : List (List Leaf × Addr × Value)}
theorem oT_ok (x : phT P w a xs h) : ObjOk P w H h a (oT P w a xs) :=
  ⟨x, let ⟨_, _, _, _, o, _, _, e, _⟩ := x; ⟨o, e⟩, fun _ _ ⟨z, y, ys, r, o, es, ep, e, c⟩ k => ⟨z, y, ys, r, o, es, ep, k _ e, c⟩⟩
theorem oT_rd (ok : HOk P w H h) (e : Rd H a (oT P w a xs)) : phT P w a xs h := (show ObjOk P w H h a (oT P w a xs) from e.ok ok).1
theorem atX_rel (r : XTR xs ys) (k : List Leaf) : RelO (atX xs k) ((atKey ys k).map (·.2)) := by
  unfold XTR at r
  induction r with
  | nil => exact True.intro
  | @cons p q ps qs h t ih =>
    obtain ⟨h1, _, h2⟩ := h
    by_cases e : p.1 = k
    · have e' : q.1 = k := h1.symm.trans e
      have b : atKey (q :: qs) k = some q.2 := by simp [atKey, List.find?_cons, e']
      have c : atX (p :: ps) k = some p.2.2 := by simp [atX, List.find?_cons, e]
      rw [c, b]
      exact h2
    · have e' : ¬ q.1 = k := fun z => e (h1.trans z)
      have b : atKey (q :: qs) k = atKey qs k := by simp [atKey, List.find?_cons, e']
      have c : atX (p :: ps) k = atX ps k := by simp [atX, List.find?_cons, e]
      rw [c, b]
      exact ih
theorem putX_map (r : XTR xs ys) (k : List Leaf) {y : V} {u : Value} (ry : RelV y u) : XTR (xs.map fun x => if x.1 = k then (x.1, x.2.1, y) else x) (ys.map (putAt k u)) := by
  unfold XTR at r ⊢
  induction r with
  | nil => exact .nil
  | @cons p q ps qs h t ih =>
    rw [List.map_cons, List.map_cons]
    refine .cons ?_ ih
    obtain ⟨h1, h2, h3⟩ := h
    unfold putAt
    by_cases e : p.1 = k
    · rw [if_pos e, if_pos (h1.symm.trans e)]
      exact ⟨h1, h2, ry⟩
    · rw [if_neg e, if_neg (fun z => e (h1.trans z))]
      exact ⟨h1, h2, h3⟩
theorem putX_rel (r : XTR xs ys) (k : List Leaf) (b : Addr) {y : V} {u : Value} (ry : RelV y u) : XTR (putX xs k b y) (storedH ys k b u) := by
  have e : (atX xs k).isSome = (atKey ys k).isSome := by rw [(atX_rel r k).isSome_eq, Option.isSome_map]
  unfold putX storedH
  rw [e]
  by_cases q : (atKey ys k).isSome = true
  · rw [if_pos q, if_pos q]
    exact putX_map r k ry
  · rw [if_neg q, if_neg q]
    exact Paired.snoc r ⟨rfl, rfl, ry⟩
theorem putX_len (k : List Leaf) (b : Addr) (v : V) : (putX xs k b v).length ≤ xs.length + 1 := by
  unfold putX
  split
  · rw [List.length_map]; omega
  · rw [List.length_append, List.length_singleton]; omega
theorem keyL (ok : HOk P w H h) {b : Addr} {ks : List Leaf} (e : H b = some (.tup (ks.map lV))) : (tupleKind (leafKind P w)).is h ks b := by
  obtain ⟨_, its, r, o, h1, h2, n, h3⟩ := (show ObjOk P w H h b (.tup (ks.map lV)) from ok b _ e)
  exact ⟨o, its.toArray, n, h1, h2, h3, by simpa using itemsL r⟩
theorem phT_dict (ok : HOk P w H h) (x : phT P w a xs h) (kh : KeysAt H xs) : ∃ ys, XTR xs ys ∧ h.DictOfH (tupleKind (leafKind P w)) a ys := by
  obtain ⟨z, y, ys, r, o, es, ep, h1, h2, h3, h4, h5⟩ := x
  refine ⟨ys, r, o, es, ep, h1, h2, h3, h4, fun q hq => ?_, h5⟩
  have all : ∀ {l : List XT} {m : List (List Leaf × Addr × Value)}, XTR l m → (∀ x ∈ l, H x.2.1 = some (.tup (x.1.map lV))) → ∀ x ∈ m, (tupleKind (leafKind P w)).is h x.1 x.2.1 := by
    intro l m q
    unfold XTR at q
    induction q with
    | nil => intro _ x hx; exact nomatch hx
    | @cons p q ps qs hq t ih =>
      intro hl x hx
      rcases List.mem_cons.mp hx with e | hx
      · subst e
        obtain ⟨q1, q2, _⟩ := hq
        rw [← q1, ← q2]
        exact keyL ok (hl p List.mem_cons_self)
      · exact ih (fun x hx => hl x (List.mem_cons_of_mem _ hx)) x hx
  exact all r kh q hq
theorem putX_keys {k : List Leaf} {b : Addr} {v : V} (kh : KeysAt H xs) (hb : H b = some (.tup (k.map lV))) : KeysAt H (putX xs k b v) := by
  intro x hx
  unfold putX at hx
  split at hx
  · obtain ⟨q, hq, e⟩ := List.mem_map.mp hx
    have := kh q hq
    split at e
    · subst e; exact this
    · subst e; exact this
  · rcases List.mem_append.mp hx with hx | hx
    · exact kh x hx
    · rw [List.mem_singleton.mp hx]
      exact hb
end

/-! ### reading and writing, of both -/
/-- what the dict at a holds at the key y -/
def XGet (P : Program) (w : World) (H : Hp) (a : Addr) (y : V) (o : Option V) : Prop :=
  (∃ kvs k, Rd H a (oN P w a kvs) ∧ y = lV k ∧ o = valV kvs k) ∨ ∃ xs k b, Rd H a (oT P w a xs) ∧ KeysAt H xs ∧ y = .ref b ∧ H b = some (.tup (k.map lV)) ∧ o = atX xs k
def XPut (P : Program) (w : World) (H : Hp) (a : Addr) (y v : V) (H' : Hp) : Prop :=
  (∃ kvs k, H a = some (oN P w a kvs) ∧ y = lV k ∧ kvs.length < sizeLine ∧ H' = upd H a (oN P w a (putK kvs k v))) ∨
  ∃ xs k b, H a = some (oT P w a xs) ∧ KeysAt H xs ∧ y = .ref b ∧ H b = some (.tup (k.map lV)) ∧ xs.length < sizeLine ∧ H' = upd H a (oT P w a (putX xs k b v))
section
variable {X : Cx} {pins : List (Addr × Obj)} {σ : L2.St} {H : Hp} {s : Shared} {a : Addr} {y v : V} {u r : Value} {o : Option V} {A : Around} {E : Value → Shared → Prop}
theorem x_typeIs (I : Inv X pins σ H s) (g : XGet X.prog X.w H a y o) : s.TypeIs (.ref a) "dict" ∧ (∀ b, Value.ref a = .ref b → ∃ ob, s.heap.get? b = some ob ∧ ob.dict = none) ∧ (a == sysModules) = false := by
  rcases g with ⟨kvs, k, e, _, _⟩ | ⟨xs, k, b, e, _, _, _, _⟩
  · obtain ⟨_, hd, vs, _, dd⟩ := oN_rd I.hok e
    exact ⟨dd.typeIs, dd.mapOf.noDict, hd⟩
  · obtain ⟨_, hd, ys, _, ob, es, ep, e1, e2, _⟩ := oT_rd I.hok e
    exact ⟨⟨ob, e1, e2.1⟩, fun b q => by cases q; exact ⟨ob, e1, e2.2.1⟩, hd⟩
theorem x_getItem {Q : Value → Shared → Prop} (hu : A.units + 1 < cLine) (I : Inv X pins σ H s) (g : XGet X.prog X.w H a y (some v)) (ry : RelV y u) (h : ∀ w' s', Inv X pins σ H s' → RelV v w' → Q w' s') :
    wpAny (model X.prog X.w) A (getItem (.ref a) u) Q E s := by
  rcases g with ⟨kvs, k, e, ey, l⟩ | ⟨xs, k, b, e, kh, ey, eb, l⟩
  · subst ey
    obtain ⟨z, hd, vs, rel, dd⟩ := oN_rd I.hok e
    obtain ⟨w', hw, rw'⟩ := RelO.some_of (v := v) (o := valueAt vs k) (by rw [l]; exact rel.val k)
    exact wpAny_getItem_of (lV_is ry) dd.mapOf hw (h w' _ (I.tok _) rw')
  · subst ey
    cases (show u = Value.ref b from ry)
    obtain ⟨ys, rel, dd⟩ := phT_dict I.hok (oT_rd I.hok e) kh
    obtain ⟨w', hw, rw'⟩ := RelO.some_of (v := v) (o := (atKey ys k).map (·.2)) (by rw [l]; exact atX_rel rel k)
    obtain ⟨p, hp, hp2⟩ := Option.map_eq_some_iff.mp hw
    refine wpAny_getItem_heap (tupleKind_room_in1 hu) (keyL I.hok eb) dd hp ?_
    rw [hp2]
    exact h w' _ (I.tok _) rw'
theorem x_in {Q : Value → Shared → Prop} (hu : A.units + 1 < cLine) (I : Inv X pins σ H s) (g : XGet X.prog X.w H a y o) (ry : RelV y u) (h : ∀ s', Inv X pins σ H s' → Q (.bool o.isSome) s') :
    wpAny (model X.prog X.w) A (compareOp .In u (.ref a)) Q E s := by
  rcases g with ⟨kvs, k, e, ey, l⟩ | ⟨xs, k, b, e, kh, ey, eb, l⟩
  · subst ey
    obtain ⟨z, hd, vs, rel, dd⟩ := oN_rd I.hok e
    refine wpAny_in_of (lV_is ry) hd dd.mapOf ?_
    rw [← (rel.val k).isSome_eq, ← l]
    exact h _ (I.tok _)
  · subst ey
    cases (show u = Value.ref b from ry)
    have x := oT_rd I.hok e
    obtain ⟨ys, rel, dd⟩ := phT_dict I.hok x kh
    refine wpAny_in_heap (tupleKind_room_in1 hu) (keyL I.hok eb) x.2.1 dd ?_
    have q := (atX_rel rel k).isSome_eq
    rw [Option.isSome_map] at q
    rw [← q, ← l]
    exact h _ (I.tok _)
theorem x_notIn {Q : Value → Shared → Prop} (hu : A.units + 1 < cLine) (I : Inv X pins σ H s) (g : XGet X.prog X.w H a y o) (ry : RelV y u) (h : ∀ s', Inv X pins σ H s' → Q (.bool (!o.isSome)) s') :
    wpAny (model X.prog X.w) A (compareOp .NotIn u (.ref a)) Q E s := by
  rcases g with ⟨kvs, k, e, ey, l⟩ | ⟨xs, k, b, e, kh, ey, eb, l⟩
  · subst ey
    obtain ⟨z, hd, vs, rel, dd⟩ := oN_rd I.hok e
    refine wpAny_notIn_of (lV_is ry) hd dd.mapOf ?_
    rw [← (rel.val k).isSome_eq, ← l]
    exact h _ (I.tok _)
  · subst ey
    cases (show u = Value.ref b from ry)
    have x := oT_rd I.hok e
    obtain ⟨ys, rel, dd⟩ := phT_dict I.hok x kh
    refine wpAny_notIn_heap (tupleKind_room_in1 hu) (keyL I.hok eb) x.2.1 dd ?_
    have q := (atX_rel rel k).isSome_eq
    rw [Option.isSome_map] at q
    rw [← q, ← l]
    exact h _ (I.tok _)
theorem x_get2 {d : V} {Q : Value → Shared → Prop} (hu : A.units + 1 < cLine) (I : Inv X pins σ H s) (g : XGet X.prog X.w H a y o) (ry : RelV y u) (rd : RelV d r) (h : ∀ w' s', Inv X pins σ H s' → RelV (o.getD d) w' → Q w' s') :
    wpAny (model X.prog X.w) A (call (.builtin "dict.get") [.ref a, u, r]) Q E s := by
  rcases g with ⟨kvs, k, e, ey, l⟩ | ⟨xs, k, b, e, kh, ey, eb, l⟩
  · subst ey
    obtain ⟨z, hd, vs, rel, dd⟩ := oN_rd I.hok e
    refine call_meetsIn PySem.F.slot_dict_get dd.typeIs PySem.F.entry_dict_get (PySem.F.args_dict_get_3 _ _ _) (meets_dict_get_default (leafKind X.prog X.w) a (lV_is ry) hd r) ⟨_, dd.mapOf, h _ _ (I.tok _) ?_⟩
    rw [l]
    exact (rel.val k).getD rd
  · subst ey
    cases (show u = Value.ref b from ry)
    have x := oT_rd I.hok e
    obtain ⟨ys, rel, dd⟩ := phT_dict I.hok x kh
    refine call_meetsIn PySem.F.slot_dict_get (x_typeIs I (.inr ⟨xs, k, b, e, kh, rfl, eb, rfl⟩)).1 PySem.F.entry_dict_get (PySem.F.args_dict_get_3 _ _ _) (meetsH_dict_get_default (tupleKind (leafKind X.prog X.w)) a b x.2.1 r) ⟨tupleKind_room_in1 hu, k, ys, keyL I.hok eb, dd, h _ _ (I.tok _) ?_⟩
    rw [l]
    exact (atX_rel rel k).getD rd
theorem oN_new {P : Program} {w : World} {h' : Heap} {kvs : List (Leaf × V)} {vs : List (Leaf × Value)} (z : kvs.length ≤ sizeLine) (hd : (a == sysModules) = false) (rel : KV kvs vs) (dd : h'.DictOf (leafKind P w) a vs) : phN P w a kvs h' := ⟨z, hd, vs, rel, dd⟩
theorem x_setItem {H' : Hp} {Q : Unit → Shared → Prop} (hu : A.units + 1 < cLine) (I : Inv X pins σ H s) (g : XPut X.prog X.w H a y v H') (ry : RelV y u) (rv : RelV v r) (h : ∀ s', Inv X pins σ H' s' → Q () s') :
    wpAny (model X.prog X.w) A (setItem (.ref a) u r) Q E s := by
  rcases g with ⟨kvs, k, e, ey, l, eH⟩ | ⟨xs, k, b, e, kh, ey, eb, l, eH⟩
  · subst ey eH
    obtain ⟨z, hd, vs, rel, dd⟩ := oN_rd I.hok (.inl e)
    have hz : vs.length ≤ sizeLine := by rw [← rel.length]; exact z
    have hl : (putK kvs k v).length ≤ sizeLine := by have := length_putK kvs k v; omega
    refine wpAny_setItem_pairs (hsz := hz) (lV_is ry) dd fun h' dd' hs => h _ ?_
    exact d_write I (by rw [e]; exact True.intro) hs (dictOf_there dd') (oN_ok (oN_new hl hd (rel.put k rv) dd'))
  · subst ey eH
    cases (show u = Value.ref b from ry)
    have x := oT_rd I.hok (.inl e)
    obtain ⟨ys, rel, dd⟩ := phT_dict I.hok x kh
    have hz : ys.length ≤ sizeLine := by rw [← Paired.length rel]; exact x.1
    have hl : (putX xs k b v).length ≤ sizeLine := by have := putX_len (xs := xs) k b v; omega
    refine wpAny_setItem_heap (hsz := hz) (tupleKind_room_in1 hu) (keyL I.hok eb) dd fun h' dd' hs => h _ ?_
    obtain ⟨q, es, ep, hq, h2, h3, h4, _, h5⟩ := dd'
    exact d_write I (by rw [e]; exact True.intro) hs ⟨q, hq⟩ (oT_ok ⟨hl, x.2.1, _, putX_rel rel k b rv, q, es, ep, hq, h2, h3, h4, h5⟩)
/-- d[k] = v by a comprehension -/
theorem x_dictSet {H' : Hp} {Q : Unit → Shared → Prop} (hu : A.units + 1 < cLine) (I : Inv X pins σ H s) (g : XPut X.prog X.w H a y v H') (ry : RelV y u) (rv : RelV v r) (h : ∀ s', Inv X pins σ H' s' → Q () s') :
    wpAny (model X.prog X.w) A (dictSet a u r) Q E s := by
  rcases g with ⟨kvs, k, e, ey, l, eH⟩ | ⟨xs, k, b, e, kh, ey, eb, l, eH⟩
  · subst ey eH
    obtain ⟨z, hd, vs, rel, dd⟩ := oN_rd I.hok (.inl e)
    have hz : vs.length ≤ sizeLine := by rw [← rel.length]; exact z
    have hl : (putK kvs k v).length ≤ sizeLine := by have := length_putK kvs k v; omega
    refine wpAny_dictSet_pairs (hsz := hz) (lV_is ry) dd fun h' dd' hs => h _ ?_
    exact d_write I (by rw [e]; exact True.intro) hs (dictOf_there dd') (oN_ok (oN_new hl hd (rel.put k rv) dd'))
  · subst ey eH
    cases (show u = Value.ref b from ry)
    have x := oT_rd I.hok (.inl e)
    obtain ⟨ys, rel, dd⟩ := phT_dict I.hok x kh
    have hz : ys.length ≤ sizeLine := by rw [← Paired.length rel]; exact x.1
    have hl : (putX xs k b v).length ≤ sizeLine := by have := putX_len (xs := xs) k b v; omega
    have hu' : A.units < cLine := by omega
    refine wpAny_dictSet_heap (hsz := hz) hu' (keyL I.hok eb) dd fun h' dd' hs => h _ ?_
    obtain ⟨q, es, ep, hq, h2, h3, h4, _, h5⟩ := dd'
    exact d_write I (by rw [e]; exact True.intro) hs ⟨q, hq⟩ (oT_ok ⟨hl, x.2.1, _, putX_rel rel k b rv, q, es, ep, hq, h2, h3, h4, h5⟩)
end
end K73
set_option maxHeartbeats 1000000
/-! The expressions and statements over the dicts of Dicts. -/
namespace K73
open PySem PySem.Spec PyProof.Rows L2

def tXGet (P : Program) (w : World) (td ty : TE) : TE := fun σ H Q => td σ H fun x H1 => ty σ H1 fun y H2 => ∃ a v, x = .ref a ∧ XGet P w H2 a y (some v) ∧ Q v H2
def tXIn (P : Program) (w : World) (ty td : TE) : TE := fun σ H Q => ty σ H fun y H1 => td σ H1 fun x H2 => ∃ a o, x = .ref a ∧ XGet P w H2 a y o ∧ Q (.bl o.isSome) H2
def tXNotIn (P : Program) (w : World) (ty td : TE) : TE := fun σ H Q => ty σ H fun y H1 => td σ H1 fun x H2 => ∃ a o, x = .ref a ∧ XGet P w H2 a y o ∧ Q (.bl (!o.isSome)) H2
def sXPut (P : Program) (w : World) (td ty tv : TE) : TS := fun D σ H => tv σ H fun v H1 => td σ H1 fun x H2 => ty σ H2 fun y H3 => ∃ a H4, x = .ref a ∧ XPut P w H3 a y v H4 ∧ D.nx σ H4
/-- d.get(y, z): the dict is there ahead of the key -/
def IsX (P : Program) (w : World) (H : Hp) (a : Addr) : Prop := (∃ kvs, Rd H a (oN P w a kvs)) ∨ ∃ xs, Rd H a (oT P w a xs)
def tXGet2 (P : Program) (w : World) (td ty tx : TE) : TE := fun σ H Q => td σ H fun x H1 => ∃ a, x = .ref a ∧ IsX P w H1 a ∧ ty σ H1 fun y H2 => tx σ H2 fun z H3 => ∃ o, XGet P w H3 a y o ∧ Q (o.getD z) H3
section
variable {X : Cx} {o i e f value : Expr} {pos pos' apos cpos : Pos} {td ty tv tx : TE}
theorem pe_xget (hu : X.A.units + 1 < cLine) (ho : PE X o td) (hi : PE X i ty) (hs : NoSl i) : PE X (.Subscript o i pos) (tXGet X.prog X.w td ty) := by
  refine ⟨fun pins s σ H Q I h => ?_⟩
  refine subD_of PySem.F.slot_dict_getitem.lookup hs (thn (ho.run pins s σ H _ I h) fun u s1 ⟨x, H1, I1, rx, q1⟩ => thn (hi.run pins s1 σ H1 _ I1 q1) fun iv s2 ⟨y, H2, I2, ry, a, v, ex, g, q2⟩ => ?_)
  subst ex
  obtain rfl : u = Value.ref a := rx
  exact ⟨(x_typeIs I2 g).1, x_getItem hu I2 g ry fun w' s3 I3 rw' => ⟨v, H2, I3, rw', q2⟩⟩
theorem pc_xin (hu : X.A.units + 1 < cLine) (hi : PE X i ty) (ho : PE X o td) : PC X .In i o (tXIn X.prog X.w ty td) := by
  refine ⟨fun pins s σ H Q I h => ?_⟩
  refine thn (hi.run pins s σ H _ I h) fun iv s1 ⟨y, H1, I1, ry, q1⟩ => thn (ho.run pins s1 σ H1 _ I1 q1) fun u s2 ⟨x, H2, I2, rx, a, ov, ex, g, q2⟩ => ?_
  subst ex
  obtain rfl : u = Value.ref a := rx
  exact x_in hu I2 g ry fun s3 I3 => ⟨.bl ov.isSome, H2, I3, rfl, q2⟩
theorem pc_xnotin (hu : X.A.units + 1 < cLine) (hi : PE X i ty) (ho : PE X o td) : PC X .NotIn i o (tXNotIn X.prog X.w ty td) := by
  refine ⟨fun pins s σ H Q I h => ?_⟩
  refine thn (hi.run pins s σ H _ I h) fun iv s1 ⟨y, H1, I1, ry, q1⟩ => thn (ho.run pins s1 σ H1 _ I1 q1) fun u s2 ⟨x, H2, I2, rx, a, ov, ex, g, q2⟩ => ?_
  subst ex
  obtain rfl : u = Value.ref a := rx
  exact x_notIn hu I2 g ry fun s3 I3 => ⟨.bl (!ov.isSome), H2, I3, rfl, q2⟩
theorem ps_xput (hu : X.A.units + 1 < cLine) (ho : PE X o td) (hi : PE X i ty) (hv : PE X value tv) (hs : swapsWith value (some (.Subscript o i pos')) pos.line X.env = pure false := by rfl) :
    PS X (.Assign [.Subscript o i pos'] value pos) (sXPut X.prog X.w td ty tv) := by
  refine ⟨fun pins s σ H D I h => ?_⟩
  refine wpAny_Assign_Subscript (thn (hv.run pins s σ H _ I h) fun r s1 ⟨v, H1, I1, rv, q1⟩ => thn (ho.run pins s1 σ H1 _ I1 q1) fun u s2 ⟨x, H2, I2, rx, q2⟩ => thn (hi.run pins s2 σ H2 _ I2 q2) fun iv s3 ⟨y, H3, I3, ry, a, H4, ex, g, q3⟩ => ?_) hs
  subst ex
  obtain rfl : u = Value.ref a := rx
  exact x_setItem hu I3 g ry rv fun s4 I4 => ⟨σ, H4, I4, q3⟩
theorem isX_at {pins : List (Addr × Obj)} {σ : L2.St} {H : Hp} {s : Shared} {a : Addr} (I : Inv X pins σ H s) (d : IsX X.prog X.w H a) : s.TypeIs (.ref a) "dict" ∧ ∀ b, Value.ref a = .ref b → ∃ ob, s.heap.get? b = some ob ∧ ob.dict = none := by
  rcases d with ⟨kvs, e⟩ | ⟨xs, e⟩
  · obtain ⟨_, hd, vs, _, dd⟩ := oN_rd I.hok e
    exact ⟨dd.typeIs, dd.mapOf.noDict⟩
  · obtain ⟨_, hd, ys, _, ob, es, ep, e1, e2, _⟩ := oT_rd I.hok e
    exact ⟨⟨ob, e1, e2.1⟩, fun b q => by cases q; exact ⟨ob, e1, e2.2.1⟩⟩
theorem pe_xget2 (hu : X.A.units + 1 < cLine) (ho : PE X o td) (he : PE X e ty) (hf : PE X f tx) (m : M2 X o "get" apos e f cpos) : PE X (.Call (.Attribute o "get" apos) [e, f] [] cpos) (tXGet2 X.prog X.w td ty tx) := by
  refine ⟨fun pins s σ H Q I h => ?_⟩
  refine wpAny_Call_method m.base m.few m.line PySem.F.plainAttrs_dict PySem.F.slot_dict_get PySem.F.type_dict_get (thn (ho.run pins s σ H _ I h) fun u s1 ⟨x, H1, I1, rx, a, ex, d, q1⟩ => ?_)
  subst ex
  obtain rfl : u = Value.ref a := rx
  obtain ⟨t1, t2⟩ := isX_at I1 d
  refine ⟨t1, t2, ?_⟩
  rw [m.trees]
  refine Calls.callWith_builtin rfl (Calls.evalArgs_plain (Calls.spliced_cons (thn (he.run pins s1 σ H1 _ I1 q1) fun iv s2 ⟨y, H2, I2, ry, q2⟩ =>
    Calls.spliced_cons (thn (hf.run pins s2 σ H2 _ I2 q2) fun fv s3 ⟨z, H3, I3, rz, ov, g, q3⟩ => Calls.spliced_nil ?_))))
  exact x_get2 hu I3 g ry rz fun w' s4 I4 rw' => ⟨_, H3, I4, rw', q3⟩

/-! ### new ones -/
theorem phN_nil {P : Program} {w : World} (h : Heap) (hb : sysModules < h.objs.size) : phN P w h.objs.size [] (h.push { cls := .type "dict", data := .dict #[] }) :=
  ⟨Nat.zero_le _, beq_eq_false_iff_ne.mpr (Ne.symm (Nat.ne_of_lt hb)), [], .nil, Heap.DictOf.new h⟩
theorem phT_nil {P : Program} {w : World} (h : Heap) (hb : sysModules < h.objs.size) : phT P w h.objs.size [] (h.push { cls := .type "dict", data := .dict #[] }) :=
  ⟨Nat.zero_le _, beq_eq_false_iff_ne.mpr (Ne.symm (Nat.ne_of_lt hb)), [], .nil, _, #[], 0, Heap.get?_push_size _ rfl, ⟨rfl, rfl, rfl⟩, rfl, rfl, List.nodup_nil⟩
def tNewN (P : Program) (w : World) : TE := fun _ H Q => ∀ p, H p = none → Q (.ref p) (upd H p (oN P w p []))
theorem pe_newN : PE X (.Dict [] [] pos) (tNewN X.prog X.w) := ⟨fun pins s σ H Q I h =>
  wpAny_Dict_empty ⟨.ref s.heap.objs.size, _, I.laid (a := s.heap.objs.size) (o := oN X.prog X.w s.heap.objs.size []) (t' := s.toks) (fun _ _ q => Heap.get?_push_of_some _ q) (Nat.le_refl _) (oN_ok (phN_nil s.heap I.big)), rfl, h _ (I.hok.fresh (Nat.le_refl _))⟩⟩
/-- {k: v} with one entry -/
def tOneN (P : Program) (w : World) (tk tv : TE) : TE := fun σ H Q => ∀ p, H p = none → tk σ (upd H p (oN P w p [])) fun y H1 => tv σ H1 fun z H2 => ∃ k, H2 p = some (oN P w p []) ∧ y = lV k ∧ Q (.ref p) (upd H2 p (oN P w p [(k, z)]))
theorem pe_oneN {k v : Expr} {tk tv : TE} (hk : PE X k tk) (hv : PE X v tv) : PE X (.Dict [some k] [v] pos) (tOneN X.prog X.w tk tv) := by
  refine ⟨fun pins s σ H Q I q => ?_⟩
  have hn := I.hok.fresh (Nat.le_refl s.heap.objs.size)
  have I1 := I.laid (a := s.heap.objs.size) (o := oN X.prog X.w s.heap.objs.size []) (h' := s.heap.push { cls := .type "dict", data := .dict #[] }) (t' := s.toks) (fun _ _ q => Heap.get?_push_of_some _ q) (Nat.le_refl _) (oN_ok (phN_nil s.heap I.big))
  have pp := pps_cons (pos := pos) hk hv (pps_nil (X := X))
  refine wpAny_Dict_walk (knd := leafKind X.prog X.w) (by rfl) (by rfl) (by simp) (by simp) (thn (pp.run pins _ σ _ (fun ps H2 => match ps with
    | [(y, z)] => ∃ k, H2 s.heap.objs.size = some (oN X.prog X.w s.heap.objs.size []) ∧ y = lV k ∧ Q (.ref s.heap.objs.size) (upd H2 s.heap.objs.size (oN X.prog X.w s.heap.objs.size [(k, z)]))
    | _ => False) I1 (q _ hn)) fun ws s2 ⟨ps, H2, I2, rel, q2⟩ => ?_)
  match ps, q2 with
  | [(y, z)], ⟨k, e, ey, q2⟩ =>
    subst ey
    cases rel with
    | @cons _ b _ bs h t =>
      cases t
      obtain ⟨b1, b2⟩ := b
      obtain ⟨h1, h2⟩ := h
      obtain ⟨_, hd, vs0, r0, dd⟩ := oN_rd I2.hok (.inl e)
      cases r0
      refine ⟨[(k, b2)], ⟨lV_is h1, rfl, True.intro⟩, dd, fun h' dd' hs => ⟨.ref s.heap.objs.size, _, ?_, rfl, q2⟩⟩
      exact d_write I2 (by rw [e]; exact True.intro) hs (dictOf_there dd') (oN_ok (oN_new (show ([(k, z)] : List (Leaf × V)).length ≤ sizeLine by show 1 ≤ sizeLine; decide) hd (.cons ⟨rfl, h2⟩ .nil) dd'))

/-- len(d) -/
theorem call_lenN : CallR X (.builtin "len") (fun xs H Q => ∃ a kvs, xs = [V.ref a] ∧ Rd H a (oN X.prog X.w a kvs) ∧ Q (.int kvs.length) H) := by
  intro pins s σ H xs us Q I r h
  obtain ⟨a, kvs, rfl, ha, q⟩ := h
  obtain ⟨u, rfl, ru⟩ := vals1 r
  cases ru
  obtain ⟨z, hd, vs, rel, dd⟩ := oN_rd I.hok ha
  have rl : kvs.length = vs.length := rel.length
  refine call_len_dict hd dd (by rw [← rl]; rw [sizeLine_eq] at z; omega) ?_
  rw [← rl]
  exact ⟨.int kvs.length, H, I.tok _, ⟨_, rfl⟩, q⟩
end

/-! ### the keys walked, the dict locked -/
/-- the locked thing's object is a dict whose keys are ks -/
def KeysOb (o : Obj) (ks : List V) : Prop := o.ExactDict ∧ ∃ es ep, o.data = .dict es ep ∧ es.size = ks.length ∧ ∀ (i : Nat) (x : V), ks[i]? = some x → ∃ en, es[i]? = some en ∧ RelV x en.key
def ItX (d : Addr) (o : Obj) (ks : List V) : It :=
  ⟨fun i H => (∃ u, H d = some (.frz o u)) ∧ i < ks.length, fun i H x H' => H' = H ∧ ks[i]? = some x, fun i H => (∃ u, H d = some (.frz o u)) ∧ ks.length ≤ i⟩
theorem turn_keysX {P : Program} {w : World} {K : PySem.W.Frag} {tg : Expr} {d : Addr} {o : Obj} {es : Array DictEntry} {ep : Nat} {ks : List V} (it : Addr) (hod : o.data = .dict es ep) (hsz : es.size = ks.length)
    (hk : ∀ (i : Nat) (x : V), ks[i]? = some x → ∃ en, es[i]? = some en ∧ RelV x en.key) : Turn P w K tg (ItX d o ks) [it] it (fun i h => h.IsKeyIter it d i ks.length ep) where
  mem := by simp
  obj := fun i h st b hb => by
    have e : b = it := by simpa using hb
    subst e
    obtain ⟨oi, e, c, dd⟩ := st
    exact ⟨oi, e, fun v z => by rw [dd] at z; cases z⟩
  keep := fun i h h' st k => st.at fun oi e => k it (by simp) oi e
  item := by
    intro X hP hw hK hc i pins s σ H E I hf st hg
    subst hP hw hK
    obtain ⟨⟨u, hd⟩, hi⟩ := hg
    obtain ⟨f0, f1, f2, f3, f4, f5⟩ := hf it (by simp)
    have hgd : s.heap.get? d = some o := (I.hok d _ hd).1
    obtain ⟨x, hx⟩ : ∃ x, ks[i]? = some x := ⟨ks[i], List.getElem?_eq_getElem hi⟩
    obtain ⟨en, hen, hr⟩ := hk i x hx
    refine next_key_item st hgd hod hsz hen fun h' st' sb => ?_
    have I1 : Inv X pins σ H { s with heap := h' } := I.turned (t' := s.toks) (fun b ob hb e => (sb.2 b hb).trans e) f0 f1 f3 f4 f5
    obtain ⟨oi, e, c, dd⟩ := id st'
    exact ⟨en.key, rfl, go_of (s := { s with heap := h' }) e c dd (by decide) ⟨x, H, I1, hr, ⟨rfl, hx⟩, st', fun b hb => (hf b hb).1⟩⟩
  done := by
    intro X hP hw hK hc i pins s σ H E I hf st hg
    subst hP hw hK
    obtain ⟨⟨u, hd⟩, hi⟩ := hg
    obtain ⟨f0, f1, f2, f3, f4, f5⟩ := hf it (by simp)
    have hgd : s.heap.get? d = some o := (I.hok d _ hd).1
    exact next_key_end (I.ok.hd hc) st hgd hod hsz hi fun h' eb => ⟨rfl, I.turned (t' := s.toks) (fun b ob hb e => eb b ob hb e) f0 f1 f3 f4 f5⟩
  self := fun A i s Q E st h => by
    refine wpAny_pyIter_slot st.typeIs F.slot_dict_keyiterator_iter (wpAny_call_entry F.slot_dict_keyiterator_iter st.typeIs F.entry_dict_keyiterator_iter ?_ (F.args_dict_keyiterator_iter_1 _))
    show wpAny _ _ (ret (.ref it)) _ _ s
    exact wpAny_pure ⟨_, rfl, "dict_keyiterator", _, st.typeIs, F.slot_dict_keyiterator_next.lookup, h⟩
theorem leaf_rel {P : Program} {w : World} {k : Leaf} {u : Value} (h : (leafKind P w).is k u = true) (hn : ∀ i, k ≠ .num i) : RelV (lV k) u := by
  cases k with
  | none => cases u <;> first | rfl | exact absurd h Bool.false_ne_true
  | num i => exact (hn i rfl).elim
  | text x =>
    obtain ⟨t, e⟩ := Value.isStrOf_shape (show Value.isStrOf x u = true from h)
    subst e
    exact ⟨t, rfl⟩
theorem pairs_at {P : Program} {w : World} : ∀ {es : List DictEntry} {vs : List (Leaf × Value)}, Pairs (leafKind P w) es vs → ∀ {i : Nat} {k : Leaf} {u : Value} {en : DictEntry}, vs[i]? = some (k, u) → es[i]? = some en → (leafKind P w).is k en.key = true
  | _, _, .nil, i, _, _, _, h, _ => by simp at h
  | _, _, .cons h _ _, 0, _, _, _, h1, h2 => by
    simp only [List.getElem?_cons_zero, Option.some.injEq] at h1 h2
    subst h2
    cases h1
    exact h
  | _, _, .cons _ _ t, i + 1, _, _, _, h1, h2 => pairs_at t (i := i) (by simpa using h1) (by simpa using h2)
theorem pairs_get {P : Program} {w : World} {es : List DictEntry} {vs : List (Leaf × Value)} {kvs : List (Leaf × V)} (hp : Pairs (leafKind P w) es vs) (r : KV kvs vs) : es.length = kvs.length ∧ ∀ (i : Nat) (k : Leaf) (v : V), kvs[i]? = some (k, v) → ∃ en, es[i]? = some en ∧ (leafKind P w).is k en.key = true := by
  have l1 : kvs.length = vs.length := Paired.length r
  refine ⟨by rw [hp.length, l1], fun i k v e => ?_⟩
  obtain ⟨u, hu, _⟩ := kv_get r e
  have hi : i < es.length := by
    have := (List.getElem?_eq_some_iff.mp hu).1
    rw [hp.length]
    exact this
  refine ⟨es[i], List.getElem?_eq_getElem hi, ?_⟩
  exact pairs_at hp hu (List.getElem?_eq_getElem hi)
theorem Inv.frzN {X : Cx} {pins : List (Addr × Obj)} {σ : L2.St} {H : Hp} {s : Shared} {d : Addr} {o : Obj} {kvs : List (Leaf × V)} (I : Inv X pins σ H s) (h : H d = some (.frz o (oN X.prog X.w d kvs))) (hn : ∀ q ∈ kvs, ∀ i, q.1 ≠ .num i) :
    (d == sysModules) = false ∧ s.heap.get? d = some o ∧ KeysOb o (kvs.map fun q => lV q.1) := by
  obtain ⟨hd, ⟨z, hs, vs, kv, o', es, ep, ho, hx, hdt, _, hp, _⟩, _⟩ := I.hok d _ h
  rw [hd] at ho
  cases ho
  obtain ⟨p1, p2⟩ := pairs_get hp kv
  refine ⟨hs, hd, hx, es, ep, hdt, by rw [List.length_map, ← p1, Array.length_toList], fun i x e => ?_⟩
  rw [List.getElem?_map] at e
  cases q : kvs[i]? with
  | none => rw [q] at e; cases e
  | some kv =>
    rw [q] at e
    have e : lV kv.1 = x := Option.some.inj e
    obtain ⟨en, h1, h2⟩ := p2 i kv.1 kv.2 q
    refine ⟨en, by rw [← Array.getElem?_toList]; exact h1, ?_⟩
    rw [← e]
    exact leaf_rel h2 (hn kv (List.mem_of_getElem? q))
theorem Inv.frzT' {X : Cx} {pins : List (Addr × Obj)} {σ : L2.St} {H : Hp} {s : Shared} {d : Addr} {o : Obj} {xs : List XT} (I : Inv X pins σ H s) (h : H d = some (.frz o (oT X.prog X.w d xs))) :
    (d == sysModules) = false ∧ s.heap.get? d = some o ∧ KeysOb o (xs.map fun q => V.ref q.2.1) := by
  obtain ⟨hd, ⟨z, hs, ys, r, o', es, ep, ho, hx, hdt, he, _⟩, _⟩ := I.hok d _ h
  rw [hd] at ho
  cases ho
  have l1 : es.size = ys.length := size_of_entries he
  have l2 : xs.length = ys.length := Paired.length r
  refine ⟨hs, hd, hx, es, ep, hdt, by rw [List.length_map]; omega, fun i x e => ?_⟩
  rw [List.getElem?_map] at e
  cases q : xs[i]? with
  | none => rw [q] at e; cases e
  | some p =>
    rw [q] at e
    have e : V.ref p.2.1 = x := Option.some.inj e
    obtain ⟨b, hb, e1, e2, _⟩ := paired_get r q
    have en := entry_at he i
    rw [hb] at en
    refine ⟨_, en, ?_⟩
    rw [← e]
    show Value.ref b.2.1 = Value.ref p.2.1
    rw [e2]
/-- for k in d: d locked -/
def iKeysX (P : Program) (w : World) (td : TE) : TI := fun σ H R => td σ H fun x H1 => ∃ d o, x = .ref d ∧
  ((∃ kvs, H1 d = some (.frz o (oN P w d kvs)) ∧ (∀ q ∈ kvs, ∀ i, q.1 ≠ .num i) ∧ R (ItX d o (kvs.map fun q => lV q.1)) H1) ∨ ∃ xs, H1 d = some (.frz o (oT P w d xs)) ∧ R (ItX d o (xs.map fun q => V.ref q.2.1)) H1)
theorem pi_keysX {X : Cx} {tg e : Expr} {td : TE} (he : PE X e td) : PI X tg e (iKeysX X.prog X.w td) := by
  refine ⟨fun pins s σ H R I h => ?_⟩
  refine thn (he.run pins s σ H _ I h) fun u s1 ⟨x, H1, I1, rx, d, o, ex, q⟩ => ?_
  subst ex
  obtain rfl : u = Value.ref d := rx
  rcases q with ⟨kvs, hd, hn, q⟩ | ⟨xs, hd, q⟩
  · obtain ⟨hs, hgd, hx, es, ep, hdt, hsz, hk⟩ := K73.Inv.frzN I1 hd hn
    refine iter_keys hs hgd hx hdt (pi_one (tk := s1.toks) I1 _ (turn_keysX _ hdt hsz hk) ⟨_, Heap.get?_push_size _ rfl, rfl, ?_⟩ q)
    rw [hsz] <;> rfl
  · obtain ⟨hs, hgd, hx, es, ep, hdt, hsz, hk⟩ := K73.Inv.frzT' I1 hd
    refine iter_keys hs hgd hx hdt (pi_one (tk := s1.toks) I1 _ (turn_keysX _ hdt hsz hk) ⟨_, Heap.get?_push_size _ rfl, rfl, ?_⟩ q)
    rw [hsz] <;> rfl

/-! ### {k: v for target in iter if ..}, for both kinds -/
section
variable {X : Cx}
/-- D the new dict; o0 its kind, empty -/
def tDcX (P : Program) (w : World) (o0 : Addr → HO) (wi : TI) (g : TG) (tt : TT) (tk tv : TE) (vs : List Nat) : TE := fun σ H Q => wi σ H fun J H1 => ∀ D, H1 D = none → ∃ W : Nat → Nat → Hp → Prop, (∃ m, W 0 m (upd H1 D (o0 D))) ∧ ∀ i m H, W i m H →
  (J.stop i H ∧ Q (.ref D) H) ∨ (J.go i H ∧ ∃ Nx : Hp → Prop, (∀ H', Nx H' → ∃ m', m' < m ∧ W (i + 1) m' H') ∧ ∀ x H', J.yld i H x H' → g x (wipe σ vs) H' fun σ2 H2 => wipe σ2 vs = wipe σ vs ∧ tt σ2 H2 fun b H3 =>
    if b = true then tk σ2 H3 fun y H4 => tv σ2 H4 fun z H5 => ∃ H6, XPut P w H5 D y z H6 ∧ Nx H6 else Nx H3)
/-- how the kind begins -/
def Empty0 (P : Program) (w : World) (o0 : Addr → HO) : Prop := ∀ (H : Hp) (h : Heap), sysModules < h.objs.size → ObjOk P w H (h.push { cls := .type "dict", data := .dict #[] }) h.objs.size (o0 h.objs.size)
theorem empty_N {P : Program} {w : World} : Empty0 P w (fun D => oN P w D []) := fun _ h hb => oN_ok (phN_nil h hb)
theorem empty_T {P : Program} {w : World} : Empty0 P w (fun D => oT P w D []) := fun _ h hb => oT_ok (phT_nil h hb)
theorem dcX_core {o0 : Addr → HO} {pins : List (Addr × Obj)} {s : Shared} {σ : L2.St} {H : Hp} {Q : VK} {kx vx tg iter : Expr} {ifs : List Expr} {scope : Scope} {own : List (Str × Nat)} {pos pos' : Pos} {wi : TI} {g : TG} {tt : TT} {tk tv : TE} {use : Option (Value → Sem Unit)} {Qf : Value → Shared → Prop}
    (h0 : Empty0 X.prog X.w o0) (hu : X.A.units + 1 < cLine) (hc : X.calm = true) (hN : X.N.Nodup) (I : Inv X pins σ H s) (hi : PI X tg iter wi) (ok : BlkOk X.N X.env.scope scope own)
    (hg : ∀ (s : Shared) (H : Hp) (C : Addr) (cl : List (Str × Addr)) (fp : List Addr), PG (X.blk s H scope (compEnvC scope cl C X.env) fp) tg g)
    (ht : ∀ (s : Shared) (H : Hp) (C : Addr) (cl : List (Str × Addr)) (fp : List Addr), PTs (X.blk s H scope (compEnvC scope cl C X.env) fp) ifs tt)
    (hk : ∀ (s : Shared) (H : Hp) (C : Addr) (cl : List (Str × Addr)) (fp : List Addr), PE (X.blk s H scope (compEnvC scope cl C X.env) fp) kx tk)
    (he : ∀ (s : Shared) (H : Hp) (C : Addr) (cl : List (Str × Addr)) (fp : List Addr), PE (X.blk s H scope (compEnvC scope cl C X.env) fp) vx tv)
    (hs : ∀ x, foldedSetIterable iter X.env x = pure x) (h : tDcX X.prog X.w o0 wi g tt tk tv (own.map (·.2)) σ H Q)
    (hRR : ∀ D C s' m H', Inv X pins σ H' s' → Q (.ref D) H' → s'.heap.Ns C m → FpOk X pins H' C → compPost (model X.prog X.w) X.A X.xe use Qf (.ref D) C (.ok .next) s') :
    wpAny (model X.prog X.w) X.A (comprehension (.DictComp kx vx [⟨tg, iter, ifs, 0⟩] scope pos) scope X.env pos' newDict false (eval iter X.env) use) Qf X.xe s := by
  have captured : ∀ y ∈ scope.names, y.2 = .free → ∃ c, X.env.cells.lookup y.1 = some c := fun y hy e => (ok.free y hy e).elim (fun k => I.ok.has _ (.inl k)) fun k => I.ok.has _ (.inr k)
  refine wpAny_comprehension_free (use := use) rfl hs (closure_ok captured) ok.kind (fun y hy e => by rw [ok.uniq y hy, e]) (thn (hi.run pins s σ H _ I h) fun xv s1 hx => thn hx fun itv s2 came => ?_)
  obtain ⟨it, fp, tn, J, H2, e, I2, T, st2, f2, q⟩ := came
  subst e
  refine wpAny_newObj_type (newEnv_comp ?_)
  generalize hD : s2.heap.objs.size = D
  have freeD : H2 D = none := I2.hok.fresh (Nat.le_of_eq hD)
  obtain ⟨W, ⟨m0, w0⟩, turn⟩ := q D freeD
  generalize hs3 : ({ s2 with heap := s2.heap.push { cls := .type "dict", data := .dict #[] } } : Shared) = s3
  have I3 : Inv X pins σ (upd H2 D (o0 D)) s3 := by
    rw [← hs3]
    refine I2.laid (t' := s2.toks) (fun b o e => Heap.get?_push_of_some _ e) (Nat.le_of_eq hD) ?_
    rw [← hD]
    exact h0 _ s2.heap I2.big
  have heap3 : s3.heap = s2.heap.push { cls := .type "dict", data := .dict #[] } := by rw [← hs3]
  have below : ∀ b ∈ fp, b < s2.heap.objs.size := fun b hb => let ⟨o, e, _⟩ := T.obj _ _ st2 b hb; Heap.lt_size e
  have f3 : ∀ b ∈ fp, FpOk X pins (upd H2 D (o0 D)) b ∧ b < s3.heap.objs.size := fun b hb => by
    have hlt := below b hb
    refine ⟨⟨?_, (f2 b hb).2⟩, by rw [heap3, Heap.size_push]; exact Nat.lt_succ_of_lt hlt⟩
    rw [upd_ne (by rw [← hD]; exact Nat.ne_of_lt hlt)]
    exact (f2 b hb).1
  have st3 : tn 0 s3.heap := T.keep _ _ _ st2 fun b _ o e => by rw [heap3]; exact Heap.get?_push_of_some _ e
  have I4 := block_start I3 ok hN f3
  have pg := hg s3 (upd H2 D (o0 D)) s3.heap.objs.size (cellsFrom (s3.heap.objs.size + 1) scope.names (cloFrom X.env.cells scope.names [])) fp
  have pt := ht s3 (upd H2 D (o0 D)) s3.heap.objs.size (cellsFrom (s3.heap.objs.size + 1) scope.names (cloFrom X.env.cells scope.names [])) fp
  have pk := hk s3 (upd H2 D (o0 D)) s3.heap.objs.size (cellsFrom (s3.heap.objs.size + 1) scope.names (cloFrom X.env.cells scope.names [])) fp
  have pe := he s3 (upd H2 D (o0 D)) s3.heap.objs.size (cellsFrom (s3.heap.objs.size + 1) scope.names (cloFrom X.env.cells scope.names [])) fp
  show codeAny _ _ (.compStart (.DictComp kx vx [⟨tg, iter, ifs, 0⟩] scope pos) 0 (.ref it) (.ref D) (compEnvC scope (cellsFrom (s3.heap.objs.size + 1) scope.names (cloFrom X.env.cells scope.names [])) s3.heap.objs.size X.env))
    (compPost (model X.prog X.w) X.A X.xe use Qf (.ref D) s3.heap.objs.size) { s3 with heap := pushCells (s3.heap.push { cls := .type "dict", data := .dict #[] }) scope.names }
  have apart : ∀ b ∈ fp, (upd H2 D (o0 D)) b = none := fun b hb => (f3 b hb).1.1
  generalize hce : compEnvC scope (cellsFrom (s3.heap.objs.size + 1) scope.names (cloFrom X.env.cells scope.names [])) s3.heap.objs.size X.env = ce at I4 pg pt pk pe ⊢
  have locs : ce.locals = s3.heap.objs.size := by subst hce; rfl
  generalize hH3 : upd H2 D (o0 D) = H3 at I3 I4 pg pt pk pe w0 apart f3
  generalize hs4 : ({ s3 with heap := pushCells (s3.heap.push { cls := .type "dict", data := .dict #[] }) scope.names } : Shared) = s4 at I4 ⊢
  have st4 : tn 0 s4.heap := T.keep _ _ _ st3 fun b _ o e => by rw [← hs4]; exact pushCells_keeps _ _ _ _ (Heap.get?_push_of_some _ e)
  have again : ∀ {σ' : L2.St} {H' : Hp} {s' : Shared}, Inv (X.blk s3 H3 scope ce fp) [] σ' H' s' → (∀ b ∈ fp, H' b = none) → ∀ b ∈ fp, FpOk (X.blk s3 H3 scope ce fp) [] H' b := fun {σ' H' s'} I' hn b hb =>
    ⟨hn b hb, (I'.ok.exf b hb).1, I'.ok.exfs b hb, .inl hb, fun x c e => (I'.ok.exf b hb).2 x c e, fun p hp => absurd (show p ∈ ([] : List (Addr × Obj)) ++ [] from hp) (by simp)⟩
  have loop : codeAny (model X.prog X.w) X.A (.compLoop (.DictComp kx vx [⟨tg, iter, ifs, 0⟩] scope pos) 0 (.ref it) (.ref D) ce) (compPost (model X.prog X.w) X.A X.xe use Qf (.ref D) s3.heap.objs.size) s4 := by
    refine compLoop_anyD (fun n s' => ∃ i H', Inv (X.blk s3 H3 scope ce fp) [] (wipe σ (own.map (·.2))) H' s' ∧ tn i s'.heap ∧ (∀ b ∈ fp, H' b = none) ∧ W i n H') ?_ m0 ⟨0, H3, I4, st4, apart, w0⟩
    rintro n s5 ⟨i, H5, I5, st5, n5, w5⟩
    rcases turn i n H5 w5 with ⟨stop, qq⟩ | ⟨go, Nx, hNx, step⟩
    · refine thnF (T.done (X.blk s3 H3 scope ce fp) rfl rfl rfl hc i [] s5 _ H5 (fun _ _ => False) I5 (again I5 n5) st5 stop) fun r s6 ⟨hr, I6⟩ => ?_
      subst hr
      have I7 : Inv X pins σ H5 s6 := I3.call' (ch := fp) I6.os I6.base I6.hok I6.bare fun b hb => ⟨(f3 b hb).1.2.2.2.1, (f3 b hb).1.2.1, (f3 b hb).1.2.2.2.2.1, (f3 b hb).1.2.2.2.2.2⟩
      have nC : H5 s3.heap.objs.size = none := by
        have z : H5 ce.locals = none := I6.free
        rw [locs] at z
        exact z
      obtain ⟨m, hn, _⟩ := I6.loc
      have hn : s6.heap.Ns ce.locals m := hn
      rw [locs] at hn
      exact hRR D s3.heap.objs.size s6 m H5 I7 qq hn (I3.fpOk (Nat.le_refl _) nC)
    · refine thnF (T.item (X.blk s3 H3 scope ce fp) rfl rfl rfl hc i [] s5 _ H5 (fun _ _ => False) I5 (again I5 n5) st5 go) fun r s6 ⟨u, hr, h6⟩ => ?_
      subst hr
      refine thnF h6 fun _ s7 ⟨x, H7, I7, r7, y7, st7, n7⟩ => ?_
      have I7' := I7.pinned (again I7 n7) (T.obj _ _ st7)
      refine thnF (pg.run _ s7 _ H7 x u _ I7' r7 (step x H7 y7)) fun _ s8 ⟨σ8, H8, I8, hw8, q8⟩ => ?_
      refine thnF (pt.run _ s8 σ8 H8 _ I8 q8) fun b s9 ⟨H9, I9, q9⟩ => ?_
      have close : ∀ {s' : Shared} {H' : Hp}, Inv (X.blk s3 H3 scope ce fp) ([] ++ pinsAt fp s7.heap) σ8 H' s' → Nx H' → ∃ m, m < n ∧ ∃ i H', Inv (X.blk s3 H3 scope ce fp) [] (wipe σ (own.map (·.2))) H' s' ∧ tn i s'.heap ∧ (∀ b ∈ fp, H' b = none) ∧ W i m H' := fun {s' H'} I' nx => by
        obtain ⟨m', hm, w'⟩ := hNx H' nx
        have held : ∀ b ∈ fp, ∀ o, s7.heap.get? b = some o → s'.heap.get? b = some o ∧ H' b = none := fun b hb o e =>
          let z := I'.pin (b, o) (List.mem_append_right _ (List.mem_append_right _ (mem_pinsAt hb e)))
          ⟨z.1, z.2.1⟩
        have hl : (wipe σ (own.map (·.2))).length = σ8.length := by rw [← hw8, wipe_length]
        refine ⟨m', hm, i + 1, H', (I'.unpinned (pins := [])).weak hl (fun j v e => ?_), T.keep _ _ _ st7 fun b hb o e => (held b hb o e).1, fun b hb => ?_, w'⟩
        · rw [← hw8] at e
          exact (wipe_some e).1
        · obtain ⟨o, e, _⟩ := T.obj _ _ st7 b hb
          exact (held b hb o e).2
      cases b with
      | false =>
        simp only [Bool.false_eq_true, if_false] at q9 ⊢
        exact close I9 q9
      | true =>
        simp only [if_true] at q9 ⊢
        refine thnF (pk.run _ s9 σ8 H9 _ I9 q9) fun z s10 ⟨yk, H10, I10, r10, q10⟩ => ?_
        refine thnF (pe.run _ s10 σ8 H10 _ I10 q10) fun z2 s11 ⟨yv, H11, I11, r11, H12, put, nx⟩ => ?_
        exact x_dictSet (X := X.blk s3 H3 scope ce fp) hu I11 put r10 r11 fun s12 I12 => close I12 nx
  exact codeAny_compStart_dict loop (T.self X.A 0 _ _ _ st4 loop)
/-- as a value -/
theorem pe_dcX {o0 : Addr → HO} {kx vx tg iter : Expr} {ifs : List Expr} {scope : Scope} {own : List (Str × Nat)} {pos : Pos} {wi : TI} {g : TG} {tt : TT} {tk tv : TE} (h0 : Empty0 X.prog X.w o0) (hu : X.A.units + 1 < cLine) (hc : X.calm = true) (hN : X.N.Nodup) (hi : PI X tg iter wi) (ok : BlkOk X.N X.env.scope scope own)
    (hg : ∀ (s : Shared) (H : Hp) (C : Addr) (cl : List (Str × Addr)) (fp : List Addr), PG (X.blk s H scope (compEnvC scope cl C X.env) fp) tg g)
    (ht : ∀ (s : Shared) (H : Hp) (C : Addr) (cl : List (Str × Addr)) (fp : List Addr), PTs (X.blk s H scope (compEnvC scope cl C X.env) fp) ifs tt)
    (hk : ∀ (s : Shared) (H : Hp) (C : Addr) (cl : List (Str × Addr)) (fp : List Addr), PE (X.blk s H scope (compEnvC scope cl C X.env) fp) kx tk)
    (he : ∀ (s : Shared) (H : Hp) (C : Addr) (cl : List (Str × Addr)) (fp : List Addr), PE (X.blk s H scope (compEnvC scope cl C X.env) fp) vx tv)
    (hs : ∀ x, foldedSetIterable iter X.env x = pure x := by intro _; rfl) : PE X (.DictComp kx vx [⟨tg, iter, ifs, 0⟩] scope pos) (tDcX X.prog X.w o0 wi g tt tk tv (own.map (·.2))) := by
  refine ⟨fun pins s σ H Q I h => ?_⟩
  rw [arm_eval_DictComp]
  refine dcX_core h0 hu hc hN I hi ok hg ht hk he hs h fun D C s' m H' I' q hn f => ⟨m, hn, fun h'' sb => ?_⟩
  obtain ⟨f0, f1, f2, f3, f4, f5⟩ := f
  exact ⟨.ref D, H', I'.turned (t' := s'.toks) (fun b o hb e => (sb.2 b hb).trans e) f0 f1 f3 f4 f5, rfl, q⟩
/-- over a list that stays as it is -/
theorem dcX_list {P : Program} {w : World} {K : PySem.W.Frag} {a : Addr} {xs : List V} {g : TG} {tt : TT} {tk tv : TE} {vs : List Nat} {σ : L2.St} {H1 : Hp} {D : Addr} {Qd : Hp → Prop} {o0 : HO} (Pv : Nat → Hp → Prop) (h0 : Pv 0 (upd H1 D o0)) (hl : ∀ i H, i ≤ xs.length → Pv i H → SqL K H a xs)
    (hs : ∀ i x H, xs[i]? = some x → Pv i H → g x (wipe σ vs) H fun σ2 H2 => wipe σ2 vs = wipe σ vs ∧ tt σ2 H2 fun b H3 =>
      if b = true then tk σ2 H3 fun y H4 => tv σ2 H4 fun z H5 => ∃ H6, XPut P w H5 D y z H6 ∧ Pv (i + 1) H6 else Pv (i + 1) H3) (hd : ∀ H, Pv xs.length H → Qd H) :
    ∃ W : Nat → Nat → Hp → Prop, (∃ m, W 0 m (upd H1 D o0)) ∧ ∀ i m H, W i m H →
      ((Itl K a).stop i H ∧ Qd H) ∨ ((Itl K a).go i H ∧ ∃ Nx : Hp → Prop, (∀ H', Nx H' → ∃ m', m' < m ∧ W (i + 1) m' H') ∧ ∀ x H', (Itl K a).yld i H x H' → g x (wipe σ vs) H' fun σ2 H2 => wipe σ2 vs = wipe σ vs ∧ tt σ2 H2 fun b H3 =>
        if b = true then tk σ2 H3 fun y H4 => tv σ2 H4 fun z H5 => ∃ H6, XPut P w H5 D y z H6 ∧ Nx H6 else Nx H3) := by
  refine ⟨fun i m H => m = xs.length - i ∧ i ≤ xs.length ∧ Pv i H, ⟨xs.length, by simp, Nat.zero_le _, h0⟩, ?_⟩
  rintro i m H ⟨rfl, hi, p⟩
  have q := hl i H hi p
  by_cases hlt : i < xs.length
  · refine .inr ⟨⟨xs, xs[i], q, by simp [hlt]⟩, Pv (i + 1), fun H' p' => ⟨xs.length - (i + 1), by omega, rfl, hlt, p'⟩, fun x H' y => ?_⟩
    obtain ⟨e, y⟩ := y
    subst e
    exact hs i x _ (y xs q) p
  · have e : i = xs.length := by omega
    subst e
    exact .inl ⟨⟨xs, q, Nat.le_refl _⟩, hd H p⟩
/-- y = {k: v for ..}: y's store within the comprehension's frame -/
theorem ps_setDcX {o0 : Addr → HO} {i : Nat} {y : Str} {py : Pos} {kx vx tg iter : Expr} {ifs : List Expr} {scope : Scope} {own : List (Str × Nat)} {pos spos : Pos} {wi : TI} {g : TG} {tt : TT} {tk tv : TE} (h0 : Empty0 X.prog X.w o0) (hu : X.A.units + 1 < cLine) (hc : X.calm = true) (hN : X.N.Nodup)
    (hy : X.N[i]? = some y) (hyl : X.env.scope.names.lookup y = some .local) (hsw : swapsWith (.DictComp kx vx [⟨tg, iter, ifs, 0⟩] scope pos) (some (.Name y py)) spos.line X.env = pure true) (hi : PI X tg iter wi) (ok : BlkOk X.N X.env.scope scope own)
    (hg : ∀ (s : Shared) (H : Hp) (C : Addr) (cl : List (Str × Addr)) (fp : List Addr), PG (X.blk s H scope (compEnvC scope cl C X.env) fp) tg g)
    (ht : ∀ (s : Shared) (H : Hp) (C : Addr) (cl : List (Str × Addr)) (fp : List Addr), PTs (X.blk s H scope (compEnvC scope cl C X.env) fp) ifs tt)
    (hk : ∀ (s : Shared) (H : Hp) (C : Addr) (cl : List (Str × Addr)) (fp : List Addr), PE (X.blk s H scope (compEnvC scope cl C X.env) fp) kx tk)
    (he : ∀ (s : Shared) (H : Hp) (C : Addr) (cl : List (Str × Addr)) (fp : List Addr), PE (X.blk s H scope (compEnvC scope cl C X.env) fp) vx tv)
    (hs : ∀ x, foldedSetIterable iter X.env x = pure x := by intro _; rfl) : PS X (.Assign [.Name y py] (.DictComp kx vx [⟨tg, iter, ifs, 0⟩] scope pos) spos) (tAsg (tDcX X.prog X.w o0 wi g tt tk tv (own.map (·.2))) (gName i)) := by
  refine ⟨fun pins s σ H D I h => ?_⟩
  rw [exec_Assign_Name_used _ _ _ _ hsw]
  refine wpAny_bind (wpAny_standAt (wpAny_bind ?_))
  show wpAny _ X.A (do let _ ← comprehension (.DictComp kx vx [⟨tg, iter, ifs, 0⟩] scope pos) scope X.env (firstIterPos [⟨tg, iter, ifs, 0⟩] pos) newDict false (eval iter X.env) (some (assign (.Name y py) X.env))) _ _ s
  have h : tDcX X.prog X.w o0 wi g tt tk tv (own.map (·.2)) σ H (fun x H1 => gName i x σ H1 D.nx) := h
  refine wpAny_bind (thn (dcX_core (Qf := fun _ s' => SP X pins D .next s') h0 hu hc hN I hi ok hg ht hk he hs h fun L C s' m H' I' q hn f => ?_) fun _ s' hq => wpAny_pure (wpAny_pure hq))
  show wpAny _ _ (assign (.Name y py) X.env (.ref L)) _ _ _
  refine wpAny_assign_Name (store_ok2 (v := V.ref L) I' hN hy (.inl hyl) rfl (fun s2 I2 ⟨a, sb, ha⟩ => ?_) (.inr hyl))
  obtain ⟨f0, f1, f2, f3, f4, f5⟩ := f
  have apart : C ≠ a := ha.elim (fun z => by rw [z]; exact f1) fun z e => f4 y a z e.symm
  exact ⟨m, hn.sameBut sb apart, fun h3 sb3 => ⟨_, H', I2.turned (t' := s2.toks) (fun b o hb e => (sb3.2 b hb).trans e) f0 f1 f3 f4 f5, q⟩⟩
theorem sw_trueD {kx vx : Expr} {gs : List Comprehension} {scope : Scope} {pos py : Pos} {y : Str} {l : Nat} {env : Env} (hk : env.scope.kind = .function) (hy : env.scope.names.lookup y = some .local) (hl : (py.line == pos.line) = true)
    (ha : (scope.names.any fun (n, k) => n == y && (k == .local || k == .cell)) = false) : swapsWith (.DictComp kx vx gs scope pos) (some (.Name y py)) l env = pure true := by
  have ky : env.kindOf y = some .local := hy
  have hb : env.blockKind = .function := by unfold Env.blockKind; rw [hk]; rfl
  unfold swapsWith
  simp only [hb, ky, ha, Expr.pos, hl]
  rfl
end
end K73
set_option maxHeartbeats 200000
/-! dict(xs) of pairs whose keys are tuples of leaves. -/
namespace K73
open PySem PySem.Spec PyProof.Rows L2
def putAllX (acc : List XT) (xs : List XT) : List XT := xs.foldl (fun acc x => putX acc x.1 x.2.1 x.2.2) acc
theorem putAllX_rel : ∀ {xs : List XT} {ys : List (List Leaf × Addr × Value)} {acc : List XT} {acc' : List (List Leaf × Addr × Value)}, XTR xs ys → XTR acc acc' → XTR (putAllX acc xs) (PySem.storedAllH acc' ys)
  | [], _, _, _, r, ra => by
    unfold XTR at r
    cases r
    exact ra
  | x :: xs, _, acc, acc', r, ra => by
    unfold XTR at r
    cases r with
    | @cons _ q _ qs h t =>
      obtain ⟨h1, h2, h3⟩ := h
      have z := putX_rel ra x.1 x.2.1 h3
      have := putAllX_rel (xs := xs) t z
      show XTR (putAllX (putX acc x.1 x.2.1 x.2.2) xs) (PySem.storedAllH (storedH acc' q.1 q.2.1 q.2.2) qs)
      rw [← h1, ← h2]
      exact this
theorem putAllX_len : ∀ (xs acc : List XT), (putAllX acc xs).length ≤ acc.length + xs.length
  | [], acc => Nat.le_refl _
  | x :: xs, acc => by
    have := putAllX_len xs (putX acc x.1 x.2.1 x.2.2)
    have h2 := putX_len (xs := acc) x.1 x.2.1 x.2.2
    show (putAllX (putX acc x.1 x.2.1 x.2.2) xs).length ≤ _
    rw [List.length_cons]
    omega
theorem putAllX_keys {H : Hp} : ∀ (xs acc : List XT), KeysAt H acc → KeysAt H xs → KeysAt H (putAllX acc xs)
  | [], acc, h, _ => h
  | x :: xs, acc, h, hx => putAllX_keys xs _ (putX_keys h (hx x List.mem_cons_self)) fun y hy => hx y (List.mem_cons_of_mem _ hy)
theorem pairX {X : Cx} {pins : List (Addr × Obj)} {σ : L2.St} {H : Hp} {s : Shared} (I : Inv X pins σ H s) : ∀ {Ts : List Addr} {xs : List XT}, Paired (fun T (x : XT) => SqT X.K H T [.ref x.2.1, x.2.2]) Ts xs →
    ∃ ys : List (List Leaf × Addr × Value), XTR xs ys ∧ ys.length = Ts.length ∧ ∀ (j : Nat) (q : List Leaf × Addr × Value), ys[j]? = some q → ∃ T, Ts[j]? = some T ∧ s.heap.IsTuple T #[.ref q.2.1, q.2.2]
  | _, _, .nil => ⟨[], .nil, rfl, fun j q h => by simp at h⟩
  | T :: Ts, x :: xs, .cons h t => by
    obtain ⟨ys, r, hl, hy⟩ := pairX I t
    obtain ⟨its, rv, pl, hz⟩ := I.tuple h
    obtain ⟨u1, u2, rfl, r1, r2⟩ := vals2 rv
    obtain rfl : u1 = Value.ref x.2.1 := r1
    refine ⟨(x.1, x.2.1, u2) :: ys, .cons ⟨rfl, rfl, r2⟩ r, by rw [List.length_cons, List.length_cons, hl], fun j q hq => ?_⟩
    cases j with
    | zero =>
      have e : (x.1, x.2.1, u2) = q := Option.some.inj hq
      subst e
      exact ⟨T, rfl, pl⟩
    | succ j =>
      obtain ⟨T', h1, h2⟩ := hy j q hq
      exact ⟨T', h1, h2⟩
section
variable {X : Cx}
theorem call_dictX (hcalm : X.calm = true) (hu : X.A.units + 64 < cLine) : CallR X (.type "dict") (fun vs H Q => ∃ (a : Addr) (Ts : List Addr) (xs : List XT), vs = [.ref a] ∧ SqL X.K H a (Ts.map V.ref) ∧ Paired (fun T (x : XT) => SqT X.K H T [.ref x.2.1, x.2.2]) Ts xs ∧ KeysAt H xs ∧
    ∀ p, H p = none → Q (.ref p) (upd H p (oT X.prog X.w p (putAllX [] xs)))) := by
  intro pins s σ H vs us Q I r q
  obtain ⟨a, Ts, xs, ex, hq, hp, hk, q⟩ := q
  subst ex
  obtain ⟨u, eu, rx⟩ := vals1 r
  subst eu
  cases rx
  obtain ⟨its, rv, pl, hz⟩ := I.list hq
  have ei := refs_at rv
  subst ei
  rw [List.length_map] at hz
  obtain ⟨ys, rel, hl, hy⟩ := pairX I hp
  obtain ⟨o, n, ho, hc, hd, hdat⟩ := pl
  have hm : (s.heap.objs.size == sysModules) = false := beq_eq_false_iff_ne.mpr (Nat.ne_of_gt I.big)
  have hys : ∀ x ∈ ys, (tupleKind (leafKind X.prog X.w)).is s.heap x.1 x.2.1 := by
    have all : ∀ {l : List XT} {m : List (List Leaf × Addr × Value)}, XTR l m → (∀ x ∈ l, H x.2.1 = some (.tup (x.1.map lV))) → ∀ x ∈ m, (tupleKind (leafKind X.prog X.w)).is s.heap x.1 x.2.1 := by
      intro l m q
      unfold XTR at q
      induction q with
      | nil => intro _ x hx; exact nomatch hx
      | @cons p q ps qs hq t ih =>
        intro hl x hx
        rcases List.mem_cons.mp hx with e | hx
        · subst e
          obtain ⟨q1, q2, _⟩ := hq
          rw [← q1, ← q2]
          exact keyL I.hok (hl p List.mem_cons_self)
        · exact ih (fun x hx => hl x (List.mem_cons_of_mem _ hx)) x hx
    exact all rel hk
  refine PySem.call_dict_pairsH (knd := tupleKind (leafKind X.prog X.w)) (ps := ys) (PySem.PairArg.list a (Ts.map Value.ref).toArray (fun j => Ts.getD j 0) (ys.map fun q => (.ref q.2.1, q.2.2))) (I.ok.hd hcalm) ?_ ⟨⟨o, n, ho, hc, hd, hdat⟩, by simp [hl], fun j k v hj => ?_⟩ ⟨by rw [List.length_map], fun i key v hi => ?_⟩ ?_ (by rw [List.length_map, hl]; exact hz) fun h' tk hd' hkeep => ?_
  · show X.A.in1.in1.units < cLine
    show X.A.units + 1 + 1 < cLine
    omega
  · rw [List.getElem?_map] at hj
    cases e : ys[j]? with
    | none => rw [e] at hj; cases hj
    | some q' =>
      rw [e] at hj
      have hj := Option.some.inj hj
      obtain ⟨T, h1, h2⟩ := hy j q' e
      have e3 : Ts.getD j 0 = T := by rw [List.getD_eq_getElem?_getD, h1]; rfl
      have ek : Value.ref q'.2.1 = k := congrArg Prod.fst hj
      have ev : q'.2.2 = v := congrArg Prod.snd hj
      subst ek ev
      show (List.map Value.ref Ts).toArray[j]? = some (Value.ref (Ts.getD j 0)) ∧ PairAt s.heap (Ts.getD j 0) _ _
      rw [e3]
      exact ⟨by simp [h1], .inl h2⟩
  · have hi : (ys.map fun q => ((.ref q.2.1, q.2.2) : Value × Value))[i]? = some (key, v) := hi
    rw [List.getElem?_map] at hi
    cases e : ys[i]? with
    | none => rw [e] at hi; cases hi
    | some q' =>
      rw [e] at hi
      have hj := Option.some.inj hi
      have ev : q'.2.2 = v := congrArg Prod.snd hj
      subst ev
      exact ⟨q'.1, q'.2.1, rfl, (congrArg Prod.fst hj).symm⟩
  · intro h2 hk2 x hx
    have z := hys x hx
    obtain ⟨ob, its, n', g1, g2, g3, g4⟩ := z
    exact ⟨ob, its, n', hk2 _ _ (Nat.ne_of_lt (Heap.lt_size g1)) (fun m => nomatch m) g1, g2, g3, g4⟩
  · have hlen : (putAllX [] xs).length ≤ sizeLine := by
      refine Nat.le_trans (putAllX_len xs []) ?_
      have := Paired.length rel
      rw [List.length_nil, Nat.zero_add, this, hl]
      exact hz
    obtain ⟨o2, es, ep, g1, g2, g3, g4, g5, g6⟩ := hd'
    refine ⟨.ref s.heap.objs.size, upd H s.heap.objs.size (oT X.prog X.w s.heap.objs.size (putAllX [] xs)), I.laid (t' := tk) (fun b o e => hkeep b o (fun m => nomatch m) e) (Nat.le_refl _) (oT_ok ⟨hlen, hm, PySem.storedAllH [] ys, putAllX_rel rel .nil, o2, es, ep, g1, g2, g3, g4, g6⟩), rfl, q _ (I.hok.fresh (Nat.le_refl _))⟩
end
/-! what is in it then -/
theorem atX_some {xs : List XT} {k : List Leaf} : (atX xs k).isSome = true ↔ k ∈ xs.map (·.1) := by
  unfold atX
  induction xs with
  | nil => simp
  | cons x t ih =>
    rw [List.find?_cons, List.map_cons, List.mem_cons]
    by_cases e : x.1 = k
    · simp [e]
    · have q : decide (x.1 = k) = false := decide_eq_false e
      rw [q]
      rw [ih]
      exact ⟨.inr, fun h => h.resolve_left fun z => e z.symm⟩
theorem atX_app {xs ys : List XT} {k : List Leaf} : atX (xs ++ ys) k = if (atX xs k).isSome = true then atX xs k else atX ys k := by
  unfold atX
  rw [List.find?_append]
  cases xs.find? (fun x => decide (x.1 = k)) with
  | none => rfl
  | some x => rfl
theorem atX_map {xs : List XT} {k j : List Leaf} {v : V} : atX (xs.map fun x => if x.1 = k then (x.1, x.2.1, v) else x) j = if j = k then (if (atX xs k).isSome = true then some v else none) else atX xs j := by
  unfold atX
  induction xs with
  | nil => simp
  | cons x t ih =>
    rw [List.map_cons, List.find?_cons, List.find?_cons, List.find?_cons]
    by_cases e : x.1 = k
    · rw [if_pos e]
      by_cases ej : j = k
      · have q1 : decide (x.1 = j) = true := decide_eq_true (e.trans ej.symm)
        have q2 : decide (x.1 = k) = true := decide_eq_true e
        simp [q1, q2, ej, e]
      · have q1 : decide (x.1 = j) = false := decide_eq_false fun z => ej (z.symm.trans e)
        simp only [q1]
        rw [ih, if_neg ej, if_neg ej]
    · rw [if_neg e]
      have q2 : decide (x.1 = k) = false := decide_eq_false e
      simp only [q2]
      by_cases e1 : x.1 = j
      · have q1 : decide (x.1 = j) = true := decide_eq_true e1
        have ej : ¬ j = k := fun z => e (e1.trans z)
        simp [q1, ej]
      · have q1 : decide (x.1 = j) = false := decide_eq_false e1
        simp only [q1]
        rw [ih]
theorem atX_putX (xs : List XT) (k : List Leaf) (b : Addr) (v : V) (j : List Leaf) : atX (putX xs k b v) j = if j = k then some v else atX xs j := by
  unfold putX
  by_cases h : (atX xs k).isSome = true
  · rw [if_pos h, atX_map]
    by_cases e : j = k
    · rw [if_pos e, if_pos e, if_pos h]
    · rw [if_neg e, if_neg e]
  · rw [if_neg h, atX_app]
    by_cases e : j = k
    · rw [if_pos e, e, if_neg h]
      unfold atX
      simp
    · rw [if_neg e]
      split
      · rfl
      · rename_i h2
        have : atX xs j = none := by
          cases q : atX xs j with
          | none => rfl
          | some v => rw [q] at h2; exact absurd rfl h2
        rw [this]
        unfold atX
        have q : decide (k = j) = false := decide_eq_false fun z => e z.symm
        simp [q]
theorem keys_putX (xs : List XT) (k : List Leaf) (b : Addr) (v : V) : (putX xs k b v).map (·.1) = if k ∈ xs.map (·.1) then xs.map (·.1) else xs.map (·.1) ++ [k] := by
  unfold putX
  by_cases h : (atX xs k).isSome = true
  · rw [if_pos h, if_pos (atX_some.mp h), List.map_map]
    refine List.map_congr_left fun x _ => ?_
    show (if x.1 = k then (x.1, x.2.1, v) else x).1 = x.1
    split <;> rfl
  · rw [if_neg h, if_neg fun z => h (atX_some.mpr z), List.map_append]
    rfl
theorem nd_putX {xs : List XT} (h : (xs.map (·.1)).Nodup) (k : List Leaf) (b : Addr) (v : V) : ((putX xs k b v).map (·.1)).Nodup := by
  rw [keys_putX]
  split
  · exact h
  · rename_i hk
    exact nd_snoc h hk
theorem mem_putX {xs : List XT} {k : List Leaf} {b : Addr} {v : V} {x : XT} (h : x ∈ putX xs k b v) : (∃ y ∈ xs, x.1 = y.1 ∧ x.2.1 = y.2.1) ∨ (x.1 = k ∧ x.2.1 = b) := by
  unfold putX at h
  split at h
  · obtain ⟨y, hy, e⟩ := List.mem_map.mp h
    refine .inl ⟨y, hy, ?_⟩
    split at e
    · subst e; exact ⟨rfl, rfl⟩
    · subst e; exact ⟨rfl, rfl⟩
  · rcases List.mem_append.mp h with z | z
    · exact .inl ⟨x, z, rfl, rfl⟩
    · rw [List.mem_singleton.mp z]
      exact .inr ⟨rfl, rfl⟩
theorem nd_putAllX : ∀ (xs acc : List XT), (acc.map (·.1)).Nodup → ((putAllX acc xs).map (·.1)).Nodup
  | [], _, h => h
  | x :: xs, acc, h => nd_putAllX xs _ (nd_putX h x.1 x.2.1 x.2.2)
theorem mem_putAllX : ∀ (xs acc : List XT) {x : XT}, x ∈ putAllX acc xs → (∃ y ∈ acc, x.1 = y.1 ∧ x.2.1 = y.2.1) ∨ ∃ y ∈ xs, x.1 = y.1 ∧ x.2.1 = y.2.1
  | [], acc, x, h => .inl ⟨x, h, rfl, rfl⟩
  | z :: xs, acc, x, h => by
    rcases mem_putAllX xs (putX acc z.1 z.2.1 z.2.2) h with ⟨y, hy, e1, e2⟩ | ⟨y, hy, e⟩
    · rcases mem_putX hy with ⟨u, hu, g1, g2⟩ | ⟨g1, g2⟩
      · exact .inl ⟨u, hu, e1.trans g1, e2.trans g2⟩
      · exact .inr ⟨z, List.mem_cons_self, e1.trans g1, e2.trans g2⟩
    · exact .inr ⟨y, List.mem_cons_of_mem _ hy, e⟩
theorem keys_putAllX : ∀ (xs acc : List XT) {k : List Leaf}, k ∈ (putAllX acc xs).map (·.1) ↔ k ∈ acc.map (·.1) ∨ k ∈ xs.map (·.1)
  | [], acc, k => by show k ∈ acc.map (·.1) ↔ _; simp
  | z :: xs, acc, k => by
    show k ∈ (putAllX (putX acc z.1 z.2.1 z.2.2) xs).map (·.1) ↔ _
    rw [keys_putAllX xs (putX acc z.1 z.2.1 z.2.2), keys_putX, List.map_cons, List.mem_cons]
    split
    · rename_i hk
      constructor
      · rintro (h | h)
        · exact .inl h
        · exact .inr (.inr h)
      · rintro (h | h | h)
        · exact .inl h
        · exact .inl (h ▸ hk)
        · exact .inr h
    · rw [List.mem_append, List.mem_singleton]
      constructor
      · rintro ((h | h) | h)
        · exact .inl h
        · exact .inr (.inl h)
        · exact .inr (.inr h)
      · rintro (h | h | h)
        · exact .inl (.inl h)
        · exact .inl (.inr h)
        · exact .inr h
theorem at_putAllX {v : V} : ∀ (xs acc : List XT) (j : List Leaf), (∀ x ∈ xs, x.2.2 = v) → atX (putAllX acc xs) j = if j ∈ xs.map (·.1) then some v else atX acc j
  | [], acc, j, _ => by show atX acc j = _; simp
  | z :: xs, acc, j, h => by
    show atX (putAllX (putX acc z.1 z.2.1 z.2.2) xs) j = _
    rw [at_putAllX xs (putX acc z.1 z.2.1 z.2.2) j fun x hx => h x (List.mem_cons_of_mem _ hx), atX_putX, h z List.mem_cons_self, List.map_cons]
    by_cases h1 : j ∈ xs.map (·.1)
    · rw [if_pos h1, if_pos (List.mem_cons_of_mem _ h1)]
    · rw [if_neg h1]
      by_cases h2 : j = z.1
      · rw [if_pos h2, if_pos (by rw [h2]; exact List.mem_cons_self)]
      · rw [if_neg h2, if_neg fun w => (List.mem_cons.mp w).elim h2 h1]
end K73
set_option maxHeartbeats 200000
/-! Dicts keyed by things, as functions. -/
namespace K73
open PySem PySem.Spec PyProof.Rows L2
def lT : Option Str → Leaf
  | none => .none
  | some s => .text s
theorem lV_lT (t : Option Str) : lV (lT t) = vT t := by cases t <;> rfl
theorem lT_inj {a b : Option Str} (h : lT a = lT b) : a = b := by
  cases a <;> cases b <;> simp [lT] at h <;> simp [h]
theorem lT_num (t : Option Str) (i : Int) : lT t ≠ .num i := by cases t <;> exact fun h => nomatch h
abbrev Mp := Option Str → Option V
def setM (m : Mp) (t : Option Str) (v : V) : Mp := fun u => if u = t then some v else m u
theorem setM_same {m : Mp} {t : Option Str} {v : V} : setM m t v t = some v := if_pos rfl
theorem setM_ne {m : Mp} {t u : Option Str} {v : V} (h : u ≠ t) : setM m t v u = m u := if_neg h
/-- the pairs kvs are the map m with the keys ks in order -/
structure Maps (kvs : List (Leaf × V)) (ks : List (Option Str)) (m : Mp) : Prop where
  keys : kvs.map (·.1) = ks.map lT
  nd : ks.Nodup
  vals : ∀ t, valV kvs (lT t) = m t
theorem Maps.mem {kvs : List (Leaf × V)} {ks : List (Option Str)} {m : Mp} (h : Maps kvs ks m) {t : Option Str} : t ∈ ks ↔ (m t).isSome = true := by
  rw [← h.vals t]
  constructor
  · intro ht
    have : lT t ∈ kvs.map (·.1) := by rw [h.keys]; exact List.mem_map.mpr ⟨t, ht, rfl⟩
    cases e : valV kvs (lT t) with
    | none => exact absurd this (valV_not e)
    | some v => rfl
  · intro hs
    cases e : valV kvs (lT t) with
    | none => rw [e] at hs; cases hs
    | some v =>
      have := valV_in e
      rw [h.keys] at this
      obtain ⟨u, hu, q⟩ := List.mem_map.mp this
      rw [← lT_inj q]
      exact hu
theorem Maps.len {kvs : List (Leaf × V)} {ks : List (Option Str)} {m : Mp} (h : Maps kvs ks m) : kvs.length = ks.length := by
  have := congrArg List.length h.keys
  rwa [List.length_map, List.length_map] at this
theorem Maps.nil : Maps [] [] (fun _ => none) := ⟨rfl, .nil, fun _ => rfl⟩
theorem map_put_keys {kvs : List (Leaf × V)} {k : Leaf} {v : V} (h : (valV kvs k).isSome = true) : (putK kvs k v).map (·.1) = kvs.map (·.1) := by
  unfold putK
  rw [valV_any, if_pos h, List.map_map]
  refine List.map_congr_left fun q _ => ?_
  show (if q.1 = k then (q.1, v) else q).1 = q.1
  split <;> rfl
theorem Maps.put {kvs : List (Leaf × V)} {ks : List (Option Str)} {m : Mp} (h : Maps kvs ks m) (t : Option Str) (v : V) : Maps (putK kvs (lT t) v) (if t ∈ ks then ks else ks ++ [t]) (setM m t v) := by
  have hv : ∀ u, valV (putK kvs (lT t) v) (lT u) = setM m t v u := fun u => by
    rw [valV_put]
    unfold setM
    by_cases e : u = t
    · rw [if_pos (by rw [e]), if_pos e]
    · rw [if_neg fun z => e (lT_inj z), if_neg e, h.vals]
  by_cases ht : t ∈ ks
  · rw [if_pos ht]
    refine ⟨?_, h.nd, hv⟩
    rw [map_put_keys (by rw [h.vals]; exact h.mem.mp ht), h.keys]
  · rw [if_neg ht]
    have hn : valV kvs (lT t) = none := by
      cases e : valV kvs (lT t) with
      | none => rfl
      | some v => exact absurd (h.mem.mpr (by rw [← h.vals, e]; rfl)) ht
    refine ⟨?_, nd_snoc h.nd ht, hv⟩
    rw [putK_new v hn, List.map_append, List.map_append, h.keys]
    rfl
/-- the dict at a is the map m -/
def NAt (P : Program) (w : World) (H : Hp) (a : Addr) (ks : List (Option Str)) (m : Mp) : Prop := ∃ kvs, H a = some (oN P w a kvs) ∧ Maps kvs ks m
section
variable {P : Program} {w : World} {H H' : Hp} {a : Addr} {ks : List (Option Str)} {m : Mp}
theorem NAt.same (h : NAt P w H a ks m) (e : Same H H') : NAt P w H' a ks m := let ⟨kvs, h1, h2⟩ := h; ⟨kvs, e _ _ h1, h2⟩
theorem NAt.get (h : NAt P w H a ks m) (t : Option Str) : XGet P w H a (vT t) (m t) := by
  obtain ⟨kvs, h1, h2⟩ := h
  exact .inl ⟨kvs, lT t, .inl h1, (lV_lT t).symm, (h2.vals t).symm⟩
theorem NAt.put (h : NAt P w H a ks m) (hz : ks.length < sizeLine) (t : Option Str) (v : V) : ∃ u, XPut P w H a (vT t) v (upd H a u) ∧ NAt P w (upd H a u) a (if t ∈ ks then ks else ks ++ [t]) (setM m t v) := by
  obtain ⟨kvs, h1, h2⟩ := h
  exact ⟨_, .inl ⟨kvs, lT t, h1, (lV_lT t).symm, by rw [h2.len]; exact hz, rfl⟩, _, upd_same, h2.put t v⟩
theorem NAt.new (h : H a = some (oN P w a [])) : NAt P w H a [] (fun _ => none) := ⟨[], h, .nil⟩
theorem NAt.isX (h : NAt P w H a ks m) : IsX P w H a := let ⟨kvs, h1, _⟩ := h; .inl ⟨kvs, .inl h1⟩
theorem NAt.len (h : NAt P w H a ks m) : ∃ kvs, Rd H a (oN P w a kvs) ∧ kvs.length = ks.length := let ⟨kvs, h1, h2⟩ := h; ⟨kvs, .inl h1, h2.len⟩
theorem NAt.other (h : NAt P w H a ks m) {b : Addr} {u : HO} (ne : a ≠ b) : NAt P w (upd H b u) a ks m := let ⟨kvs, h1, h2⟩ := h; ⟨kvs, by rw [upd_ne ne]; exact h1, h2⟩
end
theorem take_snoc {α : Type} {l : List α} {i : Nat} {x : α} (h : l[i]? = some x) : l.take (i + 1) = l.take i ++ [x] := by rw [List.take_add_one, h]; rfl
theorem nd_take {α : Type} {l : List α} (nd : l.Nodup) {i : Nat} {x : α} (h : l[i]? = some x) : x ∉ l.take i := by
  have e : (l.take (i + 1)).Nodup := nd.sublist (List.take_sublist _ _)
  rw [take_snoc h, List.nodup_append] at e
  exact fun hx => e.2.2 x hx x (List.mem_singleton.mpr rfl) rfl
/-- {thing: value for thing in things}, the things all different -/
theorem dcn {P : Program} {w : World} {K : PySem.W.Frag} {a : Addr} {ts : List (Option Str)} {tv : TE} {j : Nat} {σ : L2.St} {H1 : Hp} {D : Addr} {Qd : Hp → Prop} (nd : ts.Nodup) (hz : ts.length < sizeLine) (hj : j < σ.length) (hl : SqL K H1 a (ts.map vT)) (hD : H1 D = none) (R : Option Str → V → Hp → Prop)
    (hv : ∀ t H' (Qe : VK), t ∈ ts → Same H1 H' → (∃ u, H' D = some u) → (∀ v H4, Same H' H4 → (∀ H5, (∀ b o, b ≠ D → H4 b = some o → H5 b = some o) → R t v H5) → Qe v H4) → tv (σ.set j (some (vT t))) H' Qe)
    (hd : ∀ H' m, Same H1 H' → NAt P w H' D ts m → (∀ t ∈ ts, ∃ v, m t = some v ∧ R t v H') → Qd H') :
    ∃ W : Nat → Nat → Hp → Prop, (∃ m, W 0 m (upd H1 D (oN P w D []))) ∧ ∀ i m H, W i m H →
      ((Itl K a).stop i H ∧ Qd H) ∨ ((Itl K a).go i H ∧ ∃ Nx : Hp → Prop, (∀ H', Nx H' → ∃ m', m' < m ∧ W (i + 1) m' H') ∧ ∀ x H', (Itl K a).yld i H x H' → gName j x (wipe σ [j]) H' fun σ2 H2 => wipe σ2 [j] = wipe σ [j] ∧ tYes σ2 H2 fun b H3 =>
        if b = true then tVar j σ2 H3 fun y H4 => tv σ2 H4 fun z H5 => ∃ H6, XPut P w H5 D y z H6 ∧ Nx H6 else Nx H3) := by
  refine dcX_list (xs := ts.map vT) (fun i H' => ∃ m, Same H1 H' ∧ NAt P w H' D (ts.take i) m ∧ ∀ t ∈ ts.take i, ∃ v, m t = some v ∧ ∀ H5, (∀ b o, b ≠ D → H' b = some o → H5 b = some o) → R t v H5)
    ⟨_, same_upd hD, NAt.new upd_same, fun t ht => by simp at ht⟩ (fun i H' _ ⟨_, e, _⟩ => e.seq hl) ?_ ?_
  · rintro i x H' hi ⟨m, e, hN, hR⟩
    rw [List.getElem?_map] at hi
    cases hq : ts[i]? with
    | none => rw [hq] at hi; cases hi
    | some t =>
      rw [hq] at hi
      have hx : vT t = x := Option.some.inj hi
      subst hx
      have hm : t ∈ ts := List.mem_of_getElem? hq
      have hnot := nd_take nd hq
      have hlen : (ts.take i).length < sizeLine := Nat.lt_of_le_of_lt (List.length_take_le' _ _) hz
      refine ⟨by rw [wipe_one, wipe_set], ?_⟩
      unfold tYes
      dsimp only
      rw [if_pos rfl, wipe_one]
      refine ⟨_, List.getElem?_set_self hj, ?_⟩
      refine hv t H' _ hm e (let ⟨kvs, h1, _⟩ := hN; ⟨_, h1⟩) fun v H4 e4 r => ?_
      obtain ⟨u, hu, hN2⟩ := (hN.same e4).put hlen t v
      rw [if_neg hnot, ← take_snoc hq] at hN2
      refine ⟨_, hu, _, same_put (e.trans e4) hD, hN2, fun t' ht' => ?_⟩
      rw [take_snoc hq] at ht'
      by_cases et : t' = t
      · subst et
        exact ⟨v, setM_same, fun H5 q => r H5 fun b o hb eo => q b o hb (by rw [upd_ne hb]; exact eo)⟩
      · rcases List.mem_append.mp ht' with z | z
        · obtain ⟨v', h1, h2⟩ := hR t' z
          exact ⟨v', by rw [setM_ne et]; exact h1, fun H5 q => h2 H5 fun b o hb eo => q b o hb (by rw [upd_ne hb]; exact e4 _ _ eo)⟩
        · exact absurd (List.mem_singleton.mp z) et
  · rintro H' ⟨m, e, hN, hR⟩
    rw [List.length_map, List.take_length] at hN hR
    exact hd H' m e hN fun t ht => let ⟨v, h1, h2⟩ := hR t ht; ⟨v, h1, h2 H' fun b o _ eo => eo⟩
end K73
set_option maxHeartbeats 200000
/-! Operators that the layer lacks: a list beside [], .. -/
namespace K73
open PySem PySem.Spec PyProof.Rows L2
section
variable {X : Cx}
def rNil (K : PySem.W.Frag) (f : Bool → Bool) : R2 := fun x y H Q => ∃ a b xs, x = .ref a ∧ y = .ref b ∧ SqL K H a xs ∧ SqL K H b [] ∧ Q (.bl (f xs.isEmpty)) H
theorem op_eqNil (hu : X.A.units < cLine) : OpR X (compareOp .Eq) (rNil X.K fun b => b) := by
  intro pins s σ H x y v u Q I rx ry h
  obtain ⟨a, b, xs, rfl, rfl, ha, hb, q⟩ := h
  cases rx
  cases ry
  obtain ⟨its, r, pl, _⟩ := I.list ha
  obtain ⟨its2, r2, pl2, _⟩ := I.list hb
  cases r2
  cases r with
  | nil => exact SeqAt.RcAt.lists (e := fun _ => true) pl.isList pl2.isList rfl hu (fun j h1 _ => absurd h1 (Nat.not_lt_zero _)) _ _ _ _ ⟨.bl true, H, I, rfl, q⟩
  | cons r0 rs => exact SeqAt.RcAt.lists_lengths pl.isList pl2.isList (by simp) hu _ _ _ _ ⟨.bl false, H, I, rfl, q⟩
theorem op_neNil (hu : X.A.units < cLine) : OpR X (compareOp .NotEq) (rNil X.K fun b => !b) := by
  intro pins s σ H x y v u Q I rx ry h
  obtain ⟨a, b, xs, rfl, rfl, ha, hb, q⟩ := h
  cases rx
  cases ry
  obtain ⟨its, r, pl, _⟩ := I.list ha
  obtain ⟨its2, r2, pl2, _⟩ := I.list hb
  cases r2
  cases r with
  | nil => exact SeqAt.RcNeAt.lists (e := fun _ => true) pl.isList pl2.isList rfl hu (fun j h1 _ => absurd h1 (Nat.not_lt_zero _)) _ _ _ _ ⟨.bl false, H, I, rfl, q⟩
  | cons r0 rs => exact SeqAt.RcNeAt.lists_lengths pl.isList pl2.isList (by simp) hu _ _ _ _ ⟨.bl true, H, I, rfl, q⟩
/-- min of a list of texts -/
def rMinS (K : PySem.W.Frag) : List V → Hp → VK → Prop := fun vs H Q => ∃ (a : Addr) (x : Str) (xs : List Str), vs = [V.ref a] ∧ SqL K H a ((x :: xs).map V.str) ∧ Q (.str (PySem.W.minOf x xs)) H
theorem holds_strs {h : Heap} : ∀ {xs : List Str} {us : List Value}, Vals (xs.map V.str) us → PySem.W.HoldAll h us xs
  | [], _, .nil => ⟨_, ReadsAll.nil⟩
  | x :: xs, _, .cons r t => by
    obtain ⟨as, q⟩ := holds_strs (h := h) (xs := xs) t
    obtain ⟨tk, rfl⟩ := (show ∃ t, _ = Value.str x t from r)
    exact ⟨_, ReadsAll.cons (Reads.str x tk) q⟩
theorem holds_str {h : Heap} {v : Value} {x : Str} (H : PySem.W.Holds h v x) : ∃ t, v = .str x t := by
  obtain ⟨as, r⟩ := H
  cases r with
  | str _ t => exact ⟨t, rfl⟩
theorem call_minS (hc : X.calm = true) (hu : X.A.units + 64 < cLine) : CallR X (.builtin "min") (rMinS X.K) := by
  intro pins s σ H vs us Q I r h
  obtain ⟨a, x, xs, rfl, hs, q⟩ := h
  obtain ⟨its, rv, hl, _⟩ := I.list hs
  rw [Vals.ref1 r]
  refine PySem.W.min_list_datum (α := Str) (x := x) (xs := xs) (I.ok.hd hc) hl.isList (by have := holds_strs (h := s.heap) rv; simpa using this) ?_ fun i v h' tk hv hh hk => ?_
  · show X.A.units + 1 + 0 < cLine
    omega
  · exact ⟨.str _, H, I.kept hk, holds_str hh, q⟩
end
end K73
set_option maxHeartbeats 200000
/-! Three ways along the rules: rounds from nought everywhere (they come to rest), passes from one start (they end at the tightest gaps), pairs by middles (likewise). Plain Lean. -/
namespace K73
section
variable {N : Type} [DecidableEq N] {G : List (Rl N)} {ns : List N} {m : N → Int}

theorem exists_most (P : Int → Prop) (B : Int) (hB : ∀ t, P t → t ≤ B) : ∀ (k : Nat) (t0 : Int), P t0 → B - t0 ≤ k → ∃ d, P d ∧ ∀ t, P t → t ≤ d
  | 0, t0, h0, hk => ⟨t0, h0, fun t ht => by have := hB t ht; omega⟩
  | k + 1, t0, h0, hk => by
    by_cases q : ∃ t, P t ∧ t0 < t
    · obtain ⟨t, ht, hl⟩ := q
      exact exists_most P B hB k t ht (by omega)
    · exact ⟨t0, h0, fun t ht => by
        by_cases z : t ≤ t0
        · exact z
        · exact (q ⟨t, ht, by omega⟩).elim⟩
/-- the ground and the names -/
def things (ns : List N) : List (Option N) := none :: ns.map some
theorem mem_things {a : Option N} : a ∈ things ns ↔ ∀ x, a = some x → x ∈ ns := by
  unfold things
  cases a with
  | none => simp
  | some x => simp
theorem lo_in (wi : Within G ns) {r : Rl N} (h : r ∈ G) : r.lo ∈ things ns := mem_things.mpr (wi r h).1
theorem hi_in (wi : Within G ns) {r : Rl N} (h : r ∈ G) : r.hi ∈ things ns := mem_things.mpr (wi r h).2
theorem ch_end {a b : Option N} {t : Int} (wi : Within G ns) (ha : a ∈ things ns) (h : Ch G a b t) : b ∈ things ns := by
  induction h with
  | nil => exact ha
  | snoc r _ hr _ _ => exact hi_in wi hr
theorem ch_start {a b : Option N} {t : Int} (wi : Within G ns) (hb : b ∈ things ns) (h : Ch G a b t) : a ∈ things ns := by
  induction h with
  | nil => exact hb
  | snoc r _ hr he ih => exact ih (by rw [← he]; exact lo_in wi hr)

/-! ### rounds -/
def setF {β : Type} (f : Option N → β) (a : Option N) (v : β) : Option N → β := fun b => if b = a then v else f b
theorem setF_same {β : Type} {f : Option N → β} {a : Option N} {v : β} : setF f a v a = v := if_pos rfl
theorem setF_ne {β : Type} {f : Option N → β} {a b : Option N} {v : β} (h : b ≠ a) : setF f a v b = f b := if_neg h
def relT (b : Option N → Int) (r : Rl N) : Option N → Int := if b r.lo + r.gap > b r.hi then setF b r.hi (b r.lo + r.gap) else b
def round (G : List (Rl N)) (b : Option N → Int) : Option N → Int := G.foldl relT b
def rounds (G : List (Rl N)) : Nat → Option N → Int
  | 0 => fun _ => 0
  | k + 1 => round G (rounds G k)
theorem relT_le (b : Option N → Int) (r : Rl N) (a : Option N) : b a ≤ relT b r a := by
  unfold relT
  split
  · by_cases e : a = r.hi
    · subst e
      rw [setF_same]
      omega
    · rw [setF_ne e]
      omega
  · omega
theorem fold_le : ∀ (L : List (Rl N)) (b : Option N → Int) (a : Option N), b a ≤ L.foldl relT b a
  | [], _, _ => Int.le_refl _
  | r :: L, b, a => Int.le_trans (relT_le b r a) (fold_le L (relT b r) a)
theorem relT_hi (b : Option N → Int) (r : Rl N) : b r.lo + r.gap ≤ relT b r r.hi := by
  unfold relT
  split
  · rw [setF_same]
    omega
  · omega
theorem fold_hi : ∀ (L : List (Rl N)) (b : Option N → Int) (r : Rl N), r ∈ L → b r.lo + r.gap ≤ L.foldl relT b r.hi
  | r' :: L, b, r, h => by
    rcases List.mem_cons.mp h with e | h
    · subst e
      exact Int.le_trans (relT_hi b r) (fold_le L (relT b r) r.hi)
    · have q := fold_hi L (relT b r') r h
      have q2 := relT_le b r' r.lo
      show b r.lo + r.gap ≤ L.foldl relT (relT b r') r.hi
      omega
def Ends (G : List (Rl N)) (b : Option N → Int) : Prop := ∀ v, ∃ a, Ch G a v (b v)
theorem relT_ends {b : Option N → Int} {r : Rl N} (hr : r ∈ G) (h : Ends G b) : Ends G (relT b r) := by
  intro v
  unfold relT
  split
  · by_cases e : v = r.hi
    · subst e
      rw [setF_same]
      obtain ⟨a, ha⟩ := h r.lo
      exact ⟨a, Ch.snoc r ha hr rfl⟩
    · rw [setF_ne e]
      exact h v
  · exact h v
theorem fold_ends : ∀ (L : List (Rl N)) {b : Option N → Int}, (∀ r ∈ L, r ∈ G) → Ends G b → Ends G (L.foldl relT b)
  | [], _, _, h => h
  | r :: L, _, hL, h => fold_ends L (fun r' h' => hL r' (List.mem_cons_of_mem _ h')) (relT_ends (hL r List.mem_cons_self) h)
theorem rounds_ends : ∀ k, Ends G (rounds G k)
  | 0 => fun v => ⟨v, .nil v⟩
  | k + 1 => fold_ends G (fun _ h => h) (rounds_ends k)
theorem rounds_le (k : Nat) (v : Option N) : rounds G k v ≤ rounds G (k + 1) v := fold_le G _ v
theorem rounds_nn : ∀ (k : Nat) (v : Option N), 0 ≤ rounds G k v
  | 0, _ => Int.le_refl _
  | k + 1, v => Int.le_trans (rounds_nn k v) (rounds_le k v)
/-- no rule raises anything -/
def Rest (G : List (Rl N)) (b : Option N → Int) : Prop := ∀ r ∈ G, b r.lo + r.gap ≤ b r.hi
/-- the greatest total of a chain that ends at v -/
def Most (G : List (Rl N)) (v : Option N) (d : Int) : Prop := (∃ a, Ch G a v d) ∧ ∀ a t, Ch G a v t → t ≤ d
theorem most_is (wi : Within G ns) (ad : Adm G m) {v : Option N} (hv : v ∈ things ns) : ∃ d, Most G v d := by
  obtain ⟨L, hL⟩ : ∃ L : Int, ∀ a ∈ things ns, L ≤ valAt m a := by
    generalize things ns = T
    induction T with
    | nil => exact ⟨0, fun _ h => by cases h⟩
    | cons a T ih =>
      obtain ⟨L, hL⟩ := ih
      refine ⟨min L (valAt m a), fun b hb => ?_⟩
      rcases List.mem_cons.mp hb with e | hb
      · subst e; omega
      · have := hL b hb; omega
  have hB : ∀ t, (∃ a, Ch G a v t) → t ≤ valAt m v - L := fun t ⟨a, h⟩ => by
    have q1 := h.le ad
    have q2 := hL a (ch_start wi hv h)
    omega
  obtain ⟨d, h1, h2⟩ := exists_most (fun t => ∃ a, Ch G a v t) _ hB ((valAt m v - L) - 0).toNat 0 ⟨v, .nil v⟩ (by omega)
  exact ⟨d, h1, fun a t h => h2 t ⟨a, h⟩⟩
/-- v has its greatest total -/
def Done (G : List (Rl N)) (b : Option N → Int) (v : Option N) : Prop := Most G v (b v)
theorem rounds_top {k : Nat} {v : Option N} {d : Int} (h : Most G v d) : rounds G k v ≤ d := by
  obtain ⟨a, ha⟩ := rounds_ends (G := G) k v
  exact h.2 a _ ha
theorem done_next {k : Nat} {v : Option N} (h : Done G (rounds G k) v) : Done G (rounds G (k + 1)) v := by
  have q1 := rounds_top (k := k + 1) h
  have q2 := rounds_le (G := G) k v
  have e : rounds G (k + 1) v = rounds G k v := by omega
  unfold Done
  rw [e]
  exact h
theorem new_done (wi : Within G ns) (ad : Adm G m) (k : Nat) {a v : Option N} {t : Int} (h : Ch G a v t) (hv : v ∈ things ns) (top : Most G v t) :
    Done G (rounds G k) v ∨ ∃ y ∈ things ns, ¬ Done G (rounds G k) y ∧ Done G (rounds G (k + 1)) y := by
  induction h with
  | nil =>
    left
    have q := rounds_top (k := k) top
    have q2 := rounds_nn (G := G) k a
    have e : rounds G k a = 0 := by omega
    unfold Done
    rw [e]
    exact top
  | @snoc b t r hc hr he ih =>
    have hb : b ∈ things ns := by rw [← he]; exact lo_in wi hr
    obtain ⟨d, hd⟩ := most_is wi ad hb
    have e1 : d = t := by
      have q1 := hd.2 _ _ hc
      obtain ⟨a', ha'⟩ := hd.1
      have q2 := top.2 _ _ (Ch.snoc r ha' hr he)
      omega
    rw [e1] at hd
    rcases ih hb hd with q | q
    · by_cases z : Done G (rounds G k) r.hi
      · exact .inl z
      · refine .inr ⟨r.hi, hi_in wi hr, z, ?_⟩
        have q1 := fold_hi G (rounds G k) r hr
        have q2 := rounds_top (k := k + 1) top
        have q3 : rounds G k b = t := by
          have a1 := q.2 _ _ hc
          have a2 := rounds_top (k := k) hd
          omega
        rw [he, q3] at q1
        have q1 : t + r.gap ≤ rounds G (k + 1) r.hi := q1
        have e : rounds G (k + 1) r.hi = t + r.gap := by omega
        unfold Done
        rw [e]
        exact top
    · exact .inr q
theorem first_done (wi : Within G ns) (ad : Adm G m) {a v : Option N} {t : Int} (h : Ch G a v t) (hv : v ∈ things ns) (top : Most G v t) : ∃ y ∈ things ns, Done G (rounds G 0) y := by
  induction h with
  | nil => exact ⟨a, hv, top⟩
  | @snoc b t r hc hr he ih =>
    have hb : b ∈ things ns := by rw [← he]; exact lo_in wi hr
    obtain ⟨d, hd⟩ := most_is wi ad hb
    have e1 : d = t := by
      have q1 := hd.2 _ _ hc
      obtain ⟨a', ha'⟩ := hd.1
      have q2 := top.2 _ _ (Ch.snoc r ha' hr he)
      omega
    rw [e1] at hd
    exact ih hb hd
theorem count_more {α : Type} (p q : α → Bool) : ∀ l : List α, (∀ x ∈ l, p x = true → q x = true) → l.countP p ≤ l.countP q
  | [], _ => Nat.le_refl _
  | a :: l, h => by
    have ih := count_more p q l fun x hx => h x (List.mem_cons_of_mem _ hx)
    rw [List.countP_cons, List.countP_cons]
    have h1 := h a List.mem_cons_self
    cases e : p a with
    | false => simp; omega
    | true => rw [h1 e]; simp; omega
theorem count_new {α : Type} (p q : α → Bool) : ∀ l : List α, (∀ x ∈ l, p x = true → q x = true) → (∃ y ∈ l, p y = false ∧ q y = true) → l.countP p < l.countP q
  | [], _, ⟨_, h, _⟩ => by cases h
  | a :: l, h, ⟨y, hy, h1, h2⟩ => by
    rw [List.countP_cons, List.countP_cons]
    have ha := h a List.mem_cons_self
    rcases List.mem_cons.mp hy with e | hy
    · subst e
      have ih := count_more p q l fun x hx => h x (List.mem_cons_of_mem _ hx)
      rw [h1, h2]
      simp
      omega
    · have ih := count_new p q l (fun x hx => h x (List.mem_cons_of_mem _ hx)) ⟨y, hy, h1, h2⟩
      cases e : p a with
      | false => simp; omega
      | true => rw [ha e]; simp; omega
open Classical in
noncomputable def dones (G : List (Rl N)) (ns : List N) (k : Nat) : Nat := (things ns).countP fun v => decide (Done G (rounds G k) v)
open Classical in
theorem dones_ge (wi : Within G ns) (ad : Adm G m) : ∀ k : Nat, k < (things ns).length → k + 1 ≤ dones G ns k
  | 0, _ => by
    have hn : (none : Option N) ∈ things ns := mem_things.mpr fun _ e => by cases e
    obtain ⟨d, hd⟩ := most_is wi ad hn
    obtain ⟨a, ha⟩ := hd.1
    obtain ⟨y, hy, hdn⟩ := first_done wi ad ha hn hd
    unfold dones
    exact List.countP_pos_iff.mpr ⟨y, hy, decide_eq_true hdn⟩
  | k + 1, hk => by
    have ih := dones_ge wi ad k (by omega)
    have mono : ∀ x ∈ things ns, decide (Done G (rounds G k) x) = true → decide (Done G (rounds G (k + 1)) x) = true := fun x _ h => decide_eq_true (done_next (of_decide_eq_true h))
    by_cases all : ∀ v ∈ things ns, Done G (rounds G k) v
    · have e : dones G ns (k + 1) = (things ns).length := by
        unfold dones
        exact List.countP_eq_length.mpr fun v hv => decide_eq_true (done_next (all v hv))
      omega
    · have ⟨v, hv, hnd⟩ : ∃ v ∈ things ns, ¬ Done G (rounds G k) v := by
        refine Classical.byContradiction fun q => all fun v hv => Classical.byContradiction fun z => q ⟨v, hv, z⟩
      obtain ⟨d, hd⟩ := most_is wi ad hv
      obtain ⟨a, ha⟩ := hd.1
      rcases new_done wi ad k ha hv hd with q | ⟨y, hy, q1, q2⟩
      · exact (hnd q).elim
      · have z := count_new (fun v => decide (Done G (rounds G k) v)) (fun v => decide (Done G (rounds G (k + 1)) v)) (things ns) mono ⟨y, hy, decide_eq_false q1, decide_eq_true q2⟩
        unfold dones at ih ⊢
        omega
open Classical in
/-- the last round changes nothing -/
theorem rounds_rest (wi : Within G ns) (ad : Adm G m) : Rest G (rounds G ns.length) := by
  have hl : (things ns).length = ns.length + 1 := by unfold things; simp
  have q := dones_ge wi ad ns.length (by omega)
  have q2 : dones G ns ns.length ≤ (things ns).length := List.countP_le_length
  have all : ∀ v ∈ things ns, decide (Done G (rounds G ns.length) v) = true := by
    refine List.countP_eq_length.mp ?_
    show dones G ns ns.length = _
    omega
  intro r hr
  have h1 := of_decide_eq_true (all _ (lo_in wi hr))
  have h2 := of_decide_eq_true (all _ (hi_in wi hr))
  obtain ⟨a, ha⟩ := h1.1
  exact h2.2 _ _ (Ch.snoc r ha hr rfl)
theorem relT_rest {b : Option N → Int} {r : Rl N} (h : b r.lo + r.gap ≤ b r.hi) : relT b r = b := if_neg (by omega)
theorem round_rest {b : Option N → Int} (h : Rest G b) : round G b = b := by
  unfold round
  have go : ∀ L : List (Rl N), (∀ r ∈ L, r ∈ G) → L.foldl relT b = b := by
    intro L
    induction L with
    | nil => intro _; rfl
    | cons r L ih =>
      intro hL
      show L.foldl relT (relT b r) = b
      rw [relT_rest (h r (hL r List.mem_cons_self))]
      exact ih fun r' h' => hL r' (List.mem_cons_of_mem _ h')
  exact go G fun _ h => h

/-! ### passes from one start -/
abbrev PF (N : Type) := Option N → Option Int
def relO (f : PF N) (r : Rl N) : PF N :=
  match f r.lo with
  | none => f
  | some d => match f r.hi with
    | none => setF f r.hi (some (d + r.gap))
    | some e => if d + r.gap > e then setF f r.hi (some (d + r.gap)) else f
def pass (G : List (Rl N)) (f : PF N) : PF N := G.foldl relO f
def passes (G : List (Rl N)) (f : PF N) : Nat → PF N
  | 0 => f
  | k + 1 => passes G (pass G f) k
/-- whether a rule raises something -/
def Lifts (f : PF N) (r : Rl N) : Prop := ∃ d, f r.lo = some d ∧ ∀ e, f r.hi = some e → d + r.gap > e
def Still (G : List (Rl N)) (f : PF N) : Prop := ∀ r ∈ G, ¬ Lifts f r
theorem relO_no {f : PF N} {r : Rl N} (h : ¬ Lifts f r) : relO f r = f := by
  unfold relO
  cases e1 : f r.lo with
  | none => rfl
  | some d =>
    cases e2 : f r.hi with
    | none => exact (h ⟨d, e1, fun e q => by rw [e2] at q; cases q⟩).elim
    | some e =>
      by_cases c : d + r.gap > e
      · exact (h ⟨d, e1, fun e' q => by rw [e2] at q; cases q; exact c⟩).elim
      · exact if_neg c
theorem relO_yes {f : PF N} {r : Rl N} {d : Int} (h1 : f r.lo = some d) (h : ∀ e, f r.hi = some e → d + r.gap > e) : relO f r = setF f r.hi (some (d + r.gap)) := by
  unfold relO
  rw [h1]
  cases e2 : f r.hi with
  | none => rfl
  | some e => exact if_pos (h e e2)
/-- from s: each value is a chain's total -/
def From (G : List (Rl N)) (s : Option N) (f : PF N) : Prop := ∀ v d, f v = some d → Ch G s v d
theorem from_one (s : Option N) : From G s (setF (fun _ => none) s (some 0)) := fun v d h => by
  by_cases e : v = s
  · subst e
    rw [setF_same] at h
    cases h
    exact .nil v
  · rw [setF_ne e] at h
    cases h
theorem relO_from {s : Option N} {f : PF N} {r : Rl N} (hr : r ∈ G) (h : From G s f) : From G s (relO f r) := by
  by_cases q : Lifts f r
  · obtain ⟨d, h1, h2⟩ := q
    rw [relO_yes h1 h2]
    intro v e hv
    by_cases z : v = r.hi
    · subst z
      rw [setF_same] at hv
      cases hv
      exact Ch.snoc r (h _ _ h1) hr rfl
    · rw [setF_ne z] at hv
      exact h v e hv
  · rw [relO_no q]
    exact h
/-- what is there stays and does not fall -/
def Up (f g : PF N) : Prop := ∀ v d, f v = some d → ∃ e, g v = some e ∧ d ≤ e
theorem Up.refl (f : PF N) : Up f f := fun _ d h => ⟨d, h, Int.le_refl _⟩
theorem Up.trans {f g h : PF N} (a : Up f g) (b : Up g h) : Up f h := fun v d q => by
  obtain ⟨e, h1, h2⟩ := a v d q
  obtain ⟨e', h3, h4⟩ := b v e h1
  exact ⟨e', h3, by omega⟩
theorem relO_up (f : PF N) (r : Rl N) : Up f (relO f r) := by
  by_cases q : Lifts f r
  · obtain ⟨d, h1, h2⟩ := q
    rw [relO_yes h1 h2]
    intro v e hv
    by_cases z : v = r.hi
    · subst z
      exact ⟨_, setF_same, by have := h2 e hv; omega⟩
    · exact ⟨e, by rw [setF_ne z]; exact hv, Int.le_refl _⟩
  · rw [relO_no q]
    exact .refl f
theorem fold_up : ∀ (L : List (Rl N)) (f : PF N), Up f (L.foldl relO f)
  | [], f => .refl f
  | r :: L, f => (relO_up f r).trans (fold_up L _)
theorem fold_from {s : Option N} : ∀ (L : List (Rl N)) {f : PF N}, (∀ r ∈ L, r ∈ G) → From G s f → From G s (L.foldl relO f)
  | [], _, _, h => h
  | r :: L, _, hL, h => fold_from L (fun r' h' => hL r' (List.mem_cons_of_mem _ h')) (relO_from (hL r List.mem_cons_self) h)
/-- how many are missing; how far the others are from their bounds -/
def lack (ns : List N) (f : PF N) : Nat := (things ns).countP fun v => (f v).isNone
def slack (m : N → Int) (s : Option N) (ns : List N) (f : PF N) : Nat := ((things ns).map fun v => match f v with | none => 0 | some d => (valAt m v - valAt m s - d).toNat).sum
theorem sum_le {α : Type} (p q : α → Nat) : ∀ l : List α, (∀ x ∈ l, p x ≤ q x) → (l.map p).sum ≤ (l.map q).sum
  | [], _ => Nat.le_refl _
  | a :: l, h => by
    have ih := sum_le p q l fun x hx => h x (List.mem_cons_of_mem _ hx)
    have h1 := h a List.mem_cons_self
    rw [List.map_cons, List.map_cons, List.sum_cons, List.sum_cons]
    omega
theorem sum_lt {α : Type} (p q : α → Nat) : ∀ l : List α, (∀ x ∈ l, p x ≤ q x) → (∃ y ∈ l, p y < q y) → (l.map p).sum < (l.map q).sum
  | [], _, ⟨_, h, _⟩ => by cases h
  | a :: l, h, ⟨y, hy, hl⟩ => by
    rw [List.map_cons, List.map_cons, List.sum_cons, List.sum_cons]
    have h1 := h a List.mem_cons_self
    rcases List.mem_cons.mp hy with e | hy
    · subst e
      have ih := sum_le p q l fun x hx => h x (List.mem_cons_of_mem _ hx)
      omega
    · have ih := sum_lt p q l (fun x hx => h x (List.mem_cons_of_mem _ hx)) ⟨y, hy, hl⟩
      omega
/-- nearer to the end -/
def Near (m : N → Int) (s : Option N) (ns : List N) (f g : PF N) : Prop := lack ns g < lack ns f ∨ (lack ns g = lack ns f ∧ slack m s ns g < slack m s ns f)
theorem Near.trans {s : Option N} {f g h : PF N} (a : Near m s ns f g) (b : Near m s ns g h) : Near m s ns f h := by
  unfold Near at a b ⊢
  omega
theorem relO_near {s : Option N} {f : PF N} {r : Rl N} (wi : Within G ns) (ad : Adm G m) (hr : r ∈ G) (h : From G s f) (q : Lifts f r) : Near m s ns f (relO f r) := by
  obtain ⟨d, h1, h2⟩ := q
  have fr' := relO_from hr h
  have eR := relO_yes h1 h2
  have hin : r.hi ∈ things ns := hi_in wi hr
  cases e2 : f r.hi with
  | none =>
    left
    unfold lack
    refine count_new _ _ _ (fun x _ hx => ?_) ⟨r.hi, hin, ?_, ?_⟩
    · cases e : f x with
      | none => rfl
      | some d' =>
        obtain ⟨e', q1, _⟩ := relO_up f r x d' e
        rw [q1] at hx
        cases hx
    · rw [eR, setF_same]
      rfl
    · rw [e2]
      rfl
  | some e =>
    right
    have others : ∀ v, v ≠ r.hi → relO f r v = f v := fun v z => by rw [eR, setF_ne z]
    have here : relO f r r.hi = some (d + r.gap) := by rw [eR, setF_same]
    refine ⟨?_, ?_⟩
    · unfold lack
      refine List.countP_congr fun v _ => ?_
      by_cases z : v = r.hi
      · subst z
        rw [here, e2]
        simp
      · rw [others v z]
    · unfold slack
      refine sum_lt _ _ _ (fun v _ => ?_) ⟨r.hi, hin, ?_⟩
      · by_cases z : v = r.hi
        · subst z
          rw [here, e2]
          have := h2 e e2
          show (valAt m r.hi - valAt m s - (d + r.gap)).toNat ≤ (valAt m r.hi - valAt m s - e).toNat
          omega
        · rw [others v z]
          exact Nat.le_refl _
      · rw [here, e2]
        have c1 := h2 e e2
        have c2 := (fr' _ _ here).le ad
        show (valAt m r.hi - valAt m s - (d + r.gap)).toNat < (valAt m r.hi - valAt m s - e).toNat
        omega
theorem fold_near {s : Option N} (wi : Within G ns) (ad : Adm G m) : ∀ (L : List (Rl N)) {f : PF N}, (∀ r ∈ L, r ∈ G) → From G s f → (∃ r ∈ L, Lifts f r) → Near m s ns f (L.foldl relO f)
  | [], _, _, _, ⟨_, h, _⟩ => by cases h
  | r :: L, f, hL, h, ⟨r', hr', q⟩ => by
    have hL' : ∀ z ∈ L, z ∈ G := fun z hz => hL z (List.mem_cons_of_mem _ hz)
    have hrG := hL r List.mem_cons_self
    have rest : ∀ {g : PF N}, From G s g → Near m s ns g (L.foldl relO g) ∨ L.foldl relO g = g := by
      intro g hg
      by_cases z : ∃ r ∈ L, Lifts g r
      · exact .inl (fold_near wi ad L hL' hg z)
      · refine .inr ?_
        have go : ∀ L' : List (Rl N), (∀ r ∈ L', r ∈ L) → L'.foldl relO g = g := by
          intro L'
          induction L' with
          | nil => intro _; rfl
          | cons a L' ih =>
            intro hs
            show L'.foldl relO (relO g a) = g
            rw [relO_no fun w => z ⟨a, hs a List.mem_cons_self, w⟩]
            exact ih fun r h => hs r (List.mem_cons_of_mem _ h)
        exact go L fun _ h => h
    by_cases c : Lifts f r
    · have n1 := relO_near wi ad hrG h c
      rcases rest (relO_from hrG h) with n2 | n2
      · exact n1.trans n2
      · show Near m s ns f (L.foldl relO (relO f r))
        rw [n2]
        exact n1
    · show Near m s ns f (L.foldl relO (relO f r))
      rw [relO_no c]
      rcases List.mem_cons.mp hr' with e | hr'
      · subst e
        exact (c q).elim
      · exact fold_near wi ad L hL' h ⟨r', hr', q⟩
theorem pass_from {s : Option N} {f : PF N} (h : From G s f) : From G s (pass G f) := fold_from G (fun _ h => h) h
/-- the passes end -/
theorem passes_end {s : Option N} (wi : Within G ns) (ad : Adm G m) : ∀ (a b : Nat) (f : PF N), lack ns f = a → slack m s ns f = b → From G s f → ∃ k, Still G (passes G f k) := by
  intro a
  induction a using Nat.strongRecOn with
  | ind a iha =>
    intro b
    induction b using Nat.strongRecOn with
    | ind b ihb =>
      intro f ha hb h
      by_cases q : Still G f
      · exact ⟨0, q⟩
      · have ⟨r, hr, hl⟩ : ∃ r ∈ G, Lifts f r := Classical.byContradiction fun z => q fun r hr w => z ⟨r, hr, w⟩
        have n := fold_near wi ad G (fun _ h => h) h ⟨r, hr, hl⟩
        have hf := pass_from h
        rcases n with n | ⟨n1, n2⟩
        · obtain ⟨k, hk⟩ := iha (lack ns (pass G f)) (by rw [← ha]; exact n) _ (pass G f) rfl rfl hf
          exact ⟨k + 1, hk⟩
        · obtain ⟨k, hk⟩ := ihb (slack m s ns (pass G f)) (by rw [← hb]; exact n2) (pass G f) (by rw [← ha]; exact n1) rfl hf
          exact ⟨k + 1, hk⟩
/-- at rest: the tightest gaps -/
theorem still_tight {s : Option N} {f : PF N} (ad : Adm G m) (h : From G s f) (h0 : ∃ d, f s = some d ∧ 0 ≤ d) (st : Still G f) (v : Option N) (d : Int) : f v = some d ↔ Tight G s v d := by
  have low : ∀ {v : Option N} {t : Int}, Ch G s v t → ∃ d, f v = some d ∧ t ≤ d := by
    intro v t hc
    induction hc with
    | nil => exact h0
    | @snoc b t r _ hr he ih =>
      obtain ⟨d, h1, h2⟩ := ih
      rw [← he] at h1
      cases e : f r.hi with
      | none => exact (st r hr ⟨d, h1, fun e' q => by rw [e] at q; cases q⟩).elim
      | some e' =>
        refine ⟨e', rfl, ?_⟩
        by_cases c : d + r.gap > e'
        · exact (st r hr ⟨d, h1, fun e2 q => by rw [e] at q; cases q; exact c⟩).elim
        · omega
  constructor
  · intro e
    refine ⟨h v d e, fun t ht => ?_⟩
    obtain ⟨d', h1, h2⟩ := low ht
    rw [e] at h1
    cases h1
    exact h2
  · rintro ⟨h1, h2⟩
    obtain ⟨d', e1, e2⟩ := low h1
    have := h2 _ (h v d' e1)
    rw [e1, show d' = d by omega]
end
end K73
set_option maxHeartbeats 200000
/-! The order of texts; the least of a block is its head. -/
namespace K73
open PySem
def sLt (a b : Str) : Prop := a.cps.toList < b.cps.toList
instance (a b : Str) : Decidable (sLt a b) := inferInstanceAs (Decidable (a.cps.toList < b.cps.toList))
theorem sLt_trans {a b c : Str} (h : sLt a b) (h' : sLt b c) : sLt a c := List.lt_trans h h'
theorem sLt_irrefl (a : Str) : ¬ sLt a a := List.lt_irrefl _
theorem sLt_tri {a b : Str} (h : ¬ sLt a b) (h' : ¬ sLt b a) : a = b := by
  have e : a.cps.toList = b.cps.toList := List.le_antisymm (List.not_lt.mp h') (List.not_lt.mp h)
  cases a
  cases b
  congr 1
  exact Array.toList_inj.mp e
theorem minOf_mem (x : Str) : ∀ xs : List Str, PySem.W.minOf x xs ∈ x :: xs := by
  intro xs
  unfold PySem.W.minOf
  induction xs generalizing x with
  | nil => exact List.mem_singleton.mpr rfl
  | cons y ys ih =>
    rw [List.foldl_cons]
    rcases List.mem_cons.mp (ih (if PySem.W.DatumOrd.lt y x = true then y else x)) with h | h
    · rw [h]
      split
      · exact List.mem_cons_of_mem _ List.mem_cons_self
      · exact List.mem_cons_self
    · exact List.mem_cons_of_mem _ (List.mem_cons_of_mem _ h)
theorem lt_str {a b : Str} : PySem.W.DatumOrd.lt a b = true ↔ sLt a b := decide_eq_true_iff
theorem minOf_least (x : Str) : ∀ xs : List Str, ∀ z ∈ x :: xs, ¬ sLt z (PySem.W.minOf x xs) := by
  intro xs
  unfold PySem.W.minOf
  induction xs generalizing x with
  | nil =>
    intro z hz
    rw [List.mem_singleton.mp hz]
    exact sLt_irrefl _
  | cons y ys ih =>
    intro z hz
    rw [List.foldl_cons]
    by_cases h : sLt y x
    · rw [if_pos (lt_str.mpr h)]
      rcases List.mem_cons.mp hz with e | hz
      · rw [e]
        intro w
        exact ih y y List.mem_cons_self (sLt_trans h w)
      · exact ih y z hz
    · rw [if_neg fun w => h (lt_str.mp w)]
      rcases List.mem_cons.mp hz with e | hz
      · exact ih x z (by rw [e]; exact List.mem_cons_self)
      · rcases List.mem_cons.mp hz with e | hz
        · rw [e]
          intro w
          have ih' := ih x x List.mem_cons_self
          by_cases w2 : sLt x y
          · exact ih' (sLt_trans w2 w)
          · rw [sLt_tri h w2] at w
            exact ih' w
        · exact ih x z (List.mem_cons_of_mem _ hz)
section
variable {G : List (Rl Str)} {ns : List Str}
/-- the block's first name -/
noncomputable def headOf (G : List (Rl Str)) (ns : List Str) (n : Str) : Str := ((blkOf G ns n).head?).getD n
theorem headOf_head {n : Str} (hn : n ∈ ns) : (blkOf G ns n).head? = some (headOf G ns n) := by
  have hm : n ∈ blkOf G ns n := mem_blk.mpr ⟨hn, Mate.refl _⟩
  unfold headOf
  cases e : blkOf G ns n with
  | nil => rw [e] at hm; cases hm
  | cons a t => rfl
theorem headOf_in {n : Str} (hn : n ∈ ns) : headOf G ns n ∈ blkOf G ns n := by
  have h := headOf_head (G := G) hn
  cases e : blkOf G ns n with
  | nil => rw [e] at h; cases h
  | cons a t =>
    rw [e] at h
    rw [← Option.some.inj h]
    exact List.mem_cons_self
theorem headOf_least {n y : Str} (ord : ns.Pairwise sLt) (hn : n ∈ ns) (hy : y ∈ blkOf G ns n) : y = headOf G ns n ∨ sLt (headOf G ns n) y := by
  have h := headOf_head (G := G) hn
  have hs : (blkOf G ns n).Pairwise sLt := ord.sublist List.filter_sublist
  cases e : blkOf G ns n with
  | nil => rw [e] at hy; cases hy
  | cons a t =>
    rw [e] at h hy hs
    rw [← Option.some.inj h]
    rcases List.mem_cons.mp hy with z | z
    · exact .inl z
    · exact .inr ((List.pairwise_cons.mp hs).1 y z)
/-- min of the mates, none of them the ground -/
theorem min_mates {n : Str} (ord : ns.Pairwise sLt) (hn : n ∈ ns) (x : Str) (xs : List Str) (h : ∀ y, y ∈ x :: xs ↔ y ∈ ns ∧ Mate G (some n) (some y)) : PySem.W.minOf x xs = headOf G ns n := by
  have h1 := minOf_mem x xs
  have h2 := minOf_least x xs
  have hh := headOf_in (G := G) hn
  have hb : headOf G ns n ∈ x :: xs := (h _).mpr (mem_blk.mp hh)
  have hm : PySem.W.minOf x xs ∈ blkOf G ns n := mem_blk.mpr ((h _).mp h1)
  rcases headOf_least ord hn hm with z | z
  · exact z
  · exact absurd z (h2 _ hb)
theorem headOf_heads {n : Str} (hn : n ∈ ns) (hg : ¬ Mate G none (some n)) : headOf G ns n ∈ heads G ns ∧ Mate G (some n) (some (headOf G ns n)) := by
  obtain ⟨h, h1, h2, h3⟩ := head_of hn hg
  rw [headOf_head hn] at h3
  rw [Option.some.inj h3]
  exact ⟨h1, h2⟩
theorem head_self {n : Str} (hn : n ∈ ns) (hg : ¬ Mate G none (some n)) : headOf G ns n = n ↔ n ∈ heads G ns := by
  constructor
  · intro h
    have := (headOf_heads hn hg).1
    rwa [h] at this
  · intro h
    have h1 := headOf_heads hn hg
    exact (heads_apart h h1.1 h1.2).symm
end
end K73
set_option maxHeartbeats 200000
/-! == and != of two dicts of numbers over the same names. -/
namespace K73
open PySem PySem.Spec PyProof.Rows L2
def sameAll (ns : List Str) (f g : Str → Int) : Bool := ns.all fun n => f n == g n
theorem sameAll_iff {ns : List Str} {f g : Str → Int} : sameAll ns f g = true ↔ ∀ n ∈ ns, f n = g n := by
  unfold sameAll
  rw [List.all_eq_true]
  exact ⟨fun h n hn => by simpa using h n hn, fun h n hn => by simpa using h n hn⟩
section
variable {X : Cx}
theorem hits_pt {A : Around} {s : Shared} {ns : List Str} {g : Str → Int} {vb : List (Key × Value)} (rb : KV (pt ns g) vb) {f : Str → Int} : ∀ {l : List Str} {va : List (Key × Value)}, (∀ n ∈ l, n ∈ ns) → KV (pt l f) va → PySem.W.KeqHits A s vb va (sameAll l f g)
  | [], _, _, ra => by
    unfold KV at ra
    cases ra
    exact .nil
  | n :: l, _, hl, ra => by
    unfold KV at ra
    cases ra with
    | @cons _ q _ qs h t =>
      obtain ⟨k, v⟩ := q
      obtain ⟨h1, h2⟩ := h
      have h1 : (Sum.inr n : Key) = k := h1
      subst h1
      have hv : RelO (some (V.int (g n))) (valueAt vb (Sum.inr n)) := by
        rw [← pt_get (hl n List.mem_cons_self)]
        exact rb.val _
      obtain ⟨y, hy, ry⟩ := hv.some_of
      have ih := hits_pt (A := A) (s := s) rb (f := f) (l := l) (fun m hm => hl m (List.mem_cons_of_mem _ hm)) t
      have e : sameAll (n :: l) f g = ((f n == g n) && sameAll l f g) := by unfold sameAll; rw [List.all_cons]
      rw [e]
      exact .hit hy (eqAt_V (y := V.int (f n)) (x := V.int (g n)) h2 ry rfl rfl) ih
def rPt (b : Bool → Bool) : R2 := fun x y H Q => ∃ a c ns f g, x = .ref a ∧ y = .ref c ∧ PtAt H a ns f ∧ PtAt H c ns g ∧ Q (.bl (b (sameAll ns f g))) H
theorem op_eqPt (hu : X.A.units < cLine) : OpR X (compareOp .Eq) (rPt fun b => b) := by
  intro pins s σ H x y v u Q I rx ry h
  obtain ⟨a, b, ns, f, g, rfl, rfl, ea, eb, q⟩ := h
  obtain rfl : v = Value.ref a := rx
  obtain rfl : u = Value.ref b := ry
  obtain ⟨_, ya, va, ra, da⟩ := (show ObjOk X.prog X.w H s.heap a (.dK (pt ns f)) from I.hok a _ ea)
  obtain ⟨_, yb, vb, rb, db⟩ := (show ObjOk X.prog X.w H s.heap b (.dK (pt ns g)) from I.hok b _ eb)
  have hl : va.length = vb.length := by rw [← ra.length, ← rb.length, pt_length, pt_length]
  exact PySem.W.keq_eq (knd := mixKind X.prog X.w) (r := sameAll ns f g) ya yb da db hu (fun _ => hits_pt rb (fun _ h => h) ra) (fin_bl I q (by simp [hl]))
theorem op_nePt (hu : X.A.units < cLine) : OpR X (compareOp .NotEq) (rPt fun b => !b) := by
  intro pins s σ H x y v u Q I rx ry h
  obtain ⟨a, b, ns, f, g, rfl, rfl, ea, eb, q⟩ := h
  obtain rfl : v = Value.ref a := rx
  obtain rfl : u = Value.ref b := ry
  obtain ⟨_, ya, va, ra, da⟩ := (show ObjOk X.prog X.w H s.heap a (.dK (pt ns f)) from I.hok a _ ea)
  obtain ⟨_, yb, vb, rb, db⟩ := (show ObjOk X.prog X.w H s.heap b (.dK (pt ns g)) from I.hok b _ eb)
  have hl : va.length = vb.length := by rw [← ra.length, ← rb.length, pt_length, pt_length]
  exact PySem.W.keq_ne (knd := mixKind X.prog X.w) (r := sameAll ns f g) ya yb da db hu (fun _ => hits_pt rb (fun _ h => h) ra) (fin_bl I q (by simp [hl]))
end
end K73
set_option maxHeartbeats 200000
/-! The rules whose readings name the context, for use within a comprehension: the program and the written part are told. -/
namespace K73
open PySem PySem.Spec PyProof.Rows L2
section
variable {X : Cx} {o i e l : Expr} {td ty te tl : TE} {pos : Pos} {f : Str}
theorem pe_xgetB (P : Program) (w : World) (hu : X.A.units + 1 < cLine) (ho : PE X o td) (hi : PE X i ty) (hs : NoSl i) (hP : X.prog = P := by rfl) (hw : X.w = w := by rfl) : PE X (.Subscript o i pos) (tXGet P w td ty) := by
  subst hP hw
  exact pe_xget hu ho hi hs
theorem pc_xinB (P : Program) (w : World) (hu : X.A.units + 1 < cLine) (hi : PE X i ty) (ho : PE X o td) (hP : X.prog = P := by rfl) (hw : X.w = w := by rfl) : PC X .In i o (tXIn P w ty td) := by
  subst hP hw
  exact pc_xin hu hi ho
theorem pc_xnotinB (P : Program) (w : World) (hu : X.A.units + 1 < cLine) (hi : PE X i ty) (ho : PE X o td) (hP : X.prog = P := by rfl) (hw : X.w = w := by rfl) : PC X .NotIn i o (tXNotIn P w ty td) := by
  subst hP hw
  exact pc_xnotin hu hi ho
theorem pe_fldB (K : PySem.W.Frag) (he : PE X e te) (hb : attributeBase e f X.env (eval e X.env) = eval e X.env) (hK : X.K = K := by rfl) : PE X (.Attribute e f pos) (tFld K te f) := by
  subst hK
  exact pe_fld he hb
theorem pi_listB {tg : Expr} (K : PySem.W.Frag) (hl : PE X l tl) (hK : X.K = K := by rfl) : PI X tg l (iList K tl) := by
  subst hK
  exact pi_list hl
theorem patB (K : PySem.W.Frag) (i : Nat) {x : Str} {k : Int} {c : Nat} {p p2 pos : Pos} (hN : X.N[i]? = some x := by rfl) (hv : Vis X.env.scope x := by first | exact Or.inl rfl | exact Or.inr (Or.inl rfl) | exact Or.inr (Or.inr rfl)) (hd : (x == ("__debug__" : Str)) = false := by decide)
    (hcd : (x == ("__classdict__" : Str)) = false := by decide) (hK : X.K = K := by rfl) : PE X (.Subscript (.Name x p) (.Constant (.int k) c p2) pos) (tOp (rIxT K) (tVar i) (tC (.int k))) := by
  subst hK
  exact pat i hN hv hd hcd
theorem ix_listB (K : PySem.W.Frag) (hK : X.K = K := by rfl) : IxR X (rIxL K) := by
  subst hK
  exact ix_list
theorem ix_tupB (K : PySem.W.Frag) (hK : X.K = K := by rfl) : IxR X (rIxT K) := by
  subst hK
  exact ix_tup
theorem op_inB (K : PySem.W.Frag) (hK : X.K = K := by rfl) : OpR X (compareOp .In) (rIn K false) := by
  subst hK
  exact op_in_seq
theorem op_eqNilB (K : PySem.W.Frag) (hu : X.A.units < cLine) (hK : X.K = K := by rfl) : OpR X (compareOp .Eq) (rNil K fun b => b) := by
  subst hK
  exact op_eqNil hu
theorem call_lenB (K : PySem.W.Frag) (hK : X.K = K := by rfl) : CallR X (.builtin "len") (fun xs H Q => ∃ p ys, xs = [.ref p] ∧ (SqL K H p ys ∨ SqT K H p ys) ∧ Q (.int ys.length) H) := by
  subst hK
  exact call_len_seq
theorem pe_bmB (K : PySem.W.Frag) {T id : String} {name : Str} {r : V → List V → Hp → VK → Prop} {t : TA} {es : List Expr} {apos cpos : Pos} (pa : PlainAttrs T) (slot : Slot T name id) (hty : typeOf (.builtin id) = pure (.type "method_descriptor")) (hm : MtR X id r) (ho : PE X o td) (ha : PA X (e :: es) t)
    (hK : X.K = K := by rfl)
    (hbase : attributeBase o name X.env (eval o X.env) = eval o X.env := by rfl)
    (hfew : ((backTo cpos (starEach (e :: es) X.env)).all (fun x => !x.1) && (backToKw cpos (keywordEach [] X.env)).all (fun x => x.1.isSome)
      && decide ((e :: es).length + ([] : List Keyword).length + (if ([] : List Keyword).isEmpty then 0 else 1) < 30)) = true := by rfl)
    (hline : (apos.endLine == cpos.line) = true := by rfl) (hs : starEach (e :: es) X.env = (false, eval e X.env) :: starEach es X.env := by rfl) (hplain : (backTo cpos (starEach es X.env)).any (·.1) = false := by rfl) :
    PE X (.Call (.Attribute o name apos) (e :: es) [] cpos) (tBM K T r td t) := by
  subst hK
  exact pe_bm pa slot hty hm ho ha hbase hfew hline hs hplain
end
end K73
set_option maxHeartbeats 200000
/-! The checks. -/
namespace K73
open PySem PySem.Spec PyProof.Rows L2
section
variable {P : Program} {w : World} {K : PySem.W.Frag} {mg : Str → Option Value} {base : Heap}
/-! is_integer -/
def spIsInteger : Sp := fun vs H Q _ => ∃ i lo hi : Int, vs = [.int i, .int lo, .int hi] ∧ Q (.bl (decide (lo ≤ i ∧ i ≤ hi))) H
theorem ok_isInteger {x qual : Str} {g : Addr} {fd : FuncData} (T : Nm mg) (F : Fun K x qual sIsInteger g fd) : FnOk P w K mg base CX0 1 g fd ["thing", "low", "high"] spIsInteger := by
  refine F.ok cIsInteger (fun vs H Q E h => ?_) (fun cdv A outer s H vs Q E hr h => ?_)
  · obtain ⟨d, t, ns, rfl, _⟩ := h
    rfl
  · obtain ⟨i, lo, hi, rfl, q⟩ := h
    refine ⟨_, pss_one (ps_ret (pe_and (pe_isi T rfl rfl T.int boot_int (pv 0)) (pe_and (pe_not (pe_isi T rfl rfl T.bool boot_bool (pv 0))) (pe_one (pe_chain op_le op_le (pv 1) (pv 0) (pv 2)))))), ?_⟩
    refine ⟨_, rfl, _, _, _, _, true, rfl, .ty _, .base (.int i), kit_ty (by decide +kernel), true, rfl, ?_⟩
    rw [if_pos rfl]
    refine ⟨_, rfl, _, _, _, _, false, rfl, .ty _, .base (.int i), kit_ty (by decide +kernel), ?_⟩
    refine ⟨_, rfl, _, rfl, iteT ⟨_, rfl, _, rfl, _, _, rfl, rfl, _, rfl, ?_⟩⟩
    by_cases h1 : lo ≤ i
    · rw [if_pos (decide_eq_true h1)]
      refine ⟨_, rfl, _, _, rfl, rfl, ?_⟩
      have e : decide (lo ≤ i ∧ i ≤ hi) = decide (i ≤ hi) := by simp [h1]
      rw [e] at q
      exact q
    · rw [if_neg (by simp [h1])]
      have e : decide (lo ≤ i ∧ i ≤ hi) = false := by simp [h1]
      rw [e] at q
      exact q
/-! is_name -/
abbrev letters : Str := "abcdefghijklmnopqrstuvwxyz"
def OkName (z : Str) : Prop := 1 ≤ z.length ∧ z.length ≤ 8 ∧ ∀ c ∈ z.cps.toList, c ∈ letters.cps.toList
def spIsName : Sp := fun vs H Q _ => ∃ z : Str, vs = [.str z] ∧ OkName z ∧ ∀ H', Same H H' → Q (.bl true) H'
theorem ok_isName {x qual : Str} {g : Addr} {fd : FuncData} (T : Nm mg) (F : Fun K x qual sIsName g fd) : FnOk P w K mg base CX0 1 g fd ["thing"] spIsName := by
  refine F.ok cIsName (fun vs H Q E h => ?_) (fun cdv A outer s H vs Q E hr h => ?_)
  · obtain ⟨z, rfl, _⟩ := h
    rfl
  · obtain ⟨z, rfl, ⟨h1, h2, h3⟩, k⟩ := h
    obtain ⟨t8, e8⟩ := T.maxName
    obtain ⟨tl, el⟩ := T.letters
    refine ⟨_, pss_one (ps_ret (pe_and (pe_isi T rfl rfl T.str boot_str (pv 0)) (pe_and (pe_chain op_le op_le pe_int (pe_callB call_len_str (by rfl) T.len PySem.boot_len (pa_cons (pv 0) pa_nil)) (pe_glob rfl e8 (v := .int 8) ⟨_, rfl⟩))
      (pe_one (pe_callB (cr_all rfl) rfl T.all boot_all (pa_cons (pe_lc (own := [("sign", 1)]) (g := gName 1) (tt := tYes) rfl cIsName.nd (pi_str (pv 0)) (blkOk_by (N := nIsName) (sc := defScope sIsName) (by decide +kernel)) (fun _ _ _ _ _ => pg_name (i := 1) cIsName.nd rfl (Or.inl rfl))
        (fun _ _ _ _ _ => pts_nil) (fun _ _ _ _ _ => pe_cmpR op_in_sign (pv 1) (pe_glob rfl el (v := .str letters) ⟨_, rfl⟩) (by rfl))) pa_nil)))))), ?_⟩
    refine ⟨_, rfl, _, _, _, _, true, rfl, .ty _, .base (.str z), kit_ty (by decide +kernel), true, rfl, iteT ⟨_, rfl, z, rfl, Nat.le_trans h2 (by decide), _, _, rfl, rfl, true, ?_, ?_⟩⟩
    · exact congrArg V.bl (decide_eq_true (by omega))
    refine iteT ⟨_, _, rfl, rfl, true, congrArg V.bl (decide_eq_true (by omega)), iteT ⟨_, rfl, z, rfl, fun D hD => ?_⟩⟩
    refine lc_val walk_str hD (z.cps.toList.map fun c => V.str ⟨#[c]⟩) (by rw [List.length_map, Array.length_toList]) (Nat.lt_of_le_of_lt (show z.length ≤ 8 from h2) (by decide)) (fun _ _ => trivial) ?_ (fun _ => true) (fun _ => .bl true) (fun x H' Qt _ _ q => q H' (Same.refl _)) ?_ ?_
    · rintro i H x H' hi ⟨rfl, c, hc, rfl⟩
      refine ⟨rfl, ?_⟩
      rw [List.getElem?_map, Array.getElem?_toList, hc]
      rfl
    · rintro x H' Qe hm _ _ q
      obtain ⟨c, hc, rfl⟩ := List.mem_map.mp hm
      refine ⟨_, rfl, c, letters, rfl, rfl, ?_⟩
      rw [decide_eq_true (h3 c hc)]
      exact q H' (Same.refl _)
    · intro H' e hd
      refine ⟨D, List.replicate z.cps.size true, rfl, SqL.of ?_, ?_⟩
      · rw [hd, List.filter_eq_self.mpr fun _ _ => rfl, List.map_map, List.map_replicate]
        congr 2
        rw [List.eq_replicate_iff]
        refine ⟨by rw [List.length_map, Array.length_toList], fun b hb => ?_⟩
        obtain ⟨c, _, rfl⟩ := List.mem_map.mp hb
        rfl
      · have ea : (List.replicate z.cps.size true).all id = true := List.all_eq_true.mpr fun b hb => by rw [(List.mem_replicate.mp hb).2]; rfl
        rw [ea]
        exact k H' e
/-! is_thing -/
def OkThing (t : Option Str) : Prop := ∀ z, t = some z → OkName z
def spIsThing : Sp := fun vs H Q _ => ∃ t : Option Str, vs = [vT t] ∧ OkThing t ∧ ∀ H', Same H H' → Q (.bl true) H'
theorem ok_isThing {x qual q1 : Str} {g g1 : Addr} {fd fd1 : FuncData} (T : Nm mg) (F : Fun K x qual sIsThing g fd) (N : Dn K mg "is_name" q1 sIsName ["thing"] g1 fd1) : FnOk P w K mg base CX0 2 g fd ["thing"] spIsThing := by
  refine F.ok cIsThing (fun vs H Q E h => ?_) (fun cdv A outer s H vs Q E hr h => ?_)
  · obtain ⟨z, rfl, _⟩ := h
    rfl
  · obtain ⟨t, rfl, ht, k⟩ := h
    have G := ok_isName (P := P) (w := w) (base := base) T N.fn
    refine ⟨_, pss_one (ps_ret (pe_or (pe_cmpR op_isN (pv 0) pe_non (nomark _)) (pe_one (pe_d N G hr rfl (pa_cons (pv 0) pa_nil))))), ?_⟩
    refine ⟨_, rfl, rfl, _, rfl, ?_⟩
    cases t with
    | none => exact iteT (k H (Same.refl _))
    | some z => exact iteF ⟨_, rfl, z, rfl, ht z rfl, k⟩
/-! is_rule -/
structure OkRule (r : Rul) : Prop where
  lo : OkThing r.lo
  hi : OkThing r.hi
  ne : r.lo ≠ r.hi
  least : -999 ≤ r.gap
  most : r.gap ≤ 999
def spIsRule : Sp := fun vs H Q _ => ∃ (p : Addr) (r : Rul), vs = [.ref p] ∧ RuleAt H p r ∧ OkRule r ∧ ∀ H', Same H H' → Q (.bl true) H'
theorem scal_vT (a b : Option Str) : scal (vT a) (vT b) = true := by cases a <;> cases b <;> rfl
theorem ok_isRule {x qual q1 q2 q3 : Str} {g g1 g2 g3 : Addr} {fd fd1 fd2 fd3 : FuncData} (T : Nm mg) (F : Fun K x qual sIsRule g fd) (N : Dn K mg "is_name" q1 sIsName ["thing"] g1 fd1) (I : Dn K mg "is_integer" q2 sIsInteger ["thing", "low", "high"] g2 fd2)
    (TH : Dn K mg "is_thing" q3 sIsThing ["thing"] g3 fd3) : FnOk P w K mg base CX0 3 g fd ["thing"] spIsRule := by
  refine F.ok cIsRule (fun vs H Q E h => ?_) (fun cdv A outer s H vs Q E hr h => ?_)
  · obtain ⟨z, r, rfl, _⟩ := h
    rfl
  · obtain ⟨p, r, rfl, hp, ok, k⟩ := h
    have G2 := ok_isInteger (P := P) (w := w) (base := base) T I.fn
    have G3 := ok_isThing (P := P) (w := w) (base := base) T TH.fn N
    obtain ⟨tg, eg⟩ := T.maxGap
    refine ⟨_, pss_cons (ps_if (PW.pt (pw_or (pt_not (ptv (pe_isi T rfl rfl T.tuple boot_tuple (pv 0))))
          (pw_or (pt_cmpR op_ne (pe_callB call_len_seq (by rfl) T.len PySem.boot_len (pa_cons (pv 0) pa_nil)) pe_int (nomark _))
          (pw_or1 (pt_not (ptv (pe_d I G2 (hr.mono (by decide)) rfl (pa_cons (pat 0) (pa_cons (pe_un un_neg (pe_glob rfl eg (v := .int 999) ⟨_, rfl⟩)) (pa_cons (pe_glob rfl eg (v := .int 999) ⟨_, rfl⟩) pa_nil)))))))))) pss_no pss_nil)
      (pss_one (ps_ret (pe_and (pe_d TH G3 hr rfl (pa_cons (pat 0) pa_nil))
        (pe_and (pe_d TH G3 hr rfl (pa_cons (pat 0) pa_nil))
        (pe_one (pe_cmpR op_ne (pat 0) (pat 0) (nomark _))))))), ?_⟩
    refine ⟨_, rfl, _, _, _, _, true, rfl, .ty _, .base (.tup hp), kit_ty (by decide +kernel), true, rfl, ?_⟩
    refine iteF ⟨_, rfl, p, _, rfl, .inr (SqT.of hp), rfl, _, rfl, iteF ⟨_, rfl, p, _, _, _, rfl, rfl, SqT.of hp, atI_nat (j := 2) rfl, _, rfl, ?_⟩⟩
    have hg : decide (-999 ≤ r.gap ∧ r.gap ≤ 999) = true := decide_eq_true ⟨ok.least, ok.most⟩
    refine ⟨r.gap, -999, 999, rfl, ?_⟩
    rw [hg]
    refine ⟨_, rfl, iteF ?_⟩
    refine ⟨_, rfl, p, _, _, _, rfl, rfl, SqT.of hp, atI_nat (j := 0) rfl, r.lo, rfl, ok.lo, fun H1 e1 => ⟨_, rfl, iteT ?_⟩⟩
    refine ⟨_, rfl, p, _, _, _, rfl, rfl, SqT.of (e1 _ _ hp), atI_nat (j := 1) rfl, r.hi, rfl, ok.hi, fun H2 e2 => ⟨_, rfl, iteT ?_⟩⟩
    have hp2 : H2 p = _ := e2 _ _ (e1 _ _ hp)
    refine ⟨_, rfl, p, _, _, _, rfl, rfl, SqT.of hp2, atI_nat (j := 0) rfl, _, rfl, p, _, _, _, rfl, rfl, SqT.of hp2, atI_nat (j := 1) rfl, scal_vT _ _, ?_⟩
    rw [decide_eq_false fun z => ok.ne (vT_inj z)]
    exact k H2 (e1.trans e2)
/-! are_numbers -/
def Small (ns : List Str) (f : Str → Int) : Prop := ∀ n ∈ ns, -99999 ≤ f n ∧ f n ≤ 99999
def spAreNumbers (C : Addr) : Sp := fun vs H Q _ => ∃ (sy d : Addr) (ns : List Str) (L : List (Addr × Rul)) (f : Str → Int), vs = [.ref sy, .ref d] ∧ SysAt C H sy ns L ∧ PtAt H d ns f ∧ Small ns f ∧ ns.length < 1000 ∧ ∀ H', Same H H' → Q (.bl true) H'
theorem ok_areNumbers {x qual q2 : Str} {C g g2 : Addr} {fd fd2 : FuncData} (T : Nm mg) (S : SysC K mg C) (F : Fun K x qual sAreNumbers g fd) (I : Dn K mg "is_integer" q2 sIsInteger ["thing", "low", "high"] g2 fd2) : FnOk P w K mg base CX0 2 g fd ["system", "thing"] (spAreNumbers C) := by
  refine F.ok cAreNumbers (fun vs H Q E h => ?_) (fun cdv A outer s H vs Q E hr h => ?_)
  · obtain ⟨sy, d, ns, L, f, rfl, _⟩ := h
    rfl
  · obtain ⟨sy, d, ns, L, f, rfl, hs, hd, sm, hl, k⟩ := h
    have G := ok_isInteger (P := P) (w := w) (base := base) T I.fn
    obtain ⟨tn, en⟩ := T.maxNumber
    refine ⟨_, pss_cons (ps_if (PW.pt (pw_or (pt_not (ptv (pe_isi T rfl rfl T.dict boot_dict (pv 1))))
          (pw_or1 (pt_cmpR op_ne (pe_callB call_lenD (by rfl) T.len PySem.boot_len (pa_cons (pv 1) pa_nil)) (pe_callB call_len_seq (by rfl) T.len PySem.boot_len (pa_cons (pe_fld (pv 0) rfl) pa_nil)) (nomark _))))) pss_no pss_nil)
      (pss_one (ps_ret (pe_callB (cr_all rfl) rfl T.all boot_all (pa_cons (pe_lc (own := [("name", 2)]) (g := gName 2) (tt := tYes) rfl cAreNumbers.nd (pi_list (pe_fld (pv 0) rfl)) (blkOk_by (N := nAreNumbers) (sc := defScope sAreNumbers) (by decide +kernel))
        (fun _ _ _ _ _ => pg_name (i := 2) cAreNumbers.nd rfl (Or.inl rfl)) (fun _ _ _ _ _ => pts_nil)
        (fun _ _ _ _ _ => pe_and (pe_cmp (pc_din (hu_of hr) (pv 2) (pv 1))) (pe_one (pe_d I G hr rfl (pa_cons (pe_dget (hu_of hr) (pv 1) (pv 2) (fun _ _ => rfl)) (pa_cons (pe_un un_neg (pe_glob rfl en (v := .int 99999) ⟨_, rfl⟩)) (pa_cons (pe_glob rfl en (v := .int 99999) ⟨_, rfl⟩) pa_nil)))))))
        pa_nil)))), ?_⟩
    obtain ⟨dx, sl, gl, h1, h2, h3, h4⟩ := id hs
    refine ⟨_, rfl, _, _, _, _, true, rfl, .ty _, .base (.dK hd), kit_ty (by decide +kernel), true, rfl, ?_⟩
    refine iteF ⟨_, rfl, d, _, rfl, hd, _, rfl, sy, C, dx, _, _, rfl, h1, S.cl, S.nS, fs_set, sl, _, rfl, .inl (SqL.of h2), rfl, _, rfl, ?_⟩
    have el : (!decide (V.int ((pt ns f).length : Nat) = V.int ((ns.map V.str).length : Nat))) = false := by
      rw [pt_length, List.length_map]
      simp
    rw [el]
    refine iteF ⟨_, rfl, sy, C, dx, _, _, rfl, h1, S.cl, S.nS, fs_set, sl, rfl, ⟨_, SqL.of h2⟩, fun D hD => ?_⟩
    refine lcl_map (SqL.of h2) hD (by rw [List.length_map]; exact Nat.lt_trans hl (by decide)) (fun _ => .bl true) ?_ ?_
    · rintro x H' Qe hm e q
      obtain ⟨n, hn, rfl⟩ := List.mem_map.mp hm
      have hd' := hd.same e
      refine ⟨_, rfl, _, rfl, d, _, rfl, hd'.get hn, _, rfl, iteT ⟨_, rfl, _, rfl, d, _, rfl, hd'.get hn, _, rfl, _, _, _, rfl, ?_⟩⟩
      rw [decide_eq_true (sm n hn)]
      exact q H' (Same.refl _)
    · intro H' e hd'
      refine ⟨D, ns.map fun _ => true, rfl, SqL.of ?_, ?_⟩
      · rw [hd', List.map_map, List.map_map]
        rfl
      · have ea : (ns.map fun _ => true).all id = true := List.all_eq_true.mpr fun b hb => by obtain ⟨_, _, rfl⟩ := List.mem_map.mp hb; rfl
        rw [ea]
        exact k H' e
/-! check_numbers -/
def spCheckNumbers (C : Addr) : Sp := fun vs H Q _ => ∃ (sy : Addr) (ds : List Addr) (ns : List Str) (L : List (Addr × Rul)), vs = .ref sy :: ds.map V.ref ∧ SysAt C H sy ns L ∧ ns.length < 1000 ∧ ds.length < 1000 ∧ (∀ d ∈ ds, ∃ f, PtAt H d ns f ∧ Small ns f) ∧ ∀ H', Same H H' → Q .non H'
theorem ok_checkNumbers {x qual q2 q3 : Str} {C g g2 g3 : Addr} {fd fd2 fd3 : FuncData} (T : Nm mg) (S : SysC K mg C) (F : Fun K x qual sCheckNumbers g fd) (I : Dn K mg "is_integer" q2 sIsInteger ["thing", "low", "high"] g2 fd2) (N : Dn K mg "are_numbers" q3 sAreNumbers ["system", "thing"] g3 fd3) :
    FnR P w K mg base CX0 3 g (spCheckNumbers C) := by
  obtain ⟨oc, od, kV, doc, pm, an, cdv, ct, osl, rfl, lk, hcd⟩ := F.ex
  have G := ok_areNumbers (P := P) (w := w) (base := base) T S N.fn I
  have z := StX.fn_star (P := P) (w := w) (mg := mg) (base := base) (N := nCheckNumbers) (ps := ["system"]) (pv := "some") (k := 2) (CX := CX0) lk hcd cCheckNumbers StX.cxUp_none
    (sp := fun vs H Q E => ∃ (sy p : Addr) (ds : List Addr) (ns : List Str) (L : List (Addr × Rul)), vs = [.ref sy, .ref p] ∧ H p = some (.tup (ds.map V.ref)) ∧ SysAt C H sy ns L ∧ ns.length < 1000 ∧ ds.length < 1000 ∧ (∀ d ∈ ds, ∃ f, PtAt H d ns f ∧ Small ns f) ∧ ∀ H', Same H H' → Q .non H')
    (StX.bind_star1 (B := fun us => bindArgs (PySem.W.fnOf x qual (defArgs sCheckNumbers) (defBody sCheckNumbers) (defScope sCheckNumbers) .none kV doc pm an cdv ct) ⟨us, []⟩) (p1 := "system") (pv := "some") (fun a => rfl) (fun a r rs => rfl)) (fun A outer s H vs Q E hr h => ?_)
  · refine z.imp fun vs H Q E h => ?_
    obtain ⟨sy, ds, ns, L, rfl, hs, hl, hl2, hf, k⟩ := h
    refine ⟨[.ref sy], ds.map V.ref, rfl, rfl, by rw [List.length_map]; exact Nat.le_of_lt (Nat.lt_trans hl2 (by decide)), fun p hp => ?_⟩
    have e := same_upd (o := .tup (ds.map V.ref)) hp
    exact ⟨sy, p, ds, ns, L, rfl, upd_same, hs.same e, hl, hl2, fun d hd => let ⟨f, h1, h2⟩ := hf d hd; ⟨f, h1.same e, h2⟩, fun H' e' => k H' (e.trans e')⟩
  · obtain ⟨sy, p, ds, ns, L, rfl, hp, hs, hl, hl2, hf, k⟩ := h
    refine ⟨_, PSs.nox (pss_one (ps_if (pt_not (ptv (pe_callB (cr_all rfl) rfl T.all boot_all (pa_cons (pe_lc (own := [("thing", 2)]) (g := gName 2) (tt := tYes) rfl cCheckNumbers.nd (pi_tup (pv 1)) (blkOk_by (N := nCheckNumbers) (sc := defScope sCheckNumbers) (by decide +kernel))
        (fun _ _ _ _ _ => pg_name (i := 2) cCheckNumbers.nd rfl (Or.inl rfl)) (fun _ _ _ _ _ => pts_nil) (fun _ _ _ _ _ => pe_d N G hr rfl (pa_cons (pv 0) (pa_cons (pv 2) pa_nil)))) pa_nil)))) pss_no pss_nil)), ?_⟩
    refine ⟨_, rfl, p, rfl, ⟨_, SqT.of hp⟩, fun D hD => ?_⟩
    refine lc_val walk_tup hD (ds.map V.ref) rfl (by rw [List.length_map]; exact Nat.lt_trans hl2 (by decide)) (fun H' e => SqT.of (e _ _ hp)) (fun i H x H' _ y => y) (fun _ => true) (fun _ => .bl true) (fun x H' Qt _ _ q => q H' (Same.refl _)) ?_ ?_
    · rintro x H' Qe hm _ e q
      obtain ⟨d, hd, rfl⟩ := List.mem_map.mp hm
      obtain ⟨f, h1, h2⟩ := hf d hd
      exact ⟨_, rfl, _, rfl, sy, d, ns, L, f, rfl, hs.same e, h1.same e, h2, hl, q⟩
    · intro H' e hd'
      refine ⟨D, ds.map fun _ => true, rfl, SqL.of ?_, ?_⟩
      · rw [hd', List.filter_eq_self.mpr fun _ _ => rfl, List.map_map, List.map_map]
        rfl
      · have ea : (ds.map fun _ => true).all id = true := List.all_eq_true.mpr fun b hb => by obtain ⟨_, _, rfl⟩ := List.mem_map.mp hb; rfl
        rw [ea]
        exact ⟨_, rfl, iteF (k H' e)⟩
/-! first_breach, of admitted numbers -/
def spFirstBreach (C : Addr) : Sp := fun vs H Q _ => ∃ (sy d : Addr) (ns : List Str) (L : List (Addr × Rul)) (f : Str → Int), vs = [.ref sy, .ref d] ∧ SysAt C H sy ns L ∧ PtAt H d ns f ∧ Small ns f ∧ ns.length < 1000 ∧ Within (gapsOf L) ns ∧ L.length < 1000 ∧ Adm (gapsOf L) f ∧ ∀ H', Same H H' → Q .non H'
theorem ok_firstBreach {x qual q2 q3 q4 q5 q6 q7 : Str} {C g g2 g3 g4 g5 g6 g7 : Addr} {fd fd2 fd3 fd4 fd5 fd6 fd7 : FuncData} (T : Nm mg) (S : SysC K mg C) (F : Fun K x qual sFirstBreach g fd) (I : Dn K mg "is_integer" q2 sIsInteger ["thing", "low", "high"] g2 fd2) (N : Dn K mg "are_numbers" q3 sAreNumbers ["system", "thing"] g3 fd3)
    (CN : Fun K "check_numbers" q4 sCheckNumbers g4 fd4) (mCN : mg "check_numbers" = some (.ref g4)) (BR : Dn K mg "broken_rules" q5 sBrokenRules ["system", "numbers"] g5 fd5) (B : Dn K mg "short_by" q6 sShortBy ["numbers", "rule"] g6 fd6) (NA : Dn K mg "number_at" q7 sNumberAt ["numbers", "thing"] g7 fd7) :
    FnOk P w K mg base CX0 4 g fd ["system", "numbers"] (spFirstBreach C) := by
  have G1 := ok_checkNumbers (P := P) (w := w) (base := base) T S CN I N
  have G2 := ok_brokenRules (P := P) (w := w) (base := base) S BR.fn B NA
  refine F.ok cFirstBreach (fun vs H Q E h => ?_) (fun cdv A outer s H vs Q E hr h => ?_)
  · obtain ⟨sy, d, ns, L, f, rfl, _⟩ := h
    rfl
  · obtain ⟨sy, d, ns, L, f, rfl, hs, hd, sm, hl, hw, hL, ad, k⟩ := h
    refine ⟨_, pss_cons (ps_expr (pe_callR G1 hr rfl mCN CN.kp pass0 (pa_cons (pv 0) (pa_cons (pv 1) pa_nil))))
      (pss_cons (ps_for PassesOwn.never rfl (pi_list (pe_d BR G2 hr rfl (pa_cons (pv 0) (pa_cons (pv 1) pa_nil)))) (pg_name (i := 2) cFirstBreach.nd rfl (Or.inl rfl)) pss_no) (pss_one (ps_ret pe_non))), ?_⟩
    refine ⟨_, rfl, _, rfl, sy, [d], ns, L, rfl, hs, hl, (show (1 : Nat) < 1000 by decide), fun d' hd' => ⟨f, by rw [List.mem_singleton.mp hd']; exact hd, sm⟩, fun H1 e1 => ?_⟩
    refine ⟨_, rfl, _, rfl, sy, d, ns, L, f, rfl, hs.same e1, hd.same e1, hw, hL, fun H2 p e2 hp hp2 => ?_⟩
    rw [brk_nil.mpr ad] at hp2
    refine ⟨p, rfl, ⟨_, SqL.of hp2⟩, for_list (K := K) (a := p) (xs := []) (fun i σ H' => H' = H2) rfl (fun i σ H' _ e => e ▸ SqL.of hp2) (fun i y σ H' hi => by simp at hi) ?_⟩
    rintro σ H' rfl
    exact k _ (e1.trans e2)
end
end K73
set_option maxHeartbeats 200000
namespace K73
open PySem PySem.Spec PyProof.Rows L2
/-- the names and the rules of a system, as the defs want them -/
structure Sound (ns : List Str) (L : List (Addr × Rul)) : Prop where
  few : ns.length ≤ 60
  fewL : L.length ≤ 900
  wi : Within (gapsOf L) ns
  nd : ns.Nodup
  ord : ns.Pairwise fun a b => a.cps.toList < b.cps.toList
theorem Sound.few3 {ns : List Str} {L : List (Addr × Rul)} (h : Sound ns L) : ns.length < 1000 := by have := h.few; omega
theorem Sound.fewL3 {ns : List Str} {L : List (Addr × Rul)} (h : Sound ns L) : L.length < 1000 := by have := h.fewL; omega
/-- admitted numbers at d -/
def AdmAt (H : Hp) (d : Addr) (ns : List Str) (L : List (Addr × Rul)) (f : Str → Int) : Prop := PtAt H d ns f ∧ Small ns f ∧ Adm (gapsOf L) f
theorem AdmAt.same {H H' : Hp} {d : Addr} {ns : List Str} {L : List (Addr × Rul)} {f : Str → Int} (h : AdmAt H d ns L f) (e : Same H H') : AdmAt H' d ns L f := ⟨h.1.same e, h.2⟩
section
variable {P : Program} {w : World} {K : PySem.W.Frag} {mg : Str → Option Value} {base : Heap}
section
variable (Z : Tp K mg)
include Z
theorem Tp.numberAt : FnOk P w K mg base CX0 1 Z.gNumberAt Z.dNumberAt ["numbers", "thing"] spNumberAt := ok_numberAt Z.NumberAt.fn
theorem Tp.shortBy : FnOk P w K mg base CX0 2 Z.gShortBy Z.dShortBy ["numbers", "rule"] spShortBy := ok_shortBy Z.ShortBy.fn Z.NumberAt
theorem Tp.brokenRules : FnOk P w K mg base CX0 3 Z.gBrokenRules Z.dBrokenRules ["system", "numbers"] (spBrokenRules Z.C) := ok_brokenRules Z.S Z.BrokenRules.fn Z.ShortBy Z.NumberAt
theorem Tp.isInteger : FnOk P w K mg base CX0 1 Z.gIsInteger Z.dIsInteger ["thing", "low", "high"] spIsInteger := ok_isInteger Z.nm Z.IsInteger.fn
theorem Tp.isName : FnOk P w K mg base CX0 1 Z.gIsName Z.dIsName ["thing"] spIsName := ok_isName Z.nm Z.IsName.fn
theorem Tp.isThing : FnOk P w K mg base CX0 2 Z.gIsThing Z.dIsThing ["thing"] spIsThing := ok_isThing Z.nm Z.IsThing.fn Z.IsName
theorem Tp.isRule : FnOk P w K mg base CX0 3 Z.gIsRule Z.dIsRule ["thing"] spIsRule := ok_isRule Z.nm Z.IsRule Z.IsName Z.IsInteger Z.IsThing
theorem Tp.checkNumbers : FnR P w K mg base CX0 3 Z.gCheckNumbers (spCheckNumbers Z.C) := ok_checkNumbers Z.nm Z.S Z.CheckNumbers Z.IsInteger Z.AreNumbers
theorem Tp.firstBreach : FnOk P w K mg base CX0 4 Z.gFirstBreach Z.dFirstBreach ["system", "numbers"] (spFirstBreach Z.C) := ok_firstBreach Z.nm Z.S Z.FirstBreach.fn Z.IsInteger Z.AreNumbers Z.CheckNumbers Z.imCN Z.BrokenRules Z.ShortBy Z.NumberAt
end
/-! check_admitted -/
def spCheckAdmitted (C : Addr) : Sp := fun vs H Q _ => ∃ (sy d e : Addr) (ns : List Str) (L : List (Addr × Rul)) (f g : Str → Int), vs = [.ref sy, .ref d, .ref e] ∧ SysAt C H sy ns L ∧ Sound ns L ∧ AdmAt H d ns L f ∧ AdmAt H e ns L g ∧ ∀ H', Same H H' → Q .non H'
theorem Tp.checkAdmitted (Z : Tp K mg) : FnOk P w K mg base CX0 5 Z.gCheckAdmitted Z.dCheckAdmitted ["system", "old", "new"] (spCheckAdmitted Z.C) := by
  have G1 := Z.checkNumbers (P := P) (w := w) (base := base)
  have G2 := Z.firstBreach (P := P) (w := w) (base := base)
  refine Z.CheckAdmitted.fn.ok cCheckAdmitted (fun vs H Q E h => ?_) (fun cdv A outer s H vs Q E hr h => ?_)
  · obtain ⟨sy, d, e, ns, L, f, g, rfl, _⟩ := h
    rfl
  · obtain ⟨sy, d, e, ns, L, f, g, rfl, hs, so, hd, he, k⟩ := h
    refine ⟨_, pss_cons (ps_expr (pe_callR G1 (hr.mono (by decide)) rfl Z.imCN Z.CheckNumbers.kp pass0 (pa_cons (pv 0) (pa_cons (pv 1) (pa_cons (pv 2) pa_nil)))))
      (pss_one (ps_for PassesOwn.never rfl (pi_tup (pe_tup (pa_cons (pv 1) (pa_cons (pv 2) pa_nil)))) (pg_name (i := 3) cCheckAdmitted.nd rfl (Or.inl rfl))
        (pss_cons (ps_set (i := 4) cCheckAdmitted.nd rfl (Or.inl rfl) (pe_d Z.FirstBreach G2 hr rfl (pa_cons (pv 0) (pa_cons (pv 3) pa_nil))))
        (pss_one (ps_if (pt_cmpR op_notN (pv 4) pe_non (nomark _)) pss_no pss_nil))))), ?_⟩
    refine ⟨_, rfl, _, rfl, _, rfl, sy, [d, e], ns, L, rfl, hs, so.few3, (show (2 : Nat) < 1000 by decide), fun d' hd' => ?_, fun H1 e1 => ?_⟩
    · rcases List.mem_cons.mp hd' with z | z
      · exact ⟨f, by rw [z]; exact hd.1, hd.2.1⟩
      · exact ⟨g, by rw [List.mem_singleton.mp z]; exact he.1, he.2.1⟩
    refine ⟨_, rfl, _, rfl, (by show 2 ≤ sizeLine; decide), fun t ht => ⟨t, rfl, ⟨_, SqT.of upd_same⟩, ?_⟩⟩
    have e2 : Same H1 (upd H1 t (.tup [.ref d, .ref e])) := same_upd ht
    refine for_tup (K := K) (a := t) (xs := [.ref d, .ref e]) (fun i σ H' => Same (upd H1 t (.tup [.ref d, .ref e])) H' ∧ ∃ u v, σ = [some (.ref sy), some (.ref d), some (.ref e), u, v]) ⟨Same.refl _, none, none, rfl⟩
      (fun i σ H' _ e => SqT.of (e.1 _ _ upd_same)) ?_ ?_
    · rintro i y σ H' hi ⟨e3, u, v, rfl⟩
      have e4 := e1.trans (e2.trans e3)
      have hh : ∃ d' f', y = .ref d' ∧ AdmAt H d' ns L f' := by
        match i, hi with
        | 0, hi => exact ⟨d, f, (Option.some.inj hi).symm, hd⟩
        | 1, hi => exact ⟨e, g, (Option.some.inj hi).symm, he⟩
      obtain ⟨d', f', rfl, h'⟩ := hh
      refine ⟨_, rfl, _, rfl, sy, d', ns, L, f', rfl, hs.same e4, h'.1.same e4, h'.2.1, so.few3, so.wi, so.fewL3, h'.2.2, fun H5 e5 => ?_⟩
      refine ⟨_, rfl, rfl, _, rfl, iteF ⟨e3.trans e5, _, _, rfl⟩⟩
    · rintro σ H' ⟨e3, u, v, rfl⟩
      exact k H' (e1.trans (e2.trans e3))
end
end K73
set_option maxHeartbeats 200000
/-! Pairs by middles: they end at the tightest gaps. Plain Lean. -/
namespace K73
section
variable {N : Type} [DecidableEq N] {G : List (Rl N)} {ns : List N} {m : N → Int}

abbrev PP (N : Type) := Option N → Option N → Option Int
def setP (F : PP N) (a b : Option N) (v : Int) : PP N := fun x y => if x = a ∧ y = b then some v else F x y
/-- the greater one of w and what is there -/
def putMax (F : PP N) (a b : Option N) (w : Int) : PP N := setP F a b (max w ((F a b).getD w))
theorem putMax_same {F : PP N} {a b : Option N} {w : Int} : putMax F a b w a b = some (max w ((F a b).getD w)) := if_pos ⟨rfl, rfl⟩
theorem putMax_ne {F : PP N} {a b x y : Option N} {w : Int} (h : ¬ (x = a ∧ y = b)) : putMax F a b w x y = F x y := if_neg h
def far0 (ns : List N) : PP N := fun a b => if a = b ∧ a ∈ things ns then some 0 else none
def far1 (G : List (Rl N)) (F : PP N) : PP N := G.foldl (fun F r => putMax F r.lo r.hi r.gap) F
def inner (mid a : Option N) (L : List (Option N)) (F : PP N) : PP N := L.foldl (fun F c => putMax F a c ((F a mid).getD 0 + (F mid c).getD 0)) F
def outer (T : List (Option N)) (mid : Option N) (L : List (Option N)) (F : PP N) : PP N := L.foldl (fun F a => inner mid a (T.filter fun c => (F mid c).isSome) F) F
def phase (T : List (Option N)) (mid : Option N) (F : PP N) : PP N := outer T mid (T.filter fun a => (F a mid).isSome) F
def far2 (T M : List (Option N)) (F : PP N) : PP N := M.foldl (fun F mid => phase T mid F) F

/-- chains' totals; nothing from a thing to itself; only things -/
structure Fair (G : List (Rl N)) (ns : List N) (F : PP N) : Prop where
  ch : ∀ a b d, F a b = some d → Ch G a b d
  dg : ∀ a ∈ things ns, F a a = some 0
  wi : ∀ a b d, F a b = some d → a ∈ things ns ∧ b ∈ things ns
theorem fair0 : Fair G ns (far0 ns) where
  ch := fun a b d h => by
    unfold far0 at h
    split at h
    · rename_i q
      cases h
      rw [q.1]
      exact .nil _
    · cases h
  dg := fun a ha => if_pos ⟨rfl, ha⟩
  wi := fun a b d h => by
    unfold far0 at h
    split at h
    · rename_i q
      exact ⟨q.2, q.1 ▸ q.2⟩
    · cases h
theorem Fair.put {F : PP N} (f : Fair G ns F) (ad : Adm G m) {a b : Option N} {w : Int} (hc : Ch G a b w) (ha : a ∈ things ns) (hb : b ∈ things ns) : Fair G ns (putMax F a b w) where
  ch := fun x y d h => by
    by_cases q : x = a ∧ y = b
    · obtain ⟨rfl, rfl⟩ := q
      rw [putMax_same] at h
      cases e : F x y with
      | none =>
        rw [e] at h
        have h := Option.some.inj h
        have h : max w w = d := h
        exact hc.cast (by omega)
      | some d' =>
        rw [e] at h
        have h := Option.some.inj h
        have h : max w d' = d := h
        have c := f.ch _ _ _ e
        by_cases z : w ≤ d'
        · exact c.cast (by omega)
        · exact hc.cast (by omega)
    · rw [putMax_ne q] at h
      exact f.ch _ _ _ h
  dg := fun x hx => by
    by_cases q : x = a ∧ x = b
    · obtain ⟨rfl, rfl⟩ := q
      rw [putMax_same, f.dg x hx]
      have := hc.loop ad
      show some (max w 0) = some 0
      rw [show max w 0 = 0 by omega]
    · rw [putMax_ne q]
      exact f.dg x hx
  wi := fun x y d h => by
    by_cases q : x = a ∧ y = b
    · obtain ⟨rfl, rfl⟩ := q
      exact ⟨ha, hb⟩
    · rw [putMax_ne q] at h
      exact f.wi _ _ _ h
theorem put_up {F : PP N} {a b x y : Option N} {w d : Int} (h : F x y = some d) : ∃ e, putMax F a b w x y = some e ∧ d ≤ e := by
  by_cases q : x = a ∧ y = b
  · obtain ⟨rfl, rfl⟩ := q
    refine ⟨_, putMax_same, ?_⟩
    rw [h]
    show d ≤ max w d
    omega
  · exact ⟨d, by rw [putMax_ne q]; exact h, Int.le_refl _⟩
theorem far1_step (F : PP N) (r : Rl N) : ∃ e, putMax F r.lo r.hi r.gap r.lo r.hi = some e ∧ r.gap ≤ e := ⟨_, putMax_same, by omega⟩
theorem far1_all (wi : Within G ns) (ad : Adm G m) : ∀ (L : List (Rl N)) (F : PP N), (∀ r ∈ L, r ∈ G) → Fair G ns F →
    Fair G ns (far1 L F) ∧ (∀ x y d, F x y = some d → ∃ e, far1 L F x y = some e ∧ d ≤ e) ∧ ∀ r ∈ L, ∃ e, far1 L F r.lo r.hi = some e ∧ r.gap ≤ e
  | [], F, _, f => ⟨f, fun _ _ d h => ⟨d, h, Int.le_refl _⟩, fun _ h => by cases h⟩
  | r :: L, F, hL, f => by
    have hr := hL r List.mem_cons_self
    obtain ⟨h1, h2, h3⟩ := far1_all wi ad L (putMax F r.lo r.hi r.gap) (fun z hz => hL z (List.mem_cons_of_mem _ hz)) (f.put ad (Ch.one hr) (lo_in wi hr) (hi_in wi hr))
    refine ⟨h1, fun x y d h => ?_, fun r' hr' => ?_⟩
    · obtain ⟨e, e1, e2⟩ := put_up (a := r.lo) (b := r.hi) (w := r.gap) h
      obtain ⟨e', e3, e4⟩ := h2 x y e e1
      exact ⟨e', e3, by omega⟩
    · rcases List.mem_cons.mp hr' with q | q
      · subst q
        obtain ⟨e, e1, e2⟩ := far1_step F r'
        obtain ⟨e', e3, e4⟩ := h2 _ _ e e1
        exact ⟨e', e3, by omega⟩
      · exact h3 r' q

/-- what one middle gives -/
def via (F : PP N) (mid : Option N) : PP N := fun a c =>
  match F a mid, F mid c with
  | some p, some q => some (max (p + q) ((F a c).getD (p + q)))
  | _, _ => F a c
theorem via_yes {F : PP N} {mid a c : Option N} {p q : Int} (h1 : F a mid = some p) (h2 : F mid c = some q) : via F mid a c = some (max (p + q) ((F a c).getD (p + q))) := by
  unfold via
  rw [h1, h2]
theorem via_left {F : PP N} {mid a c : Option N} (h1 : F a mid = none) : via F mid a c = F a c := by
  unfold via
  rw [h1]
theorem via_right {F : PP N} {mid a c : Option N} (h1 : F mid c = none) : via F mid a c = F a c := by
  unfold via
  rw [h1]
  cases F a mid <;> rfl
theorem via_row {F : PP N} {mid c : Option N} (h : F mid mid = some 0) : via F mid mid c = F mid c := by
  cases e : F mid c with
  | none => rw [via_right e, e]
  | some q =>
    rw [via_yes h e, e]
    show some (max (0 + q) q) = some q
    rw [show max (0 + q) q = q by omega]
theorem via_col {F : PP N} {mid a : Option N} (h : F mid mid = some 0) : via F mid a mid = F a mid := by
  cases e : F a mid with
  | none => rw [via_left e, e]
  | some q =>
    rw [via_yes e h, e]
    show some (max (q + 0) q) = some q
    rw [show max (q + 0) q = q by omega]
theorem inner_eq {mid a : Option N} {p : Int} : ∀ (L : List (Option N)) (F : PP N), L.Nodup → F mid mid = some 0 → F a mid = some p → (∀ c ∈ L, (F mid c).isSome = true) →
    ∀ x y, inner mid a L F x y = if x = a ∧ y ∈ L then via F mid a y else F x y
  | [], F, _, _, _, _, x, y => by
    show F x y = _
    rw [if_neg (fun q => by cases q.2)]
  | c :: L, F, nd, h0, hp, hs, x, y => by
    obtain ⟨n1, n2⟩ := List.nodup_cons.mp nd
    obtain ⟨q, hq⟩ := Option.isSome_iff_exists.mp (hs c List.mem_cons_self)
    have e0 : inner mid a (c :: L) F = inner mid a L (putMax F a c (p + q)) := by
      show inner mid a L (putMax F a c ((F a mid).getD 0 + (F mid c).getD 0)) = _
      rw [hp, hq]
      rfl
    -- the row and the column of mid stay
    have row : ∀ y, putMax F a c (p + q) mid y = F mid y := fun y => by
      by_cases z : mid = a ∧ y = c
      · obtain ⟨rfl, rfl⟩ := z
        rw [putMax_same, hq]
        rw [h0] at hp
        cases hp
        show some (max (0 + q) q) = some q
        rw [show max (0 + q) q = q by omega]
      · exact putMax_ne z
    have col : putMax F a c (p + q) a mid = F a mid := by
      by_cases z : mid = c
      · subst z
        rw [putMax_same, hp]
        rw [h0] at hq
        cases hq
        show some (max (p + 0) p) = some p
        rw [show max (p + 0) p = p by omega]
      · exact putMax_ne fun w => z w.2
    rw [e0, inner_eq L (putMax F a c (p + q)) n2 (by rw [row]; exact h0) (by rw [col]; exact hp) (fun z hz => by rw [row]; exact hs z (List.mem_cons_of_mem _ hz)) x y]
    by_cases hx : x = a
    · subst hx
      by_cases hy : y = c
      · subst hy
        rw [if_neg (fun w => n1 w.2), if_pos ⟨rfl, List.mem_cons_self⟩, putMax_same, via_yes hp hq]
      · have same : putMax F x c (p + q) x y = F x y := putMax_ne fun w => hy w.2
        by_cases hl : y ∈ L
        · rw [if_pos ⟨rfl, hl⟩, if_pos ⟨rfl, List.mem_cons_of_mem _ hl⟩]
          unfold via
          rw [col, row, same]
        · rw [if_neg (fun w => hl w.2), same, if_neg (fun w => by
            rcases List.mem_cons.mp w.2 with w | w
            · exact hy w
            · exact hl w)]
    · rw [if_neg (fun w => hx w.1), if_neg (fun w => hx w.1)]
      exact putMax_ne fun w => hx w.1
theorem outer_eq {T : List (Option N)} {mid : Option N} (ndT : T.Nodup) : ∀ (L : List (Option N)) (F : PP N), L.Nodup → F mid mid = some 0 → (∀ a ∈ L, (F a mid).isSome = true) →
    ∀ x y, outer T mid L F x y = if x ∈ L ∧ y ∈ T then via F mid x y else F x y
  | [], F, _, _, _, x, y => by
    show F x y = _
    rw [if_neg (fun q => by cases q.1)]
  | a :: L, F, nd, h0, hs, x, y => by
    obtain ⟨n1, n2⟩ := List.nodup_cons.mp nd
    obtain ⟨p, hp⟩ := Option.isSome_iff_exists.mp (hs a List.mem_cons_self)
    have I := inner_eq (mid := mid) (a := a) (p := p) (T.filter fun c => (F mid c).isSome) F (ndT.sublist List.filter_sublist) h0 hp (fun c hc => (List.mem_filter.mp hc).2)
    have e0 : outer T mid (a :: L) F = outer T mid L (inner mid a (T.filter fun c => (F mid c).isSome) F) := rfl
    have row : ∀ y, inner mid a (T.filter fun c => (F mid c).isSome) F mid y = F mid y := fun y => by
      rw [I]
      by_cases z : mid = a ∧ y ∈ T.filter fun c => (F mid c).isSome
      · rw [if_pos z, ← z.1, via_row h0]
      · rw [if_neg z]
    have col : ∀ x, inner mid a (T.filter fun c => (F mid c).isSome) F x mid = F x mid := fun x => by
      rw [I]
      by_cases z : x = a ∧ mid ∈ T.filter fun c => (F mid c).isSome
      · rw [if_pos z, ← z.1, via_col h0]
      · rw [if_neg z]
    rw [e0, outer_eq ndT L _ n2 (by rw [row]; exact h0) (fun z hz => by rw [col]; exact hs z (List.mem_cons_of_mem _ hz)) x y]
    by_cases hx : x = a
    · subst hx
      rw [if_neg (fun w => n1 w.1), I]
      by_cases hy : y ∈ T
      · rw [if_pos (show x ∈ x :: L ∧ y ∈ T from ⟨List.mem_cons_self, hy⟩)]
        cases e : F mid y with
        | none =>
          rw [if_neg (fun w => by
            have := (List.mem_filter.mp w.2).2
            rw [e] at this
            cases this), via_right e]
        | some q => rw [if_pos ⟨rfl, List.mem_filter.mpr ⟨hy, by rw [e]; rfl⟩⟩]
      · rw [if_neg (fun w => hy (List.mem_filter.mp w.2).1), if_neg (fun w => hy w.2)]
    · have same : ∀ y, inner mid a (T.filter fun c => (F mid c).isSome) F x y = F x y := fun y => by
        rw [I, if_neg (fun w => hx w.1)]
      by_cases hl : x ∈ L ∧ y ∈ T
      · rw [if_pos hl, if_pos ⟨List.mem_cons_of_mem _ hl.1, hl.2⟩]
        unfold via
        rw [col, row, same]
      · rw [if_neg hl, same, if_neg (fun w => hl ⟨(List.mem_cons.mp w.1).resolve_left hx, w.2⟩)]
theorem phase_eq {F : PP N} (ndT : (things ns).Nodup) (f : Fair G ns F) {mid : Option N} (hm : mid ∈ things ns) : phase (things ns) mid F = via F mid := by
  funext x y
  have e := outer_eq (mid := mid) ndT ((things ns).filter fun a => (F a mid).isSome) F (ndT.sublist List.filter_sublist) (f.dg mid hm) (fun a ha => (List.mem_filter.mp ha).2) x y
  show outer (things ns) mid ((things ns).filter fun a => (F a mid).isSome) F x y = _
  rw [e]
  by_cases q : x ∈ ((things ns).filter fun a => (F a mid).isSome) ∧ y ∈ things ns
  · rw [if_pos q]
  · rw [if_neg q]
    cases e1 : F x mid with
    | none => rw [via_left e1]
    | some p =>
      cases e2 : F mid y with
      | none => rw [via_right e2]
      | some p2 => exact (q ⟨List.mem_filter.mpr ⟨(f.wi _ _ _ e1).1, by rw [e1]; rfl⟩, (f.wi _ _ _ e2).2⟩).elim
theorem via_cases {F : PP N} {mid a c : Option N} {d : Int} (h : via F mid a c = some d) : F a c = some d ∨ ∃ p q, F a mid = some p ∧ F mid c = some q ∧ d = p + q := by
  cases e1 : F a mid with
  | none => rw [via_left e1] at h; exact .inl h
  | some p =>
    cases e2 : F mid c with
    | none => rw [via_right e2] at h; exact .inl h
    | some q =>
      rw [via_yes e1 e2] at h
      have h := Option.some.inj h
      cases e3 : F a c with
      | none =>
        rw [e3] at h
        have h : max (p + q) (p + q) = d := h
        exact .inr ⟨p, q, rfl, rfl, by omega⟩
      | some d' =>
        rw [e3] at h
        have h : max (p + q) d' = d := h
        by_cases z : p + q ≤ d'
        · exact .inl (by rw [show d' = d by omega])
        · exact .inr ⟨p, q, rfl, rfl, by omega⟩
theorem via_ge {F : PP N} {mid a c : Option N} {p q : Int} (h1 : F a mid = some p) (h2 : F mid c = some q) : ∃ d, via F mid a c = some d ∧ p + q ≤ d := ⟨_, via_yes h1 h2, by omega⟩
theorem via_up {F : PP N} {mid a c : Option N} {d : Int} (h : F a c = some d) : ∃ e, via F mid a c = some e ∧ d ≤ e := by
  cases e1 : F a mid with
  | none => exact ⟨d, by rw [via_left e1]; exact h, Int.le_refl _⟩
  | some p =>
    cases e2 : F mid c with
    | none => exact ⟨d, by rw [via_right e2]; exact h, Int.le_refl _⟩
    | some q =>
      refine ⟨_, via_yes e1 e2, ?_⟩
      rw [h]
      show d ≤ max (p + q) d
      omega
theorem Fair.via {F : PP N} (f : Fair G ns F) (ad : Adm G m) {mid : Option N} : Fair G ns (via F mid) where
  ch := fun a b d h => by
    rcases via_cases h with h | ⟨p, q, h1, h2, rfl⟩
    · exact f.ch _ _ _ h
    · exact (f.ch _ _ _ h1).trans (f.ch _ _ _ h2)
  dg := fun a ha => by
    obtain ⟨e, h1, h2⟩ := via_up (mid := mid) (f.dg a ha)
    rcases via_cases h1 with h | ⟨p, q, h3, h4, rfl⟩
    · rw [h1, ← h, f.dg a ha]
    · have := ((f.ch _ _ _ h3).trans (f.ch _ _ _ h4)).loop ad
      rw [h1, show p + q = 0 by omega]
  wi := fun a b d h => by
    rcases via_cases h with h | ⟨p, q, h1, h2, rfl⟩
    · exact f.wi _ _ _ h
    · exact ⟨(f.wi _ _ _ h1).1, (f.wi _ _ _ h2).2⟩
/-- closed over the middles of M -/
def Closed (M : List (Option N)) (F : PP N) : Prop := ∀ k ∈ M, ∀ a c p q, F a k = some p → F k c = some q → ∃ d, F a c = some d ∧ p + q ≤ d
theorem closed_via {F : PP N} {M : List (Option N)} (f : Fair G ns F) (ad : Adm G m) (cl : Closed M F) {mid : Option N} (hm : mid ∈ things ns) : Closed (M ++ [mid]) (via F mid) := by
  intro k hk a c p q h1 h2
  rcases List.mem_append.mp hk with hk | hk
  · rcases via_cases h1 with h1 | ⟨p1, p2, h3, h4, rfl⟩
    · rcases via_cases h2 with h2 | ⟨q1, q2, h5, h6, rfl⟩
      · obtain ⟨d, e1, e2⟩ := cl k hk a c p q h1 h2
        obtain ⟨e, e3, e4⟩ := via_up (mid := mid) e1
        exact ⟨e, e3, by omega⟩
      · obtain ⟨d, e1, e2⟩ := cl k hk a mid p q1 h1 h5
        obtain ⟨e, e3, e4⟩ := via_ge e1 h6
        exact ⟨e, e3, by omega⟩
    · rcases via_cases h2 with h2 | ⟨q1, q2, h5, h6, rfl⟩
      · obtain ⟨d, e1, e2⟩ := cl k hk mid c p2 q h4 h2
        obtain ⟨e, e3, e4⟩ := via_ge h3 e1
        exact ⟨e, e3, by omega⟩
      · have z := ((f.ch _ _ _ h4).trans (f.ch _ _ _ h5)).loop ad
        obtain ⟨e, e3, e4⟩ := via_ge h3 h6
        exact ⟨e, e3, by omega⟩
  · have e := List.mem_singleton.mp hk
    subst e
    have h0 := f.dg k hm
    rw [via_col h0] at h1
    rw [via_row h0] at h2
    exact via_ge h1 h2
theorem far2_all (ad : Adm G m) (ndT : (things ns).Nodup) : ∀ (M D : List (Option N)) (F : PP N), (∀ k ∈ M, k ∈ things ns) → Fair G ns F → Closed D F →
    Fair G ns (far2 (things ns) M F) ∧ Closed (D ++ M) (far2 (things ns) M F) ∧ ∀ x y d, F x y = some d → ∃ e, far2 (things ns) M F x y = some e ∧ d ≤ e
  | [], D, F, _, f, cl => ⟨f, by rw [List.append_nil]; exact cl, fun _ _ d h => ⟨d, h, Int.le_refl _⟩⟩
  | k :: M, D, F, hM, f, cl => by
    have hk := hM k List.mem_cons_self
    have e0 : far2 (things ns) (k :: M) F = far2 (things ns) M (via F k) := by
      show far2 (things ns) M (phase (things ns) k F) = _
      rw [phase_eq ndT f hk]
    rw [e0]
    obtain ⟨h1, h2, h3⟩ := far2_all ad ndT M (D ++ [k]) (via F k) (fun z hz => hM z (List.mem_cons_of_mem _ hz)) (f.via ad) (closed_via f ad cl hk)
    refine ⟨h1, by rw [List.append_assoc] at h2; exact h2, fun x y d h => ?_⟩
    obtain ⟨e, e1, e2⟩ := via_up (mid := k) h
    obtain ⟨e', e3, e4⟩ := h3 x y e e1
    exact ⟨e', e3, by omega⟩
def farAll (G : List (Rl N)) (ns : List N) : PP N := far2 (things ns) (things ns) (far1 G (far0 ns))
theorem things_nodup (nd : ns.Nodup) : (things ns).Nodup := by
  unfold things
  refine List.nodup_cons.mpr ⟨fun h => ?_, ?_⟩
  · obtain ⟨x, _, e⟩ := List.mem_map.mp h
    cases e
  · rw [List.nodup_iff_pairwise_ne] at nd ⊢
    exact List.pairwise_map.mpr (nd.imp fun h e => h (Option.some.inj e))
/-- THE END: the tightest gaps -/
theorem far_tight (wi : Within G ns) (ad : Adm G m) (nd : ns.Nodup) {a b : Option N} {d : Int} (ha : a ∈ things ns) : farAll G ns a b = some d ↔ Tight G a b d := by
  obtain ⟨f1, _, g1⟩ := far1_all wi ad G (far0 ns) (fun _ h => h) fair0
  obtain ⟨f2, c2, u2⟩ := far2_all ad (things_nodup nd) (things ns) [] (far1 G (far0 ns)) (fun _ h => h) f1 (fun _ h => by cases h)
  have f2 : Fair G ns (farAll G ns) := f2
  have c2 : Closed (things ns) (farAll G ns) := c2
  have gap : ∀ r ∈ G, ∃ e, farAll G ns r.lo r.hi = some e ∧ r.gap ≤ e := fun r hr => by
    obtain ⟨e, e1, e2⟩ := g1 r hr
    obtain ⟨e', e3, e4⟩ := u2 _ _ e e1
    exact ⟨e', e3, by omega⟩
  have low : ∀ {v : Option N} {t : Int}, Ch G a v t → ∃ e, farAll G ns a v = some e ∧ t ≤ e := by
    intro v t hc
    induction hc with
    | nil => exact ⟨0, f2.dg a ha, Int.le_refl _⟩
    | @snoc b t r hc' hr he ih =>
      obtain ⟨e, h1, h2⟩ := ih
      obtain ⟨g, h3, h4⟩ := gap r hr
      rw [he] at h3
      obtain ⟨e', h5, h6⟩ := c2 b (ch_end wi ha hc') a r.hi e g h1 h3
      exact ⟨e', h5, by omega⟩
  constructor
  · intro e
    refine ⟨f2.ch _ _ _ e, fun t ht => ?_⟩
    obtain ⟨d', h1, h2⟩ := low ht
    rw [e] at h1
    cases h1
    exact h2
  · rintro ⟨h1, h2⟩
    obtain ⟨d', e1, e2⟩ := low h1
    have := h2 _ (f2.ch _ _ _ e1)
    rw [e1, show d' = d by omega]
end
end K73
set_option maxHeartbeats 200000
namespace K73
open PySem PySem.Spec PyProof.Rows L2
/-- ints at all things of the names ns -/
def mT (ns : List Str) (g : Option Str → Int) : Mp := fun t => if t ∈ things ns then some (.int (g t)) else none
theorem mT_in {ns : List Str} {g : Option Str → Int} {t : Option Str} (h : t ∈ things ns) : mT ns g t = some (.int (g t)) := if_pos h
theorem mT_set {ns : List Str} {g : Option Str → Int} {t : Option Str} {v : Int} (h : t ∈ things ns) : setM (mT ns g) t (.int v) = mT ns (setF g t v) := by
  funext u
  unfold setM mT setF
  by_cases e : u = t
  · rw [if_pos e, if_pos e, if_pos (by rw [e]; exact h)]
  · rw [if_neg e, if_neg e]
theorem relT_yes {b : Option Str → Int} {r : Rul} (h : b r.hi < b r.lo + r.gap) : relT b r = setF b r.hi (b r.lo + r.gap) := if_pos h
theorem relT_not {b : Option Str → Int} {r : Rul} (h : ¬ b r.hi < b r.lo + r.gap) : relT b r = b := if_neg h
theorem gapsOf_take {L : List (Addr × Rul)} {i : Nat} : gapsOf (L.take i) = (gapsOf L).take i := by unfold gapsOf; rw [List.map_take]
theorem things_vT (ns : List Str) : (V.non :: ns.map V.str) = (things ns).map vT := by
  unfold things
  rw [List.map_cons, List.map_map]
  rfl
theorem refs_get {L : List (Addr × Rul)} {i : Nat} {y : V} (h : (refs L)[i]? = some y) : ∃ q, L[i]? = some q ∧ y = .ref q.1 := by
  unfold refs at h
  rw [List.getElem?_map] at h
  cases e : L[i]? with
  | none => rw [e] at h; cases h
  | some q => rw [e] at h; exact ⟨q, rfl, (Option.some.inj h).symm⟩
section
variable {P : Program} {w : World} {K : PySem.W.Frag} {mg : Str → Option Value} {base : Heap}
def spContradiction (C : Addr) : Sp := fun vs H Q _ => ∃ (sy : Addr) (ns : List Str) (L : List (Addr × Rul)) (f : Str → Int), vs = [.ref sy] ∧ SysAt C H sy ns L ∧ Sound ns L ∧ Adm (gapsOf L) f ∧ ∀ H', Same H H' → Q .non H'
theorem Tp.contradiction (Z : Tp K mg) : FnOk P w K mg base CX0 1 Z.gContradiction Z.dContradiction ["system"] (spContradiction Z.C) := by
  have T := Z.nm
  have S := Z.S
  refine Z.Contradiction.fn.ok cContradiction (fun vs H Q E h => ?_) (fun cdv A outer s H vs Q E hr h => ?_)
  · obtain ⟨sy, ns, L, f, rfl, _⟩ := h
    rfl
  · obtain ⟨sy, ns, L, f, rfl, hs, so, ad, k⟩ := h
    have hu := hu_of hr
    have nd := cContradiction.nd
    refine ⟨_, pss_cons (ps_setDcX (i := 1) (o0 := fun D => oN P w D []) (own := [("thing", 6)]) (g := gName 6) (tt := tYes) empty_N hu rfl nd rfl rfl (sw_trueD rfl rfl rfl (by decide +kernel)) (pi_list (pe_lst (pa_cons pe_non (StX.pa_star (pe_fld (pv 0) rfl) pa_nil))))
          (blkOk_by (N := nContradiction) (sc := defScope sContradiction) (by decide +kernel)) (fun _ _ _ _ _ => pg_name (i := 6) nd rfl (Or.inl rfl)) (fun _ _ _ _ _ => pts_nil) (fun _ _ _ _ _ => pv 6) (fun _ _ _ _ _ => pe_int))
      (pss_cons (ps_set (i := 2) nd rfl (Or.inl rfl) pe_newN)
      (pss_cons (ps_for PassesOwn.never rfl (pi_range1 rfl T.range (pa_cons (pe_callB call_lenN (by rfl) T.len PySem.boot_len (pa_cons (pv 1) pa_nil)) pa_nil)) (pg_name (i := 3) nd rfl (Or.inl rfl))
        (pss_cons (ps_set (i := 4) nd rfl (Or.inl rfl) (pe_lst pa_nil))
        (pss_cons (ps_for PassesOwn.never rfl (pi_list (pe_fld (pv 0) rfl)) (pg_name (i := 5) nd rfl (Or.inl rfl))
          (pss_one (ps_if (pt_cmpR op_gt (pe_op op_add (pe_xget hu (pv 1) (pat 5) (fun _ _ => rfl)) (pat 5)) (pe_xget hu (pv 1) (pat 5) (fun _ _ => rfl)) (nomark _))
            (pss_cons (ps_xput hu (pv 1) (pat 5) (pe_op op_add (pe_xget hu (pv 1) (pat 5) (fun _ _ => rfl)) (pat 5)))
            (pss_cons (ps_xput hu (pv 2) (pat 5) (pv 5))
            (pss_one (ps_expr (pe_bm PySem.F.plainAttrs_list PySem.F.slot_list_append PySem.F.type_list_append mt_append (pv 4) (pa_cons (pat 5) pa_nil))))))
            pss_nil)))
        (pss_one (ps_if (pt_cmpR (op_eqNil (Nat.lt_of_succ_lt hu)) (pv 4) (pe_lst pa_nil) (nomark _)) (pss_one (ps_ret pe_non)) pss_nil)))))
      (pss_one ps_never))), ?_⟩
    obtain ⟨dx, sl, gl, h1, h2, h3, h4⟩ := id hs
    have tnd : (things ns).Nodup := things_nodup so.nd
    have tlen : (things ns).length = ns.length + 1 := by unfold things; rw [List.length_cons, List.length_map]
    have fw := so.few
    have fL := so.fewL
    have big : (100000 : Nat) < sizeLine := by decide
    refine ⟨_, rfl, sy, Z.C, dx, _, _, rfl, h1, S.cl, S.nS, fs_set, sl, ns.map V.str, rfl, .inr (SqL.of h2), ?_, fun p np => ⟨p, rfl, ⟨_, SqL.of upd_same⟩, fun D hD => ?_⟩⟩
    · rw [List.append_nil, List.length_cons, List.length_map]
      omega
    rw [List.append_nil, things_vT] at hD ⊢
    have e1 : Same H (upd H p (.lst ((things ns).map vT))) := same_upd np
    have hL : SqL K (upd H p (.lst ((things ns).map vT))) p ((things ns).map vT) := SqL.of upd_same
    generalize upd H p (.lst ((things ns).map vT)) = H1 at e1 hL hD ⊢
    refine dcn tnd (by omega) (show 6 < 7 by decide) hL hD (fun t v H' => v = .int 0) (fun t H' Qe ht e _ q => q _ H' (Same.refl _) fun _ _ => rfl) fun H2 m e2 hN hm => ?_
    have em : m = mT ns (rounds (gapsOf L) 0) := by
      funext t
      by_cases ht : t ∈ things ns
      · obtain ⟨v, h5, rfl⟩ := hm t ht
        rw [h5, mT_in ht]
        rfl
      · obtain ⟨kvs, _, hM⟩ := hN
        cases q : m t with
        | none => exact (if_neg ht).symm
        | some v => exact absurd (hM.mem.mpr (by rw [q]; rfl)) ht
    subst em
    refine fun lA nl => ?_
    have nDl : D ≠ lA := by
      obtain ⟨kvs, h5, _⟩ := hN
      exact ne_of_none h5 nl
    have nD0 : H D = none := e1.free hD
    have nl0 : H lA = none := (e1.trans e2).free nl
    have hN3 : NAt P w (upd H2 lA (oN P w lA [])) D (things ns) (mT ns (rounds (gapsOf L) 0)) := hN.other nDl
    obtain ⟨kvs, hk1, hk2⟩ := hN3.len
    refine ⟨_, rfl, D, kvs, rfl, hk1, ((things ns).length : Nat), by rw [hk2], by omega, by omega, ?_⟩
    have big2 : ((things ns).length : Int).toNat = ns.length + 1 := by omega
    rw [big2]
    refine for_range (fun i σ H' => i ≤ ns.length ∧ ∃ u3 u4 u5 lks lm, σ = [some (.ref sy), some (.ref D), some (.ref lA), u3, u4, u5, none] ∧ Same H H' ∧ NAt P w H' D (things ns) (mT ns (rounds (gapsOf L) i)) ∧ NAt P w H' lA lks lm ∧ lks.length ≤ i * 1000)
      ⟨Nat.zero_le _, none, none, none, [], _, rfl, same_put (e1.trans e2) nl0, hN3, NAt.new upd_same, Nat.zero_le _⟩ ?_ ?_
    · rintro i σ H3 hi ⟨hi2, u3, u4, u5, lks, lm, rfl, e3, hB, hl, hlk⟩
      refine ⟨Nat.zero_le _, fun rA nr => ?_⟩
      have nDr : D ≠ rA := by
        obtain ⟨kvs, h5, _⟩ := hB
        exact ne_of_none h5 nr
      have nlr : lA ≠ rA := by
        obtain ⟨kvs, h5, _⟩ := hl
        exact ne_of_none h5 nr
      have nr0 : H rA = none := e3.free nr
      refine ⟨_, rfl, sy, Z.C, dx, _, _, rfl, same_put e3 nr0 _ _ h1, S.cl, S.nG, fs_gap, gl, rfl, ⟨_, SqL.of (same_put e3 nr0 _ _ h3)⟩, ?_⟩
      refine for_list (K := K) (a := gl) (xs := refs L) (fun j σ H' => ∃ u5 lks lm xs, σ = [some (.ref sy), some (.ref D), some (.ref lA), some (.int (0 + (i : Int))), some (.ref rA), u5, none] ∧ Same H H' ∧ NAt P w H' D (things ns) (mT ns ((gapsOf (L.take j)).foldl relT (rounds (gapsOf L) i))) ∧
          NAt P w H' lA lks lm ∧ lks.length ≤ i * 1000 + j ∧ H' rA = some (.lst xs) ∧ xs.length ≤ j ∧ (xs = [] → (gapsOf (L.take j)).foldl relT (rounds (gapsOf L) i) = rounds (gapsOf L) i) ∧ (Rest (gapsOf L) (rounds (gapsOf L) i) → xs = []))
        ⟨u5, lks, lm, [], rfl, same_put e3 nr0, hB.other nDr, hl.other nlr, by omega, upd_same, Nat.le_refl _, fun _ => rfl, fun _ => rfl⟩ (fun j σ H' _ ⟨_, _, _, _, _, e, _⟩ => e.seq (SqL.of h3)) ?_ ?_
      · rintro j y σ H4 hj ⟨u5, lks, lm, xs, rfl, e4, hB, hl, hlk, hR, hx, hx1, hx2⟩
        obtain ⟨q, hq, rfl⟩ := refs_get hj
        have hm : q ∈ L := List.mem_of_getElem? hq
        have hp : RuleAt H4 q.1 q.2 := (h4 q hm).same e4
        have hg : q.2 ∈ gapsOf L := List.mem_map.mpr ⟨q, hm, rfl⟩
        have hlo := lo_in so.wi hg
        have hhi := hi_in so.wi hg
        have hjl : j < L.length := (List.getElem?_eq_some_iff.mp hq).1
        have hstep : gapsOf (L.take (j + 1)) = gapsOf (L.take j) ++ [q.2] := by rw [take_snoc hq]; unfold gapsOf; rw [List.map_append]; rfl
        rw [hstep, List.foldl_append]
        show tIfS _ _ _ _ _ _
        generalize hb : (gapsOf (L.take j)).foldl relT (rounds (gapsOf L) i) = b at hB hx1 ⊢
        have glo : XGet P w H4 D (vT q.2.lo) (some (.int (b q.2.lo))) := by rw [← mT_in hlo]; exact hB.get _
        have ghi : XGet P w H4 D (vT q.2.hi) (some (.int (b q.2.hi))) := by rw [← mT_in hhi]; exact hB.get _
        refine ⟨_, rfl, _, rfl, q.1, _, _, _, rfl, rfl, SqT.of hp, atI_nat (j := 0) rfl, D, _, rfl, glo, _, rfl, q.1, _, _, _, rfl, rfl, SqT.of hp, atI_nat (j := 2) rfl, _, _, rfl, rfl,
          _, rfl, _, rfl, q.1, _, _, _, rfl, rfl, SqT.of hp, atI_nat (j := 1) rfl, D, _, rfl, ghi, _, _, rfl, rfl, _, rfl, ?_⟩
        refine ite2 (fun hc => ?_) (fun hc => ?_)
        · have hc : b q.2.hi < b q.2.lo + q.2.gap := of_decide_eq_true hc
          obtain ⟨u, hu1, hB2⟩ := hB.put (by omega) q.2.hi (.int (b q.2.lo + q.2.gap))
          rw [if_pos hhi, mT_set hhi] at hB2
          have eD : Same H (upd H4 D u) := same_put e4 nD0
          have nlD : lA ≠ D := nDl.symm
          obtain ⟨u', hu2, hl2⟩ := (hl.other (u := u) nlD).put (by omega) q.2.hi (.ref q.1)
          have eL : Same H (upd (upd H4 D u) lA u') := same_put eD nl0
          have hR2 : (upd (upd H4 D u) lA u') rA = some (.lst xs) := by rw [upd_ne nlr.symm, upd_ne nDr.symm]; exact hR
          refine ⟨_, rfl, _, rfl, q.1, _, _, _, rfl, rfl, SqT.of hp, atI_nat (j := 0) rfl, D, _, rfl, glo, _, rfl, q.1, _, _, _, rfl, rfl, SqT.of hp, atI_nat (j := 2) rfl, _, _, rfl, rfl,
            _, rfl, _, rfl, q.1, _, _, _, rfl, rfl, SqT.of hp, atI_nat (j := 1) rfl, D, _, rfl, hu1, ?_⟩
          refine ⟨_, rfl, _, rfl, _, rfl, q.1, _, _, _, rfl, rfl, SqT.of (eD _ _ (h4 q hm)), atI_nat (j := 1) rfl, lA, _, rfl, hu2, ?_⟩
          refine ⟨_, rfl, .inl ⟨rfl, _, SqL.of hR2⟩, _, rfl, q.1, _, _, _, rfl, rfl, SqT.of (eL _ _ (h4 q hm)), atI_nat (j := 1) rfl, rA, _, _, rfl, rfl, hR2, by omega, ?_⟩
          have hne : xs ++ [vT q.2.hi] = [] → False := by simp
          refine ⟨_, _, _, xs ++ [vT q.2.hi], rfl, same_put eL nr0, ?_, hl2.other nlr, ?_, upd_same, by rw [List.length_append, List.length_singleton]; omega, fun z => (hne z).elim, fun z => ?_⟩
          · rw [List.foldl_cons, List.foldl_nil, relT_yes hc]
            exact (hB2.other nDl).other nDr
          · split
            · omega
            · rw [List.length_append, List.length_singleton]
              omega
          · have zx := hx1 (hx2 z)
            have := z q.2 hg
            rw [← zx] at this
            omega
        · have hc : ¬ b q.2.hi < b q.2.lo + q.2.gap := fun z => hc (decide_eq_true z)
          refine ⟨_, lks, lm, xs, rfl, e4, ?_, hl, by omega, hR, by omega, fun z => ?_, hx2⟩
          · rw [List.foldl_cons, List.foldl_nil, relT_not hc]
            exact hB
          · rw [List.foldl_cons, List.foldl_nil, relT_not hc]
            exact hx1 z
      · rintro σ H4 ⟨u5, lks, lm, xs, rfl, e4, hB, hl, hlk, hR, hx, hx1, hx2⟩
        have hall : gapsOf (L.take (refs L).length) = gapsOf L := by unfold refs; rw [List.length_map, List.take_length]
        rw [hall] at hB hx1
        have hlr : (refs L).length = L.length := List.length_map _
        refine ⟨_, rfl, Nat.zero_le _, fun n nn => ?_⟩
        have nrn : rA ≠ n := ne_of_none hR nn
        refine ⟨rA, n, xs, rfl, rfl, SqL.of (by rw [upd_ne nrn]; exact hR), SqL.of upd_same, _, rfl, ?_⟩
        have nn0 : H n = none := e4.free nn
        have e5 : Same H (upd H4 n (.lst [])) := same_put e4 nn0
        have nDn : D ≠ n := by
          obtain ⟨kvs, h5, _⟩ := hB
          exact ne_of_none h5 nn
        have nln : lA ≠ n := by
          obtain ⟨kvs, h5, _⟩ := hl
          exact ne_of_none h5 nn
        cases xs with
        | nil => exact iteT (k _ e5)
        | cons x0 xr =>
          have hn : i ≠ ns.length := fun z => by
            have := hx2 (by rw [z]; exact rounds_rest so.wi ad)
            cases this
          refine iteF ⟨by omega, _, _, _, lks, lm, rfl, e5, hB.other nDn, hl.other nln, by omega⟩
    · rintro σ H' ⟨hi, _⟩
      exact absurd hi (by omega)
end
end K73
set_option maxHeartbeats 200000
namespace K73
open PySem PySem.Spec PyProof.Rows L2
theorem nodup_len {α : Type} [DecidableEq α] : ∀ {l m : List α}, l.Nodup → (∀ x ∈ l, x ∈ m) → l.length ≤ m.length
  | [], _, _, _ => Nat.zero_le _
  | a :: t, m, nd, h => by
    obtain ⟨n1, n2⟩ := List.nodup_cons.mp nd
    have ha : a ∈ m := h a List.mem_cons_self
    have ih := nodup_len (m := m.erase a) n2 fun x hx => (List.mem_erase_of_ne (fun e => n1 (by rw [← e]; exact hx))).mpr (h x (List.mem_cons_of_mem _ hx))
    rw [List.length_erase_of_mem ha] at ih
    have : 0 < m.length := List.length_pos_of_mem ha
    rw [List.length_cons]
    omega
theorem NAt.few {P : Program} {w : World} {H : Hp} {a : Addr} {ks : List (Option Str)} {m : Mp} (h : NAt P w H a ks m) {ts : List (Option Str)} (hk : ∀ t ∈ ks, t ∈ ts) : ks.length ≤ ts.length :=
  let ⟨_, _, h2⟩ := h; nodup_len h2.nd hk
def mF (F : PF Str) : Mp := fun v => (F v).map V.int
theorem mF_set {F : PF Str} {t : Option Str} {z : Int} : setM (mF F) t (.int z) = mF (setF F t (some z)) := by
  funext u
  unfold setM mF setF
  by_cases e : u = t
  · rw [if_pos e, if_pos e]; rfl
  · rw [if_neg e, if_neg e]
abbrev rfl3 (t : Option Str) (b l : Addr) : List (Str × V) := [("start", vT t), ("best", .ref b), ("last", .ref l)]
theorem lk_ne {k g : Str} {v : V} {r : List (Str × V)} (h : (k == g) = false) : List.lookup k ((g, v) :: r) = List.lookup k r := by rw [List.lookup_cons, h]
theorem lk_eq {k : Str} {v : V} {r : List (Str × V)} : List.lookup k ((k, v) :: r) = some v := by rw [List.lookup_cons, beq_self_eq_true]
theorem rf_best {t : Option Str} {b l : Addr} : (rfl3 t b l).lookup ("best" : Str) = some (.ref b) := (lk_ne (by decide +kernel)).trans lk_eq
theorem rf_last {t : Option Str} {b l : Addr} : (rfl3 t b l).lookup ("last" : Str) = some (.ref l) := (lk_ne (by decide +kernel)).trans ((lk_ne (by decide +kernel)).trans lk_eq)
theorem rf_puts {t : Option Str} {b l : Addr} : putF "last" (.ref l) (putF "best" (.ref b) (putF "start" (vT t) [])) = rfl3 t b l := by
  have e1 : ¬ ("start" : Str) = "best" := by decide +kernel
  have e2 : ¬ ("start" : Str) = "last" := by decide +kernel
  have e3 : ¬ ("best" : Str) = "last" := by decide +kernel
  show putF "last" (.ref l) (if ("start" : Str) = "best" then _ else (("start" : Str), vT t) :: [(("best" : Str), V.ref b)]) = _
  rw [if_neg e1]
  show (if ("start" : Str) = "last" then _ else (("start" : Str), vT t) :: (if ("best" : Str) = "last" then _ else (("best" : Str), V.ref b) :: [(("last" : Str), V.ref l)])) = _
  rw [if_neg e2, if_neg e3]
section
variable {P : Program} {w : World} {K : PySem.W.Frag} {mg : Str → Option Value} {base : Heap}
/-! check_consistent -/
def spCheckConsistent (C : Addr) : Sp := spContradiction C
theorem Tp.checkConsistent (Z : Tp K mg) : FnOk P w K mg base CX0 2 Z.gCheckConsistent Z.dCheckConsistent ["system"] (spContradiction Z.C) := by
  have G := Z.contradiction (P := P) (w := w) (base := base)
  refine Z.CheckConsistent.fn.ok cCheckConsistent (fun vs H Q E h => ?_) (fun cdv A outer s H vs Q E hr h => ?_)
  · obtain ⟨sy, ns, L, f, rfl, _⟩ := h
    rfl
  · obtain ⟨sy, ns, L, f, rfl, hs, so, ad, k⟩ := h
    refine ⟨_, pss_one (ps_if (pt_cmpR op_notN (pe_d Z.Contradiction G hr rfl (pa_cons (pv 0) pa_nil)) pe_non (nomark _)) pss_no pss_nil), ?_⟩
    exact ⟨_, rfl, sy, ns, L, f, rfl, hs, so, ad, fun H' e => ⟨rfl, _, rfl, iteF (k H' e)⟩⟩
/-! Reach -/
def ReachAt (P : Program) (w : World) (CR : Addr) (G : List Rul) (t : Option Str) (H : Hp) (x b : Addr) : Prop := (∃ dx l, H x = some (.ins CR dx (rfl3 t b l))) ∧ ∃ ks F, NAt P w H b ks (mF F) ∧ ∀ v d, F v = some d ↔ Tight G t v d
def spInitR (P : Program) (w : World) (C CR : Addr) : Sp := fun vs H Q _ => ∃ (x dx sy : Addr) (t : Option Str) (ns : List Str) (L : List (Addr × Rul)) (f : Str → Int), vs = [.ref x, .ref sy, vT t] ∧ H x = some (.ins CR dx []) ∧ SysAt C H sy ns L ∧ x ≠ sy ∧ Sound ns L ∧ Adm (gapsOf L) f ∧ t ∈ things ns ∧
  ∀ H' b, H b = none → (∀ c o, c ≠ x → H c = some o → H' c = some o) → ReachAt P w CR (gapsOf L) t H' x b → Q .non H'
theorem Tp.initR (Z : Tp K mg) : FnOk P w K mg base CX0 1 Z.gInitR Z.dInitR ["self", "system", "start"] (spInitR P w Z.C Z.CR) := by
  have T := Z.nm
  have S := Z.S
  refine Z.InitR.ok cInitR (fun vs H Q E h => ?_) (fun cdv A outer s H vs Q E hr h => ?_)
  · obtain ⟨x, dx, sy, t, ns, L, f, rfl, _⟩ := h
    rfl
  · obtain ⟨x, dx, sy, t, ns, L, f, rfl, hx, hs, nxs, so, ad, ht, k⟩ := h
    have hu := hu_of hr
    have nd := cInitR.nd
    refine ⟨_, pss_cons (ps_fld (pv 0) (pv 2) rfl) (pss_cons (ps_fld (pv 0) (pe_oneN (pv 2) pe_int) rfl) (pss_cons (ps_fld (pv 0) pe_newN rfl) (pss_cons (ps_set (i := 3) nd rfl (Or.inl rfl) pe_bl)
      (pss_one (ps_while PassesOwn.never (ptv (pv 3)) (pss_cons (ps_set (i := 3) nd rfl (Or.inl rfl) pe_bl)
        (pss_one (ps_for PassesOwn.never rfl (pi_list (pe_fld (pv 1) rfl)) (pg_name (i := 4) nd rfl (Or.inl rfl))
          (pss_cons (ps_asg (pv 4) (pg_tup rfl (pgs_cons (pg_name (i := 5) nd rfl (Or.inl rfl)) (pgs_cons (pg_name (i := 6) nd rfl (Or.inl rfl)) (pgs_cons (pg_name (i := 7) nd rfl (Or.inl rfl)) pgs_nil)))))
          (pss_one (ps_if (PW.pt (pw_and (pt_cmp (pc_xin hu (pv 5) (pe_fld (pv 0) rfl))) (pw_and1 (PW.pt (pw_or (pt_cmp (pc_xnotin hu (pv 6) (pe_fld (pv 0) rfl)))
              (pw_or1 (pt_cmpR op_gt (pe_op op_add (pe_xget hu (pe_fld (pv 0) rfl) (pv 5) (fun _ _ => rfl)) (pv 7)) (pe_xget hu (pe_fld (pv 0) rfl) (pv 6) (fun _ _ => rfl)) (nomark _))))))))
            (pss_cons (ps_xput hu (pe_fld (pv 0) rfl) (pv 6) (pe_op op_add (pe_xget hu (pe_fld (pv 0) rfl) (pv 5) (fun _ _ => rfl)) (pv 7)))
            (pss_cons (ps_xput hu (pe_fld (pv 0) rfl) (pv 6) (pv 4))
            (pss_one (ps_set (i := 3) nd rfl (Or.inl rfl) pe_bl))))
            pss_nil))))))))))), ?_⟩
    obtain ⟨dy, sl, gl, h1, h2, h3, h4⟩ := id hs
    have nsl : sl ≠ x := ne_of h2 hx (by intro z; cases z)
    have ngl : gl ≠ x := ne_of h3 hx (by intro z; cases z)
    have big : (100000 : Nat) < sizeLine := by decide
    have tlen : (things ns).length = ns.length + 1 := by unfold things; rw [List.length_cons, List.length_map]
    have fw := so.few
    refine ⟨_, rfl, _, rfl, x, Z.CR, dx, [], rfl, hx, Z.clR, Z.nStart, (by show 0 < 1000; decide), fun b nb => ⟨_, rfl, lT t, upd_same, (lV_lT t).symm, _, rfl, x, Z.CR, dx, putF "start" (vT t) [], rfl, ?_, Z.clR, Z.nBest, (by show 1 < 1000; decide), fun l nl => ?_⟩⟩
    · rw [upd_ne (fun z => by rw [← z, upd_same] at nb; cases nb), upd_ne (fun z => by rw [← z, upd_same] at nb; cases nb)]
      exact upd_same
    have nbx : b ≠ x := fun z => by rw [z, upd_same] at nb; cases nb
    have nlx : l ≠ x := fun z => by rw [z, upd_same] at nl; cases nl
    have nlb : l ≠ b := fun z => by rw [z, upd_ne nbx, upd_same] at nl; cases nl
    have b0 : H b = none := by rw [upd_ne nbx] at nb; exact nb
    have l0 : H l = none := by rw [upd_ne nlx, upd_ne nlb, upd_ne nlb, upd_ne nlx] at nl; exact nl
    refine ⟨_, rfl, x, Z.CR, dx, _, rfl, Eq.trans (upd_ne nlx.symm) upd_same, Z.clR, Z.nLast, ?_, ?_⟩
    · have e1 : ¬ ("start" : Str) = "best" := by decide +kernel
      show (if ("start" : Str) = "best" then _ else (("start" : Str), vT t) :: [(("best" : Str), V.ref b)] : List (Str × V)).length < 1000
      rw [if_neg e1]
      show 2 < 1000
      decide
    rw [rf_puts]
    -- the heap ahead of the loop
    generalize hH3 : upd (upd (upd (upd (upd (upd H x _) b _) b _) x _) l _) x _ = H3
    have kp3 : ∀ c o, c ≠ x → H c = some o → H3 c = some o := fun c o hc e => by
      have cb : c ≠ b := ne_of_none e b0
      have cl : c ≠ l := ne_of_none e l0
      rw [← hH3, upd_ne hc, upd_ne cl, upd_ne hc, upd_ne cb, upd_ne cb, upd_ne hc]
      exact e
    have hx3 : H3 x = some (.ins Z.CR dx (rfl3 t b l)) := by rw [← hH3]; exact upd_same
    have hB3 : NAt P w H3 b [t] (mF (setF (fun _ => none) t (some 0))) := by
      refine ⟨[(lT t, .int 0)], (by rw [← hH3, upd_ne nbx, upd_ne nlb.symm, upd_ne nbx, upd_same]; all_goals rfl), rfl, List.nodup_cons.mpr ⟨fun z => by simp at z, .nil⟩, fun u => ?_⟩
      by_cases e : u = t
      · subst e
        unfold valV mF
        rw [setF_same, List.find?_cons]
        simp
      · unfold valV mF
        rw [setF_ne e, List.find?_cons]
        have : decide (lT t = lT u) = false := decide_eq_false fun z => e (lT_inj z).symm
        simp [this]
    have hL3 : NAt P w H3 l [] (fun _ => none) := NAt.new (by rw [← hH3, upd_ne nlx, upd_same]; all_goals rfl)
    clear hH3
    obtain ⟨k0, hk0⟩ := passes_end (s := t) so.wi ad _ _ (setF (fun _ => none) t (some 0)) rfl rfl (from_one t)
    refine ⟨fun m σ H' => ∃ imp F ks lks lm u4 u5 u6 u7, σ = [some (.ref x), some (.ref sy), some (vT t), some (.bl imp), u4, u5, u6, u7] ∧ (∀ c o, c ≠ x → H c = some o → H' c = some o) ∧ H' x = some (.ins Z.CR dx (rfl3 t b l)) ∧ NAt P w H' b ks (mF F) ∧ NAt P w H' l lks lm ∧
        (∀ v ∈ lks, v ∈ things ns) ∧ From (gapsOf L) t F ∧ (∃ d, F t = some d ∧ 0 ≤ d) ∧ (imp = false → m = 0 ∧ Still (gapsOf L) F) ∧ (imp = true → ∃ k, m = k + 1 ∧ Still (gapsOf L) (passes (gapsOf L) F k)),
      ⟨k0 + 1, true, _, [t], [], _, none, none, none, none, rfl, kp3, hx3, hB3, hL3, fun v hv => by simp at hv, from_one t, ⟨0, setF_same, Int.le_refl _⟩, fun z => Bool.noConfusion z, fun _ => ⟨k0, rfl, hk0⟩⟩, ?_⟩
    rintro m σ H4 ⟨imp, F, ks, lks, lm, u4, u5, u6, u7, rfl, kp, hx4, hB, hl, hlk, hF, hF0, hi0, hi1⟩
    refine ⟨_, rfl, imp, rfl, ?_⟩
    cases imp with
    | false =>
      obtain ⟨_, st⟩ := hi0 rfl
      rw [if_neg Bool.false_ne_true]
      exact k H4 b b0 kp ⟨⟨dx, l, hx4⟩, ks, F, hB, fun v d => still_tight ad hF hF0 st v d⟩
    | true =>
      obtain ⟨k1, rfl, hk1⟩ := hi1 rfl
      clear hi0 hi1
      rw [if_pos rfl]
      have nxb : x ≠ b := nbx.symm
      have nxl : x ≠ l := nlx.symm
      have hsy : H4 sy = _ := kp _ _ nxs.symm h1
      refine ⟨_, fun σ' H' z => z, _, rfl, sy, Z.C, dy, _, _, rfl, hsy, S.cl, S.nG, fs_gap, gl, rfl, ⟨_, SqL.of (kp _ _ ngl h3)⟩, ?_⟩
      refine for_list (K := K) (a := gl) (xs := refs L) (fun j σ H' => ∃ imp ks lks lm u4 u5 u6 u7, σ = [some (.ref x), some (.ref sy), some (vT t), some (.bl imp), u4, u5, u6, u7] ∧ (∀ c o, c ≠ x → H c = some o → H' c = some o) ∧ H' x = some (.ins Z.CR dx (rfl3 t b l)) ∧
          NAt P w H' b ks (mF ((gapsOf (L.take j)).foldl relO F)) ∧ NAt P w H' l lks lm ∧ (∀ v ∈ lks, v ∈ things ns) ∧ (imp = false → (gapsOf (L.take j)).foldl relO F = F ∧ ∀ r ∈ gapsOf (L.take j), ¬ Lifts F r) ∧ (imp = true → ¬ Still (gapsOf L) F))
        ⟨false, ks, lks, lm, u4, u5, u6, u7, rfl, kp, hx4, hB, hl, hlk, fun _ => ⟨rfl, fun r hr => by simp [gapsOf] at hr⟩, fun z => Bool.noConfusion z⟩ (fun j σ H' _ ⟨_, _, _, _, _, _, _, _, _, e, _⟩ => SqL.of (e _ _ ngl h3)) ?_ ?_
      · rintro j y σ H5 hj ⟨imp, ks, lks, lm, u4, u5, u6, u7, rfl, kp5, hx5, hB, hl, hlk, hi0, hi1⟩
        obtain ⟨q, hq, rfl⟩ := refs_get hj
        have hm : q ∈ L := List.mem_of_getElem? hq
        have nqx : q.1 ≠ x := ne_of (h4 q hm) hx (by intro z; cases z)
        have hp : RuleAt H5 q.1 q.2 := kp5 _ _ nqx (h4 q hm)
        have hg : q.2 ∈ gapsOf L := List.mem_map.mpr ⟨q, hm, rfl⟩
        have hhi := hi_in so.wi hg
        have hstep : gapsOf (L.take (j + 1)) = gapsOf (L.take j) ++ [q.2] := by rw [take_snoc hq]; unfold gapsOf; rw [List.map_append]; rfl
        rw [hstep, List.foldl_append]
        have hsub : ∀ r ∈ gapsOf (L.take j), r ∈ gapsOf L := fun r hr => by
          obtain ⟨q', h5, rfl⟩ := List.mem_map.mp hr
          exact List.mem_map.mpr ⟨q', List.mem_of_mem_take h5, rfl⟩
        have hFj : From (gapsOf L) t ((gapsOf (L.take j)).foldl relO F) := fold_from _ hsub hF
        generalize hb : (gapsOf (L.take j)).foldl relO F = Fj at hB hi0 hFj ⊢
        have ksub : ∀ v ∈ ks, v ∈ things ns := fun v hv => by
          obtain ⟨kvs, _, hM⟩ := hB
          have := hM.mem.mp hv
          unfold mF at this
          cases e : Fj v with
          | none => rw [e] at this; cases this
          | some d => exact ch_end so.wi ht (hFj v d e)
        have klen := hB.few ksub
        have lklen := hl.few hlk
        refine ⟨_, rfl, q.1, _, rfl, SqT.of hp, rfl, _, _, rfl, _, _, rfl, _, _, rfl, ⟨rfl, ?_⟩⟩
        have glo := hB.get q.2.lo
        have ghi := hB.get q.2.hi
        refine nx_of ?_
        by_cases hLf : Lifts Fj q.2
        · obtain ⟨d, hd, hde⟩ := id hLf
          have elo : mF Fj q.2.lo = some (.int d) := by unfold mF; rw [hd]; rfl
          rw [elo] at glo
          refine st_yes (fun Qt qt => ?_) ?_
          · refine ⟨_, rfl, _, rfl, x, Z.CR, dx, _, _, rfl, hx5, Z.clR, Z.nBest, rf_best, b, _, rfl, glo, _, rfl, iteT ⟨_, rfl, _, rfl, x, Z.CR, dx, _, _, rfl, hx5, Z.clR, Z.nBest, rf_best, b, _, rfl, ghi, _, rfl, ?_⟩⟩
            cases e : Fj q.2.hi with
            | none =>
              have ehi : mF Fj q.2.hi = none := by unfold mF; rw [e]; rfl
              rw [ehi]
              exact iteT qt
            | some e' =>
              have ehi : mF Fj q.2.hi = some (.int e') := by unfold mF; rw [e]; rfl
              rw [ehi] at ghi ⊢
              refine iteF ⟨_, rfl, x, Z.CR, dx, _, _, rfl, hx5, Z.clR, Z.nBest, rf_best, _, rfl, b, _, rfl, glo, _, rfl, _, _, rfl, rfl, _, rfl, x, Z.CR, dx, _, _, rfl, hx5, Z.clR, Z.nBest, rf_best, _, rfl, b, _, rfl, ghi, _, _, rfl, rfl, _, rfl, ?_⟩
              rw [decide_eq_true (hde e' e)]
              exact qt
          · obtain ⟨u, hu1, hB2⟩ := hB.put (by omega) q.2.hi (.int (d + q.2.gap))
            have hx6 : (upd H5 b u) x = some (.ins Z.CR dx (rfl3 t b l)) := by rw [upd_ne nxb]; exact hx5
            obtain ⟨u', hu2, hl2⟩ := (hl.other (u := u) nlb).put (by omega) q.2.hi (.ref q.1)
            refine ⟨_, rfl, x, Z.CR, dx, _, _, rfl, hx5, Z.clR, Z.nBest, rf_best, _, rfl, b, _, rfl, glo, _, rfl, _, _, rfl, rfl, _, rfl, x, Z.CR, dx, _, _, rfl, hx5, Z.clR, Z.nBest, rf_best, _, rfl, b, _, rfl, hu1, ?_⟩
            refine ⟨_, rfl, _, rfl, x, Z.CR, dx, _, _, rfl, hx6, Z.clR, Z.nLast, rf_last, _, rfl, l, _, rfl, hu2, ?_⟩
            refine ⟨true, (if q.2.hi ∈ ks then ks else ks ++ [q.2.hi]), (if q.2.hi ∈ lks then lks else lks ++ [q.2.hi]), setM lm q.2.hi (.ref q.1), _, _, _, _, rfl, fun c o hc e => ?_, ?_, ?_, hl2, ?_, fun z => Bool.noConfusion z, fun _ => ?_⟩
            · rw [upd_ne (ne_of_none e l0), upd_ne (ne_of_none e b0)]
              exact kp5 c o hc e
            · rw [upd_ne nxl, upd_ne nxb]
              exact hx5
            · rw [List.foldl_cons, List.foldl_nil, relO_yes hd hde, ← mF_set]
              exact hB2.other nlb.symm
            · intro v hv
              split at hv
              · exact hlk v hv
              · rcases List.mem_append.mp hv with z | z
                · exact hlk v z
                · rw [List.mem_singleton.mp z]
                  exact hhi
            · cases imp with
              | true => exact hi1 rfl
              | false =>
                obtain ⟨z1, _⟩ := hi0 rfl
                exact fun st => st q.2 hg (z1 ▸ hLf)
        · refine st_no (fun Qt qt => ?_) ?_
          · refine ⟨_, rfl, _, rfl, x, Z.CR, dx, _, _, rfl, hx5, Z.clR, Z.nBest, rf_best, b, _, rfl, glo, _, rfl, ?_⟩
            cases e0 : Fj q.2.lo with
            | none =>
              have elo : mF Fj q.2.lo = none := by unfold mF; rw [e0]; rfl
              rw [elo]
              exact iteF qt
            | some d =>
              have elo : mF Fj q.2.lo = some (.int d) := by unfold mF; rw [e0]; rfl
              rw [elo] at glo ⊢
              refine iteT ⟨_, rfl, _, rfl, x, Z.CR, dx, _, _, rfl, hx5, Z.clR, Z.nBest, rf_best, b, _, rfl, ghi, _, rfl, ?_⟩
              cases e : Fj q.2.hi with
              | none => exact absurd ⟨d, e0, fun e' q' => by rw [e] at q'; cases q'⟩ hLf
              | some e' =>
                have ehi : mF Fj q.2.hi = some (.int e') := by unfold mF; rw [e]; rfl
                rw [ehi] at ghi ⊢
                refine iteF ⟨_, rfl, x, Z.CR, dx, _, _, rfl, hx5, Z.clR, Z.nBest, rf_best, _, rfl, b, _, rfl, glo, _, rfl, _, _, rfl, rfl, _, rfl, x, Z.CR, dx, _, _, rfl, hx5, Z.clR, Z.nBest, rf_best, _, rfl, b, _, rfl, ghi, _, _, rfl, rfl, _, rfl, ?_⟩
                have : ¬ e' < d + q.2.gap := fun z => hLf ⟨d, e0, fun e2 q' => by rw [e] at q'; cases q'; exact z⟩
                rw [decide_eq_false this]
                exact qt
          · refine ⟨imp, ks, lks, lm, _, _, _, _, rfl, kp5, hx5, ?_, hl, hlk, fun z => ?_, hi1⟩
            · rw [List.foldl_cons, List.foldl_nil, relO_no hLf]
              exact hB
            · obtain ⟨z1, z2⟩ := hi0 z
              rw [List.foldl_cons, List.foldl_nil, relO_no hLf]
              refine ⟨z1, fun r hr => ?_⟩
              rcases List.mem_append.mp hr with y | y
              · exact z2 r y
              · rw [List.mem_singleton.mp y, ← z1]
                exact hLf
      · rintro σ H5 ⟨imp, ks, lks, lm, u4, u5, u6, u7, rfl, kp5, hx5, hB, hl, hlk, hi0, hi1⟩
        have hall : gapsOf (L.take (refs L).length) = gapsOf L := by unfold refs; rw [List.length_map, List.take_length]
        rw [hall] at hB hi0
        have hne : imp = true → ∃ k, k1 = k + 1 := fun z => by
          cases k1 with
          | zero => exact absurd hk1 (hi1 z)
          | succ k => exact ⟨k, rfl⟩
        obtain ⟨d0, hd0, hd1⟩ := hF0
        obtain ⟨d2, h5, h6⟩ := fold_up (gapsOf L) F _ _ hd0
        cases imp with
        | false =>
          obtain ⟨z1, z2⟩ := hi0 rfl
          rw [z1] at hB
          exact ⟨0, by omega, false, F, ks, lks, lm, u4, u5, u6, u7, rfl, kp5, hx5, hB, hl, hlk, hF, ⟨d0, hd0, hd1⟩, fun _ => ⟨rfl, z2⟩, fun z => Bool.noConfusion z⟩
        | true =>
          obtain ⟨k2, rfl⟩ := hne rfl
          exact ⟨k2 + 1, by omega, true, _, ks, lks, lm, u4, u5, u6, u7, rfl, kp5, hx5, hB, hl, hlk, pass_from hF, ⟨d2, h5, by omega⟩, fun z => Bool.noConfusion z, fun _ => ⟨k2, rfl, hk1⟩⟩
end
end K73
set_option maxHeartbeats 200000
namespace K73
open PySem PySem.Spec PyProof.Rows L2
def unT : V → Option Str
  | .str s => some s
  | _ => none
theorem unT_vT (t : Option Str) : unT (vT t) = t := by cases t <;> rfl
def NRd (P : Program) (w : World) (H : Hp) (a : Addr) (ks : List (Option Str)) (m : Mp) : Prop := ∃ kvs, Rd H a (oN P w a kvs) ∧ Maps kvs ks m
theorem Rd.same {H H' : Hp} {a : Addr} {u : HO} (h : L2.Rd H a u) (e : Same H H') : L2.Rd H' a u := by
  rcases h with h | ⟨o, h⟩
  · exact .inl (e _ _ h)
  · exact .inr ⟨o, e _ _ h⟩
section
variable {P : Program} {w : World} {H H' : Hp} {a : Addr} {ks : List (Option Str)} {m : Mp}
theorem NAt.rd (h : NAt P w H a ks m) : NRd P w H a ks m := let ⟨kvs, h1, h2⟩ := h; ⟨kvs, .inl h1, h2⟩
theorem NRd.same (h : NRd P w H a ks m) (e : Same H H') : NRd P w H' a ks m := let ⟨kvs, h1, h2⟩ := h; ⟨kvs, Rd.same h1 e, h2⟩
theorem NRd.get (h : NRd P w H a ks m) (t : Option Str) : XGet P w H a (vT t) (m t) := by
  obtain ⟨kvs, h1, h2⟩ := h
  exact .inl ⟨kvs, lT t, h1, (lV_lT t).symm, (h2.vals t).symm⟩
end
/-- all totals: at D a dict from each thing to the dict of the tightest gaps from it -/
def TotA (P : Program) (w : World) (G : List Rul) (ns : List Str) (H : Hp) (D : Addr) : Prop := ∃ m, NAt P w H D (things ns) m ∧ ∀ t ∈ things ns, ∃ b ks F, m t = some (.ref b) ∧ b ≠ D ∧ NAt P w H b ks (mF F) ∧ ∀ v d, F v = some d ↔ Tight G t v d
def TotR (P : Program) (w : World) (G : List Rul) (ns : List Str) (H : Hp) (D : Addr) : Prop := ∃ m, NAt P w H D (things ns) m ∧ ∀ t ∈ things ns, ∃ b ks F, m t = some (.ref b) ∧ NRd P w H b ks (mF F) ∧ ∀ v d, F v = some d ↔ Tight G t v d
section
variable {P : Program} {w : World} {G : List Rul} {ns : List Str} {H H' : Hp} {D : Addr}
theorem TotA.same (h : TotA P w G ns H D) (e : Same H H') : TotA P w G ns H' D :=
  let ⟨m, h1, h2⟩ := h; ⟨m, h1.same e, fun t ht => let ⟨b, ks, F, q1, q2, q3, q4⟩ := h2 t ht; ⟨b, ks, F, q1, q2, q3.same e, q4⟩⟩
theorem TotR.same (h : TotR P w G ns H D) (e : Same H H') : TotR P w G ns H' D :=
  let ⟨m, h1, h2⟩ := h; ⟨m, h1.same e, fun t ht => let ⟨b, ks, F, q1, q2, q3⟩ := h2 t ht; ⟨b, ks, F, q1, q2.same e, q3⟩⟩
theorem TotA.rd (h : TotA P w G ns H D) : TotR P w G ns H D :=
  let ⟨m, h1, h2⟩ := h; ⟨m, h1, fun t ht => let ⟨b, ks, F, q1, q2, q3, q4⟩ := h2 t ht; ⟨b, ks, F, q1, q3.rd, q4⟩⟩
theorem TotA.lock (h : TotA P w G ns H D) {b : Addr} {kvs : List (Leaf × V)} (hb : H b = some (oN P w b kvs)) (ne : b ≠ D) (od : Obj) : TotR P w G ns (upd H b (.frz od (oN P w b kvs))) D := by
  obtain ⟨m, h1, h2⟩ := h
  refine ⟨m, h1.other ne.symm, fun t ht => ?_⟩
  obtain ⟨c, ks, F, q1, q2, ⟨kv, q3, q5⟩, q4⟩ := h2 t ht
  refine ⟨c, ks, F, q1, ?_, q4⟩
  by_cases e : c = b
  · subst e
    rw [hb] at q3
    have e2 : oN P w c kvs = oN P w c kv := Option.some.inj q3
    exact ⟨kv, .inr ⟨od, by rw [upd_same, e2]⟩, q5⟩
  · exact ⟨kv, .inl (by rw [upd_ne e]; exact q3), q5⟩
theorem TotR.get (h : TotR P w G ns H D) {t : Option Str} (ht : t ∈ things ns) : ∃ b ks F, XGet P w H D (vT t) (some (.ref b)) ∧ NRd P w H b ks (mF F) ∧ ∀ v d, F v = some d ↔ Tight G t v d := by
  obtain ⟨m, h1, h2⟩ := h
  obtain ⟨b, ks, F, q1, q2, q3⟩ := h2 t ht
  exact ⟨b, ks, F, by rw [← q1]; exact h1.get t, q2, q3⟩
end
theorem same_unlock {H H' : Hp} {d : Addr} {u : HO} {od : Obj} (h : H d = some u) (e : Same (upd H d (.frz od u)) H') : Same H (upd H' d u) := fun c o q => by
  by_cases z : c = d
  · subst z
    rw [h] at q
    rw [upd_same, q]
  · rw [upd_ne z]
    exact e c o (by rw [upd_ne z]; exact q)
theorem walkX {d : Addr} {o : Obj} {ks : List V} : Walk (ItX d o ks) ks.length (fun H => ∃ u, H d = some (.frz o u)) (fun i H x H' => H' = H ∧ ks[i]? = some x) :=
  ⟨fun _ _ hi q => ⟨q, hi⟩, fun _ q => ⟨q, Nat.le_refl _⟩, fun _ _ _ _ _ _ y => y⟩
theorem mate_tight {G : List Rul} {m : Str → Int} {a b : Option Str} (h : Mate G a b) (ad : Adm G m) : Tight G a b (valAt m b - valAt m a) := ⟨h.tight ad, fun _ c => c.le ad⟩
open Classical in
/-- the table's entry of a name -/
noncomputable def entry (G : List Rul) (ns : List Str) (n : Str) : V := if Mate G none (some n) then .non else .str (headOf G ns n)
noncomputable def tbl (G : List Rul) (ns l : List Str) : List (Key × V) := l.map fun n => (.inr n, entry G ns n)
theorem tbl_none {G : List Rul} {ns l : List Str} {n : Str} (h : n ∉ l) : valV (tbl G ns l) (.inr n) = none := by
  cases e : valV (tbl G ns l) (.inr n) with
  | none => rfl
  | some v =>
    have := valV_in e
    obtain ⟨q, hq, e2⟩ := List.mem_map.mp this
    obtain ⟨n', hn', rfl⟩ := List.mem_map.mp hq
    exact absurd (Sum.inr.inj e2 ▸ hn') h
section
variable {P : Program} {w : World} {K : PySem.W.Frag} {mg : Str → Option Value} {base : Heap}
theorem cdec {p : Prop} : (@decide p (Classical.propDecidable p) = true) ↔ p := @decide_eq_true_iff p (Classical.propDecidable p)
theorem any_none (ms : List (Option Str)) : inV .non (ms.map vT) = decide (none ∈ ms) := by
  unfold inV
  rw [List.any_map, Bool.eq_iff_iff, List.any_eq_true, decide_eq_true_iff]
  constructor
  · rintro ⟨t, ht, h⟩
    cases t with
    | none => exact ht
    | some z => exact absurd (show false = true from h) Bool.false_ne_true
  · intro h
    exact ⟨none, h, rfl⟩
theorem flat_vT (ms : List (Option Str)) : (ms.map vT).all flatV = true := by
  rw [List.all_eq_true]
  intro x hx
  obtain ⟨t, _, rfl⟩ := List.mem_map.mp hx
  cases t <;> rfl
theorem all_some : ∀ (ms : List (Option Str)), none ∉ ms → ∃ zs : List Str, ms = zs.map some
  | [], _ => ⟨[], rfl⟩
  | none :: r, h => absurd List.mem_cons_self h
  | some z :: r, h => by
    obtain ⟨zs, e⟩ := all_some r fun w => h (List.mem_cons_of_mem _ w)
    exact ⟨z :: zs, by rw [e]; rfl⟩
def spBlockTable (C : Addr) : Sp := fun vs H Q _ => ∃ (sy : Addr) (ns : List Str) (L : List (Addr × Rul)) (f : Str → Int), vs = [.ref sy] ∧ SysAt C H sy ns L ∧ Sound ns L ∧ Adm (gapsOf L) f ∧ ∀ H' d, Same H H' → H d = none → H' d = some (.dK (tbl (gapsOf L) ns ns)) → Q (.ref d) H'
theorem Tp.blockTable (Z : Tp K mg) : FnOk P w K mg base CX0 3 Z.gBlockTable Z.dBlockTable ["system"] (spBlockTable Z.C) := by
  have T := Z.nm
  have S := Z.S
  have G1 := Z.checkConsistent (P := P) (w := w) (base := base)
  have G2 := Z.initR (P := P) (w := w) (base := base)
  refine Z.BlockTable.fn.ok cBlockTable (fun vs H Q E h => ?_) (fun cdv A outer s H vs Q E hr h => ?_)
  · obtain ⟨sy, ns, L, f, rfl, _⟩ := h
    rfl
  · obtain ⟨sy, ns, L, f, rfl, hs, so, ad, k⟩ := h
    have hu := hu_of hr
    have hu64 := hr.units
    have nd := cBlockTable.nd
    refine ⟨_, pss_cons (ps_expr (pe_d Z.CheckConsistent G1 hr rfl (pa_cons (pv 0) pa_nil)))
      (pss_cons (ps_set (i := 1) nd rfl (Or.inl rfl) (pe_lst (pa_cons pe_non (StX.pa_star (pe_fld (pv 0) rfl) pa_nil))))
      (pss_cons (ps_set (i := 2) nd rfl (Or.inr rfl) (pe_dcX (o0 := fun D => oN P w D []) (own := [("thing", 6)]) (g := gName 6) (tt := tYes) empty_N hu rfl nd (pi_list (pv 1)) (blkOk_by (N := nBlockTable) (sc := defScope sBlockTable) (by decide +kernel))
          (fun _ _ _ _ _ => pg_name (i := 6) nd rfl (Or.inl rfl)) (fun _ _ _ _ _ => pts_nil) (fun _ _ _ _ _ => pv 6)
          (fun _ _ _ _ _ => pe_fldB K (pe_make Z.mkR G2 hr rfl Z.imR Z.bInitR .nil pass0 (pa_cons (pv 0) (pa_cons (pv 6) pa_nil))) rfl)))
      (pss_cons (ps_set (i := 3) nd rfl (Or.inl rfl) pe_dnewK)
      (pss_cons (ps_for PassesOwn.never rfl (pi_list (pe_fld (pv 0) rfl)) (pg_name (i := 4) nd rfl (Or.inr rfl))
        (pss_cons (ps_lock (ps_setLc (i := 5) (own := [("other", 7)]) (g := gName 7) rfl nd rfl rfl (sw_true rfl rfl rfl (by decide +kernel)) (pi_keysX (pe_xget hu (pv 2) (pv 4) (fun _ _ => rfl))) (blkOk_by (N := nBlockTable) (sc := defScope sBlockTable) (by decide +kernel))
            (fun _ _ _ _ _ => pg_name (i := 7) nd rfl (Or.inl rfl)) (fun _ _ _ _ _ => pts_one (pt_cmp (pc_xinB P w hu (pv 4) (pe_xgetB P w hu (pv 2) (pv 7) (fun _ _ => rfl))))) (fun _ _ _ _ _ => pv 7)))
        (pss_cons (ps_setLc (i := 5) (own := [("other", 7)]) (g := gName 7) rfl nd rfl rfl (sw_true rfl rfl rfl (by decide +kernel)) (pi_list (pv 5)) (blkOk_by (N := nBlockTable) (sc := defScope sBlockTable) (by decide +kernel))
            (fun _ _ _ _ _ => pg_name (i := 7) nd rfl (Or.inl rfl)) (fun _ _ _ _ _ => pts_one (pt_cmpR op_eq (pe_op op_add (pe_xgetB P w hu (pe_xgetB P w hu (pv 2) (pv 4) (fun _ _ => rfl)) (pv 7) (fun _ _ => rfl)) (pe_xgetB P w hu (pe_xgetB P w hu (pv 2) (pv 7) (fun _ _ => rfl)) (pv 4) (fun _ _ => rfl))) pe_int (nomark _))) (fun _ _ _ _ _ => pv 7))
        (pss_one (ps_dput hu (pv 3) (pv 4) (pe_ifExp (pt_cmpR op_in_seq pe_non (pv 5) (by rfl)) pe_non (pe_callB (call_minS rfl hu64) rfl T.min boot_min (pa_cons (pv 5) pa_nil))) rfl)))))
      (pss_one (ps_ret (pv 3))))))), ?_⟩
    obtain ⟨dx, sl, gl, h1, h2, h3, h4⟩ := id hs
    have tnd : (things ns).Nodup := things_nodup so.nd
    have tlen : (things ns).length = ns.length + 1 := by unfold things; rw [List.length_cons, List.length_map]
    have fw := so.few
    have big : (100000 : Nat) < sizeLine := by decide
    refine ⟨_, rfl, sy, ns, L, f, rfl, hs, so, ad, fun H1 e1 => ?_⟩
    refine ⟨_, rfl, sy, Z.C, dx, _, _, rfl, e1 _ _ h1, S.cl, S.nS, fs_set, sl, ns.map V.str, rfl, .inr (SqL.of (e1 _ _ h2)), ?_, fun tA nt => ?_⟩
    · rw [List.append_nil, List.length_cons, List.length_map]
      omega
    rw [List.append_nil, things_vT]
    have e2 : Same H1 (upd H1 tA (.lst ((things ns).map vT))) := same_upd nt
    have hL : SqL K (upd H1 tA (.lst ((things ns).map vT))) tA ((things ns).map vT) := SqL.of upd_same
    generalize upd H1 tA (.lst ((things ns).map vT)) = H2 at e2 hL ⊢
    have e02 := e1.trans e2
    refine ⟨_, rfl, tA, rfl, ⟨_, hL⟩, fun D hD => ?_⟩
    refine dcn tnd (by omega) (show 6 < 8 by decide) hL hD (fun t v H' => ∃ b ks F, v = .ref b ∧ b ≠ D ∧ NAt P w H' b ks (mF F) ∧ ∀ v d, F v = some d ↔ Tight (gapsOf L) t v d) ?_ ?_
    · rintro t H3 Qe ht e3 ⟨uD, hDu⟩ q
      have e03 := e02.trans e3
      refine ⟨_, rfl, _, rfl, fun x dx' nx ndx nxx => ?_⟩
      have e4 : Same H3 (upd (upd H3 dx' (.own x)) x (.ins Z.CR dx' [])) := fun c o e => by rw [upd_ne (ne_of_none e nx), upd_ne (ne_of_none e ndx)]; exact e
      refine ⟨x, dx', sy, t, ns, L, f, rfl, upd_same, hs.same (e03.trans e4), (ne_of_none (e03 _ _ h1) nx).symm, so, ad, ht, fun H5 b nb kp hR => ⟨rfl, ?_⟩⟩
      obtain ⟨⟨dx2, l, hx⟩, ks, F, hN, hT⟩ := hR
      have nbD : b ≠ D := fun z => by rw [z, e4 _ _ hDu] at nb; cases nb
      have e5 : Same H3 H5 := fun c o e => kp c o (ne_of_none e nx) (e4 c o e)
      refine ⟨x, Z.CR, dx2, _, _, rfl, hx, Z.clR, Z.nBest, rf_best, q _ _ e5 fun H6 e6 => ?_⟩
      obtain ⟨kvs, q1, q2⟩ := hN
      exact ⟨b, ks, F, rfl, nbD, ⟨kvs, e6 _ _ nbD q1, q2⟩, hT⟩
    · intro H3 m e3 hN hm fA nf
      have hTot : TotA P w (gapsOf L) ns H3 D := ⟨m, hN, fun t ht => by
        obtain ⟨v, q1, b, ks, F, rfl, q2, q3, q4⟩ := hm t ht
        exact ⟨b, ks, F, q1, q2, q3, q4⟩⟩
      have e03 := e02.trans e3
      have nf0 : H fA = none := e03.free nf
      have e4 : Same H3 (upd H3 fA (.dK [])) := same_upd nf
      have hTot := hTot.same e4
      have hf : (upd H3 fA (.dK [])) fA = some (.dK (tbl (gapsOf L) ns [])) := upd_same
      have e04 := e03.trans e4
      generalize upd H3 fA (.dK []) = H4 at e04 hTot hf ⊢
      refine ⟨_, rfl, sy, Z.C, dx, _, _, rfl, e04 _ _ h1, S.cl, S.nS, fs_set, sl, rfl, ⟨_, SqL.of (e04 _ _ h2)⟩, ?_⟩
      refine for_list (K := K) (a := sl) (xs := ns.map V.str) (fun i σ H' => ∃ u4 u5, σ = [some (.ref sy), some (.ref tA), some (.ref D), some (.ref fA), u4, u5, none, none] ∧ Same H H' ∧ TotA P w (gapsOf L) ns H' D ∧ H' fA = some (.dK (tbl (gapsOf L) ns (ns.take i))))
        ⟨none, none, rfl, e04, hTot, hf⟩ (fun i σ H' _ ⟨_, _, _, e, _⟩ => SqL.of (e _ _ h2)) ?_ ?_
      · rintro i y σ H5 hi ⟨u4, u5, rfl, e5, hTot, hf⟩
        obtain ⟨n, hq, rfl⟩ : ∃ n, ns[i]? = some n ∧ y = .str n := by
          rw [List.getElem?_map] at hi
          cases e : ns[i]? with
          | none => rw [e] at hi; cases hi
          | some n => rw [e] at hi; exact ⟨n, rfl, (Option.some.inj hi).symm⟩
        have hn : n ∈ ns := List.mem_of_getElem? hq
        have htn : some n ∈ things ns := mem_things.mpr fun x e => Option.some.inj e ▸ hn
        obtain ⟨m, hD, hall⟩ := id hTot
        obtain ⟨b, ks, F, hb1, nbD, hbN, hbT⟩ := hall (some n) htn
        obtain ⟨kvs, hb2, hbM⟩ := id hbN
        have hks : ∀ t, t ∈ ks ↔ ∃ d, Tight (gapsOf L) (some n) t d := fun t => by
          rw [hbM.mem]
          unfold mF
          constructor
          · intro h
            cases e : F t with
            | none => rw [e] at h; cases h
            | some d => exact ⟨d, (hbT t d).mp e⟩
          · rintro ⟨d, h⟩
            rw [(hbT t d).mpr h]
            rfl
        have hkt : ∀ t ∈ ks, t ∈ things ns := fun t ht => by
          obtain ⟨d, h⟩ := (hks t).mp ht
          exact ch_end so.wi htn h.1
        have hklen := hbN.few hkt
        let k1 : V → Bool := fun x => @decide (∃ d, Tight (gapsOf L) (unT x) (some n) d) (Classical.propDecidable _)
        let k2 : V → Bool := fun x => @decide (Mate (gapsOf L) (some n) (unT x)) (Classical.propDecidable _)
        refine ⟨b, _, hb2, trivial, fun od => ?_⟩
        have hTR : TotR P w (gapsOf L) ns (upd H5 b (.frz od (oN P w b kvs))) D := hTot.lock hb2 nbD od
        have gD : XGet P w (upd H5 b (.frz od (oN P w b kvs))) D (vT (some n)) (some (.ref b)) := by
          rw [← hb1]
          exact (hD.other nbD.symm).get _
        have hkeys : kvs.map (fun q => lV q.1) = ks.map vT := by
          have := congrArg (List.map lV) hbM.keys
          rw [List.map_map, List.map_map] at this
          refine Eq.trans (List.map_congr_left fun q _ => rfl) (this.trans (List.map_congr_left fun t _ => lV_lT t))
        refine ⟨_, rfl, _, rfl, D, _, rfl, gD, b, od, rfl, .inl ⟨kvs, upd_same, fun q hq' i => ?_, fun D2 hD2 => ?_⟩⟩
        · have : q.1 ∈ kvs.map (·.1) := List.mem_map.mpr ⟨q, hq', rfl⟩
          rw [hbM.keys] at this
          obtain ⟨t, _, e⟩ := List.mem_map.mp this
          rw [← e]
          exact lT_num t i
        rw [hkeys]
        refine lc_val walkX hD2 (ks.map vT) rfl (by rw [List.length_map]; omega) (fun H' e => ⟨_, e _ _ upd_same⟩) (fun i H x H' _ y => y) k1 (fun x => x) ?_ (fun x H' Qe _ _ _ q => ⟨_, rfl, q H' (Same.refl _)⟩) ?_
        · rintro x H' Qt hx e6 q
          obtain ⟨t, ht, rfl⟩ := List.mem_map.mp hx
          obtain ⟨b', ks', F', q1, q2, q3⟩ := (hTR.same e6).get (hkt t ht)
          refine ⟨_, rfl, _, rfl, _, rfl, D, _, rfl, q1, b', _, rfl, q2.get (some n), _, rfl, ?_⟩
          have e7 : (mF F' (some n)).isSome = k1 (vT t) := by
            show _ = @decide (∃ d, Tight (gapsOf L) (unT (vT t)) (some n) d) (Classical.propDecidable _)
            rw [unT_vT, Bool.eq_iff_iff, cdec]
            unfold mF
            constructor
            · intro h
              cases e8 : F' (some n) with
              | none => rw [e8] at h; cases h
              | some d => exact ⟨d, (q3 _ d).mp e8⟩
            · rintro ⟨d, h⟩
              rw [(q3 _ d).mpr h]
              rfl
          rw [e7]
          exact q H' (Same.refl _)
        · intro H6 e6 hD6
          refine ⟨e6 _ _ upd_same, ?_⟩
          have nD2b : D2 ≠ b := fun z => by rw [z, upd_same] at hD2; cases hD2
          have e56 : Same H5 (upd H6 b (oN P w b kvs)) := same_unlock hb2 e6
          have hD6' : (upd H6 b (oN P w b kvs)) D2 = some (.lst ((ks.map vT).filter k1)) := by
            rw [upd_ne nD2b, hD6, List.map_id']
          generalize upd H6 b (oN P w b kvs) = H7 at e56 hD6' ⊢
          have hTot7 := hTot.same e56
          refine nx_of ?_
          refine ⟨_, rfl, D2, rfl, ⟨_, SqL.of hD6'⟩, fun D3 hD3 => ?_⟩
          have hl1 : ((ks.map vT).filter k1).length ≤ ks.length := Nat.le_trans (List.length_filter_le _ _) (Nat.le_of_eq (List.length_map _))
          refine lcl_val (SqL.of hD6') hD3 (by omega) k2 (fun x => x) ?_ (fun x H' Qe _ _ _ q => ⟨_, rfl, q H' (Same.refl _)⟩) ?_
          · rintro x H' Qt hx e8 q
            obtain ⟨hx1, hx2⟩ := List.mem_filter.mp hx
            obtain ⟨t, ht, rfl⟩ := List.mem_map.mp hx1
            have hx2 : @decide (∃ d, Tight (gapsOf L) (unT (vT t)) (some n) d) (Classical.propDecidable _) = true := hx2
            rw [unT_vT, cdec] at hx2
            obtain ⟨d2, hd2⟩ := hx2
            obtain ⟨d1, hd1⟩ := (hks t).mp ht
            obtain ⟨b1, ks1, F1, q1, q2, q3⟩ := (hTot7.rd.same e8).get htn
            obtain ⟨b2, ks2, F2, p1, p2, p3⟩ := (hTot7.rd.same e8).get (hkt t ht)
            have g1 : XGet P w H' b1 (vT t) (some (.int d1)) := by
              have := q2.get t
              unfold mF at this
              rw [(q3 t d1).mpr hd1] at this
              exact this
            have g2 : XGet P w H' b2 (vT (some n)) (some (.int d2)) := by
              have := p2.get (some n)
              unfold mF at this
              rw [(p3 _ d2).mpr hd2] at this
              exact this
            refine ⟨_, rfl, _, rfl, D, _, rfl, q1, _, rfl, b1, _, rfl, g1, _, rfl, _, rfl, D, _, rfl, p1, _, rfl, b2, _, rfl, g2, _, _, rfl, rfl, rfl, _, rfl, ?_⟩
            have e9 : decide (V.int (d1 + d2) = V.int 0) = k2 (vT t) := by
              show _ = @decide (Mate (gapsOf L) (some n) (unT (vT t))) (Classical.propDecidable _)
              rw [unT_vT, Bool.eq_iff_iff, decide_eq_true_iff, cdec, mate_iff ad hd1 hd2]
              exact ⟨fun z => V.int.inj z, fun z => by rw [z]⟩
            rw [e9]
            exact q H' (Same.refl _)
          · intro H8 e8 hD8
            refine nx_of ?_
            have hms : ∃ ms : List (Option Str), (((ks.map vT).filter k1).filter k2).map (fun x => x) = ms.map vT ∧ ∀ t, t ∈ ms ↔ t ∈ things ns ∧ Mate (gapsOf L) (some n) t := by
              refine ⟨(ks.filter (k1 ∘ vT)).filter (k2 ∘ vT), by rw [List.map_id', List.filter_map, List.filter_map], fun t => ?_⟩
              rw [List.mem_filter, List.mem_filter]
              show (_ ∧ @decide (∃ d, Tight (gapsOf L) (unT (vT t)) (some n) d) (Classical.propDecidable _) = true) ∧ @decide (Mate (gapsOf L) (some n) (unT (vT t))) (Classical.propDecidable _) = true ↔ _
              rw [cdec, cdec, unT_vT]
              constructor
              · rintro ⟨⟨h1, _⟩, h2⟩
                exact ⟨hkt t h1, h2⟩
              · rintro ⟨h1, h2⟩
                exact ⟨⟨(hks t).mpr ⟨_, mate_tight h2 ad⟩, ⟨_, mate_tight h2.symm ad⟩⟩, h2⟩
            obtain ⟨ms, em, hms⟩ := hms
            rw [em] at hD8
            have e08 := e5.trans (e56.trans e8)
            have hf8 : H8 fA = some (.dK (tbl (gapsOf L) ns (ns.take i))) := e8 _ _ (e56 _ _ hf)
            have hnone : none ∈ ms ↔ Mate (gapsOf L) none (some n) := by
              rw [hms]
              exact ⟨fun h => h.2.symm, fun h => ⟨mem_things.mpr (fun x e => nomatch e), h.symm⟩⟩
            have done : ∀ v, v = entry (gapsOf L) ns n → ∃ u4 u5, [some (V.ref sy), some (.ref tA), some (.ref D), some (.ref fA), some (.str n), some (.ref D3), none, none] = [some (V.ref sy), some (.ref tA), some (.ref D), some (.ref fA), u4, u5, none, none] ∧
                Same H (upd H8 fA (.dK (putK (tbl (gapsOf L) ns (ns.take i)) (.inr n) v))) ∧ TotA P w (gapsOf L) ns (upd H8 fA (.dK (putK (tbl (gapsOf L) ns (ns.take i)) (.inr n) v))) D ∧
                (upd H8 fA (.dK (putK (tbl (gapsOf L) ns (ns.take i)) (.inr n) v))) fA = some (.dK (tbl (gapsOf L) ns (ns.take (i + 1)))) := by
              rintro v rfl
              refine ⟨_, _, rfl, same_put e08 nf0, ?_, ?_⟩
              · obtain ⟨m8, q1, q2⟩ := (hTot7.same e8)
                have nDf : D ≠ fA := by
                  obtain ⟨kv, q3, _⟩ := q1
                  exact ne_of q3 hf8 (by intro z; cases z)
                refine ⟨m8, q1.other nDf, fun t ht => ?_⟩
                obtain ⟨c, ks', F', p1, p2, p3, p4⟩ := q2 t ht
                have ncf : c ≠ fA := by
                  obtain ⟨kv, q3, _⟩ := p3
                  exact ne_of q3 hf8 (by intro z; cases z)
                exact ⟨c, ks', F', p1, p2, p3.other ncf, p4⟩
              · rw [upd_same, putK_new _ (tbl_none (nd_take so.nd hq)), take_snoc hq]
                unfold tbl
                rw [List.map_append]
                rfl
            have hfl : (tbl (gapsOf L) ns (ns.take i)).length < sizeLine := by
              unfold tbl
              rw [List.length_map]
              exact Nat.lt_of_le_of_lt (List.length_take_le' _ _) (by omega)
            have hput : ∀ v, DPut H8 fA (.str n) v (upd H8 fA (.dK (putK (tbl (gapsOf L) ns (ns.take i)) (.inr n) v))) := fun v => DPut.k (k := Sum.inr n) hf8 hfl
            refine ⟨_, rfl, D3, _, rfl, .inl (SqL.of hD8), rfl, flat_vT ms, _, rfl, ?_⟩
            rw [if_neg Bool.false_ne_true, any_none]
            by_cases hg : none ∈ ms
            · rw [decide_eq_true hg]
              refine iteT ⟨_, rfl, _, rfl, fA, _, rfl, hput .non, done _ ?_⟩
              unfold entry
              rw [if_pos (hnone.mp hg)]
            · rw [decide_eq_false hg]
              obtain ⟨zs, rfl⟩ := all_some ms hg
              have hnm : n ∈ zs := by
                have := (hms (some n)).mpr ⟨htn, Mate.refl _⟩
                obtain ⟨z, hz, e⟩ := List.mem_map.mp this
                exact Option.some.inj e ▸ hz
              cases zs with
              | nil => cases hnm
              | cons z0 zr =>
                have hmin : PySem.W.minOf z0 zr = headOf (gapsOf L) ns n := min_mates so.ord hn z0 zr fun y => by
                  have := hms (some y)
                  rw [List.mem_map] at this
                  constructor
                  · intro hy
                    have h := this.mp ⟨y, hy, rfl⟩
                    exact ⟨mem_things.mp h.1 y rfl, h.2⟩
                  · rintro ⟨h1, h2⟩
                    obtain ⟨y', hy', e⟩ := this.mpr ⟨mem_things.mpr fun x e => Option.some.inj e ▸ h1, h2⟩
                    exact Option.some.inj e ▸ hy'
                refine iteF ⟨_, rfl, D3, z0, zr, rfl, SqL.of (by rw [hD8, List.map_map]; rfl), _, rfl, _, rfl, fA, _, rfl, hput _, done _ ?_⟩
                unfold entry
                rw [if_neg fun h => hg (hnone.mpr h), hmin]
      · rintro σ H5 ⟨u4, u5, rfl, e5, hTot, hf⟩
        rw [List.length_map, List.take_length] at hf
        exact ⟨_, rfl, k H5 fA e5 nf0 hf⟩
end
end K73
set_option maxHeartbeats 200000
namespace K73
open PySem PySem.Spec PyProof.Rows L2
open Classical in
theorem entry_head {G : List Rul} {ns : List Str} {n : Str} (hn : n ∈ ns) : entry G ns n = .str n ↔ n ∈ heads G ns := by
  unfold entry
  by_cases h : Mate G none (some n)
  · rw [if_pos h]
    exact ⟨(fun z => nomatch z), fun z => absurd h (mem_heads.mp z).2.1⟩
  · rw [if_neg h, ← head_self hn h]
    exact ⟨fun z => V.str.inj z, fun z => by rw [z]⟩
open Classical in
theorem entry_blk {G : List Rul} {ns : List Str} {n o : Str} (hn : n ∈ heads G ns) (ho : o ∈ ns) : entry G ns o = .str n ↔ o ∈ blkOf G ns n := by
  rw [mem_blk]
  unfold entry
  by_cases h : Mate G none (some o)
  · rw [if_pos h]
    refine ⟨(fun z => nomatch z), fun z => absurd (h.trans z.2.symm) (mem_heads.mp hn).2.1⟩
  · rw [if_neg h]
    have hh := headOf_heads ho h
    constructor
    · intro z
      have e := V.str.inj z
      rw [e] at hh
      exact ⟨ho, hh.2.symm⟩
    · rintro ⟨_, m⟩
      rw [heads_apart hh.1 hn (hh.2.symm.trans m.symm)]
def unS : V → Str
  | .str s => s
  | _ => ⟨#[]⟩
open Classical in
theorem heads_filter {G : List Rul} {ns : List Str} (k : V → Bool) (h : ∀ n ∈ ns, k (.str n) = true ↔ n ∈ heads G ns) : (ns.map V.str).filter k = (heads G ns).map V.str := by
  have e : heads G ns = ns.filter (k ∘ V.str) := by
    unfold heads
    refine List.filter_congr fun n hn => ?_
    have := h n hn
    rw [mem_heads] at this
    rw [Bool.eq_iff_iff, decide_eq_true_iff]
    exact ⟨fun z => this.mpr ⟨hn, z⟩, fun z => (this.mp z).2⟩
  rw [List.filter_map, e]
section
variable {P : Program} {w : World} {K : PySem.W.Frag} {mg : Str → Option Value} {base : Heap}
/-- the blocks' lists -/
def BlksAt (H : Hp) (G : List Rul) (ns : List Str) (bs : List Addr) : Prop := Paired (fun n b => H b = some (.lst ((blkOf G ns n).map V.str))) (heads G ns) bs
theorem BlksAt.same {H H' : Hp} {G : List Rul} {ns : List Str} {bs : List Addr} (h : BlksAt H G ns bs) (e : Same H H') : BlksAt H' G ns bs := paired_mono (fun _ _ q => e _ _ q) h
theorem tbl_get {G : List Rul} {ns l : List Str} {n : Str} (h : n ∈ l) : valV (tbl G ns l) (.inr n) = some (entry G ns n) := by
  unfold valV tbl
  induction l with
  | nil => cases h
  | cons a t ih =>
    rw [List.map_cons, List.find?_cons]
    by_cases e : a = n
    · subst e
      simp
    · have q : decide ((Sum.inr a : Key) = .inr n) = false := decide_eq_false fun z => e (Sum.inr.inj z)
      simp only [q]
      exact ih (by rcases List.mem_cons.mp h with z | z; exact absurd z.symm e; exact z)
theorem tbl_keys {G : List Rul} {ns l : List Str} {i : Nat} {k : Key} {v : V} (h : (tbl G ns l)[i]? = some (k, v)) : (l.map V.str)[i]? = some (kV k) := by
  unfold tbl at h
  rw [List.getElem?_map] at h ⊢
  cases e : l[i]? with
  | none => rw [e] at h; cases h
  | some n =>
    rw [e] at h
    have h : ((Sum.inr n : Key), entry G ns n) = (k, v) := Option.some.inj h
    have h2 : (Sum.inr n : Key) = k := congrArg Prod.fst h
    rw [← h2]
    rfl
theorem walk_tbl {G : List Rul} {ns l : List Str} {d : Addr} {o : Obj} : Walk (Itk d o (tbl G ns l)) l.length (fun H => H d = some (.frz o (.dK (tbl G ns l)))) (fun i H x H' => H' = H ∧ (l.map V.str)[i]? = some x) := by
  have e : (tbl G ns l).length = l.length := by unfold tbl; rw [List.length_map]
  have z := walk_keys (d := d) (o := o) (kvs := tbl G ns l)
  rw [e] at z
  exact z.mono (fun _ h => h) fun i H x H' _ _ ⟨q1, k, v, q2, q3⟩ => ⟨q1, by rw [q3]; exact tbl_keys q2⟩
theorem DGet.rd {H : Hp} {a : Addr} {kvs : List (Key × V)} {k : Key} (e : L2.Rd H a (.dK kvs)) : DGet H a (kV k) (valV kvs k) := .inl ⟨kvs, k, e, rfl, rfl⟩
def spBlocks (C : Addr) : Sp := fun vs H Q _ => ∃ (sy : Addr) (ns : List Str) (L : List (Addr × Rul)) (f : Str → Int), vs = [.ref sy] ∧ SysAt C H sy ns L ∧ Sound ns L ∧ Adm (gapsOf L) f ∧
  ∀ H' p bs, Same H H' → H p = none → H' p = some (.lst (bs.map V.ref)) → BlksAt H' (gapsOf L) ns bs → Q (.ref p) H'
theorem Tp.blocks (Z : Tp K mg) : FnOk P w K mg base CX0 4 Z.gBlocks Z.dBlocks ["system"] (spBlocks Z.C) := by
  have T := Z.nm
  have S := Z.S
  have G1 := Z.blockTable (P := P) (w := w) (base := base)
  refine Z.Blocks.fn.ok cBlocks (fun vs H Q E h => ?_) (fun cdv A outer s H vs Q E hr h => ?_)
  · obtain ⟨sy, ns, L, f, rfl, _⟩ := h
    rfl
  · obtain ⟨sy, ns, L, f, rfl, hs, so, ad, k⟩ := h
    have hu := hu_of hr
    have nd := cBlocks.nd
    refine ⟨_, pss_cons (ps_set (i := 1) nd rfl (Or.inr rfl) (pe_d Z.BlockTable G1 hr rfl (pa_cons (pv 0) pa_nil)))
      (pss_cons (ps_lock (ps_setLc (i := 2) (own := [("name", 3)]) (g := gName 3) rfl nd rfl rfl (sw_true rfl rfl rfl (by decide +kernel)) (pi_keys (pv 1)) (blkOk_by (N := nBlocks) (sc := defScope sBlocks) (by decide +kernel))
          (fun _ _ _ _ _ => pg_name (i := 3) nd rfl (Or.inl rfl)) (fun _ _ _ _ _ => pts_one (pt_cmpR op_eq (pe_dget hu (pv 1) (pv 3) (fun _ _ => rfl)) (pv 3) (nomark _))) (fun _ _ _ _ _ => pv 3)))
      (pss_one (ps_ret (pe_lc (own := [("name", 3)]) (g := gName 3) (tt := tYes) rfl nd (pi_list (pv 2)) (blkOk_by (N := nBlocks) (sc := defScope sBlocks) (by decide +kernel))
          (fun _ _ _ _ _ => pg_name (i := 3) nd rfl (Or.inr rfl)) (fun _ _ _ _ _ => pts_nil)
          (fun _ _ _ _ _ => pe_lock (pe_lc (own := [("other", 4)]) (g := gName 4) rfl nd (pi_keys (pv 1)) (blkOk_by (N := nBlocks) (sc := { kind := .function, names := [(".0", .local), ("name", .cell), ("table", .cell)], isGenerator := false, isCoroutine := false }) (by decide +kernel))
            (fun _ _ _ _ _ => pg_name (i := 4) nd rfl (Or.inl rfl)) (fun _ _ _ _ _ => pts_one (pt_cmpR op_eq (pe_dget hu (pv 1) (pv 4) (fun _ _ => rfl)) (pv 3) (nomark _))) (fun _ _ _ _ _ => pv 4))))))), ?_⟩
    have fw := so.few
    have big : (100000 : Nat) < sizeLine := by decide
    have scl : ∀ n m, scal (entry (gapsOf L) ns n) (.str m) = true := fun n m => by unfold entry; split <;> rfl
    refine ⟨_, rfl, sy, ns, L, f, rfl, hs, so, ad, fun H1 d e1 d0 hd => ?_⟩
    refine ⟨d, _, hd, trivial, fun od => ⟨_, rfl, d, od, rfl, .inl ⟨_, upd_same, fun D2 hD2 => ?_⟩⟩⟩
    refine lc_val walk_tbl hD2 (ns.map V.str) (List.length_map _) (by omega) (fun H' e => e _ _ upd_same) (fun i H x H' _ y => y) (fun x => decide (entry (gapsOf L) ns (unS x) = x)) (fun x => x) ?_ (fun x H' Qe _ _ _ q => ⟨_, rfl, q H' (Same.refl _)⟩) ?_
    · rintro x H' Qt hx e2 q
      obtain ⟨n, hn, rfl⟩ := List.mem_map.mp hx
      have g : DGet H' d (.str n) (some (entry (gapsOf L) ns n)) := by
        have := DGet.rd (k := Sum.inr n) (.inr ⟨od, e2 _ _ upd_same⟩)
        rw [tbl_get hn] at this
        exact this
      exact ⟨_, rfl, _, rfl, d, _, rfl, g, _, rfl, scl _ _, _, rfl, q H' (Same.refl _)⟩
    · intro H2 e2 hD2'
      refine ⟨e2 _ _ upd_same, ?_⟩
      have nDd : D2 ≠ d := fun z => by rw [z, upd_same] at hD2; cases hD2
      have e12 : Same H1 (upd H2 d (.dK (tbl (gapsOf L) ns ns))) := same_unlock hd e2
      have hD3 : (upd H2 d (.dK (tbl (gapsOf L) ns ns))) D2 = some (.lst ((heads (gapsOf L) ns).map V.str)) := by
        rw [upd_ne nDd, hD2', List.map_id', heads_filter _ fun n hn => ?_]
        show decide (entry (gapsOf L) ns n = .str n) = true ↔ _
        rw [decide_eq_true_iff]
        exact entry_head hn
      have hd3 : (upd H2 d (.dK (tbl (gapsOf L) ns ns))) d = some (.dK (tbl (gapsOf L) ns ns)) := upd_same
      generalize upd H2 d (.dK (tbl (gapsOf L) ns ns)) = H3 at e12 hD3 hd3 ⊢
      refine nx_of ?_
      refine ⟨_, rfl, D2, rfl, ⟨_, SqL.of hD3⟩, fun D4 hD4 => ?_⟩
      have hlen : (heads (gapsOf L) ns).length ≤ ns.length := by unfold heads; exact List.length_filter_le _ _
      refine lc_rel walk_list hD4 ((heads (gapsOf L) ns).map V.str) rfl (by rw [List.length_map]; omega) (fun H' e => SqL.of (e _ _ hD3)) (fun i H x H' _ y => y) (fun _ => true) (fun x y H' => ∃ b, y = .ref b ∧ H' b = some (.lst ((blkOf (gapsOf L) ns (unS x)).map V.str)))
        (fun x y H H' e ⟨b, h1, h2⟩ => ⟨b, h1, e _ _ h2⟩) (fun x H' Qt _ _ q => q H' (Same.refl _)) ?_ ?_
      · rintro x H' Qe hx _ e4 ⟨uD, hDu⟩ q
        obtain ⟨n, hn, rfl⟩ := List.mem_map.mp hx
        have hd4 := e4 _ _ hd3
        refine ⟨d, _, hd4, trivial, fun od' => ⟨_, rfl, d, od', rfl, .inl ⟨_, upd_same, fun B hB => ?_⟩⟩⟩
        refine lc_val walk_tbl hB (ns.map V.str) (List.length_map _) (by omega) (fun H' e => e _ _ upd_same) (fun i H x H' _ y => y) (fun x => decide (entry (gapsOf L) ns (unS x) = .str n)) (fun x => x) ?_ (fun x H' Qe _ _ _ q => ⟨_, rfl, q H' (Same.refl _)⟩) ?_
        · rintro x H5 Qt hx e5 q
          obtain ⟨m, hm, rfl⟩ := List.mem_map.mp hx
          have g : DGet H5 d (.str m) (some (entry (gapsOf L) ns m)) := by
            have := DGet.rd (k := Sum.inr m) (.inr ⟨od', e5 _ _ upd_same⟩)
            rw [tbl_get hm] at this
            exact this
          exact ⟨_, rfl, _, rfl, d, _, rfl, g, _, rfl, scl _ _, _, rfl, q H5 (Same.refl _)⟩
        · intro H5 e5 hB5
          refine ⟨e5 _ _ upd_same, ?_⟩
          have nBd : B ≠ d := fun z => by rw [z, upd_same] at hB; cases hB
          have e45 : Same H' (upd H5 d (.dK (tbl (gapsOf L) ns ns))) := same_unlock hd4 e5
          have nBD : B ≠ D4 := fun z => by
            rw [z, upd_ne (fun w => nBd (z.trans w)), hDu] at hB
            cases hB
          refine q _ _ e45 fun H6 e6 => ⟨B, rfl, e6 _ _ nBD ?_⟩
          rw [upd_ne nBd, hB5, List.map_id', List.filter_map]
          congr 3
          unfold blkOf
          refine List.filter_congr fun o ho => ?_
          have := entry_blk (G := gapsOf L) hn ho
          rw [mem_blk] at this
          show decide (entry (gapsOf L) ns o = .str n) = _
          rw [Bool.eq_iff_iff, decide_eq_true_iff, cdec]
          exact ⟨fun z => (this.mp z).2, fun z => this.mpr ⟨ho, z⟩⟩
      · intro H6 ys e6 hD6 hp
        rw [List.filter_eq_self.mpr fun _ _ => rfl] at hp
        have hbs : ∃ bs : List Addr, ys = bs.map V.ref ∧ BlksAt H6 (gapsOf L) ns bs := by
          unfold BlksAt
          generalize heads (gapsOf L) ns = hs at hp ⊢
          clear hD6
          induction hs generalizing ys with
          | nil =>
            cases hp
            exact ⟨[], rfl, .nil⟩
          | cons n r ih =>
            cases hp with
            | cons h1 h2 =>
              obtain ⟨b, rfl, h3⟩ := h1
              obtain ⟨bs, rfl, h4⟩ := ih _ h2
              exact ⟨b :: bs, rfl, .cons h3 h4⟩
        obtain ⟨bs, rfl, hB⟩ := hbs
        exact k H6 D4 bs (e1.trans (e12.trans e6)) ((e1.trans e12).free hD4) hD6 hB
/-! named_blocks -/
def nbl (hs : List Str) (bs : List Addr) : List (Key × V) := (hs.zip bs).map fun q => (.inr q.1, .ref q.2)
theorem paired_zip {α β : Type} {F : α → β → Prop} : ∀ {xs : List α} {ys : List β}, Paired F xs ys → ∀ q ∈ xs.zip ys, F q.1 q.2
  | _, _, .nil, _, h => by cases h
  | _, _, .cons a t, q, h => by
    rw [List.zip_cons_cons] at h
    rcases List.mem_cons.mp h with z | z
    · rw [z]; exact a
    · exact paired_zip t q z
theorem zip_fst {α β : Type} : ∀ {xs : List α} {ys : List β}, xs.length = ys.length → (xs.zip ys).map (·.1) = xs
  | [], [], _ => rfl
  | x :: xs, y :: ys, h => by rw [List.zip_cons_cons, List.map_cons, zip_fst (Nat.succ.inj h)]
theorem zip_snd {α β : Type} : ∀ {xs : List α} {ys : List β}, xs.length = ys.length → (xs.zip ys).map (·.2) = ys
  | [], [], _ => rfl
  | x :: xs, y :: ys, h => by rw [List.zip_cons_cons, List.map_cons, zip_snd (Nat.succ.inj h)]
theorem nbl_keys {hs : List Str} {bs : List Addr} (h : hs.length = bs.length) : (nbl hs bs).map (·.1) = hs.map Sum.inr := by
  unfold nbl
  rw [List.map_map]
  have : (hs.zip bs).map (fun q => (Sum.inr q.1 : Key)) = ((hs.zip bs).map (·.1)).map Sum.inr := by rw [List.map_map]; rfl
  rw [zip_fst h] at this
  exact this
theorem nbl_get {hs : List Str} {bs : List Addr} {n : Str} {b : Addr} (nd : hs.Nodup) (h : (n, b) ∈ hs.zip bs) : valV (nbl hs bs) (.inr n) = some (.ref b) := by
  induction hs generalizing bs with
  | nil => cases h
  | cons a t ih =>
    cases bs with
    | nil => cases h
    | cons c r =>
      rw [List.zip_cons_cons] at h
      obtain ⟨n1, n2⟩ := List.nodup_cons.mp nd
      unfold valV nbl
      rw [List.zip_cons_cons, List.map_cons, List.find?_cons]
      rcases List.mem_cons.mp h with z | z
      · have e1 : n = a := congrArg Prod.fst z
        have e2 : b = c := congrArg Prod.snd z
        subst e1 e2
        simp
      · have hn : n ∈ t := (List.of_mem_zip z).1
        have ne : a ≠ n := fun e => n1 (e ▸ hn)
        have q : decide ((Sum.inr a : Key) = .inr n) = false := decide_eq_false fun w => ne (Sum.inr.inj w)
        simp only [q]
        exact ih n2 z
def spNamedBlocks (C : Addr) : Sp := fun vs H Q _ => ∃ (sy : Addr) (ns : List Str) (L : List (Addr × Rul)) (f : Str → Int), vs = [.ref sy] ∧ SysAt C H sy ns L ∧ Sound ns L ∧ Adm (gapsOf L) f ∧
  ∀ H' d bs, Same H H' → H d = none → H' d = some (.dK (nbl (heads (gapsOf L) ns) bs)) → BlksAt H' (gapsOf L) ns bs → Q (.ref d) H'
theorem Tp.namedBlocks (Z : Tp K mg) : FnOk P w K mg base CX0 5 Z.gNamedBlocks Z.dNamedBlocks ["system"] (spNamedBlocks Z.C) := by
  have T := Z.nm
  have S := Z.S
  have G1 := Z.blocks (P := P) (w := w) (base := base)
  refine Z.NamedBlocks.fn.ok cNamedBlocks (fun vs H Q E h => ?_) (fun cdv A outer s H vs Q E hr h => ?_)
  · obtain ⟨sy, ns, L, f, rfl, _⟩ := h
    rfl
  · obtain ⟨sy, ns, L, f, rfl, hs, so, ad, k⟩ := h
    have nd := cNamedBlocks.nd
    refine ⟨_, pss_one (ps_ret (pe_dc (own := [("block", 1)]) (g := gName 1) (tt := tYes) rfl nd (pi_list (pe_d Z.Blocks G1 hr rfl (pa_cons (pv 0) pa_nil))) (blkOk_by (N := nNamedBlocks) (sc := defScope sNamedBlocks) (by decide +kernel))
      (fun _ _ _ _ _ => pg_name (i := 1) nd rfl (Or.inl rfl)) (fun _ _ _ _ _ => pts_nil) (fun _ _ _ _ _ => pe_ix (ix_listB K) (pv 1) pe_int (fun _ _ => rfl)) (fun _ _ _ _ _ => pv 1))), ?_⟩
    have fw := so.few
    have big : (100000 : Nat) < sizeLine := by decide
    have hlen : (heads (gapsOf L) ns).length ≤ ns.length := by unfold heads; exact List.length_filter_le _ _
    refine ⟨_, rfl, sy, ns, L, f, rfl, hs, so, ad, fun H1 p bs e1 p0 hp hB => ⟨p, rfl, ⟨_, SqL.of hp⟩, fun D hD => ?_⟩⟩
    have hl := paired_len hB
    have hM : ((heads (gapsOf L) ns).zip bs).map (fun q => ((V.ref q.2, q.1, V.ref q.2) : V × Str × V)) = ((heads (gapsOf L) ns).zip bs).map (fun q => (V.ref q.2, q.1, V.ref q.2)) := rfl
    refine dck (((heads (gapsOf L) ns).zip bs).map fun q => (V.ref q.2, q.1, V.ref q.2)) ?_ ?_ ?_ hD ?_ ?_ ?_
    · rw [List.map_map]
      show (((heads (gapsOf L) ns).zip bs).map (fun q => q.1)).Nodup
      rw [zip_fst hl]
      exact heads_nodup so.nd
    · rw [List.length_map, List.length_zip]
      omega
    · rw [List.map_map]
      have e : ((heads (gapsOf L) ns).zip bs).map (fun q => V.ref q.2) = bs.map V.ref := by
        have : ((heads (gapsOf L) ns).zip bs).map (fun q => V.ref q.2) = (((heads (gapsOf L) ns).zip bs).map (·.2)).map V.ref := by rw [List.map_map]; rfl
        rw [zip_snd hl] at this
        exact this
      exact SqL.of (by rw [hp, ← e]; rfl)
    · rintro q H' Qe hq e q2
      obtain ⟨⟨n, b⟩, hnb, rfl⟩ := List.mem_map.mp hq
      have hb : H1 b = _ := paired_zip hB _ hnb
      have hn : n ∈ heads (gapsOf L) ns := (List.of_mem_zip hnb).1
      have hh := (mem_heads.mp hn).2.2
      have h0 : ((blkOf (gapsOf L) ns n).map V.str)[0]? = some (.str n) := by
        rw [List.getElem?_map, ← List.head?_eq_getElem?, hh]
        rfl
      exact ⟨_, rfl, b, _, _, _, rfl, rfl, SqL.of (e _ _ hb), atI_nat (j := 0) h0, q2 H' (Same.refl _)⟩
    · rintro q H' Qe hq e q2
      obtain ⟨⟨n, b⟩, hnb, rfl⟩ := List.mem_map.mp hq
      exact ⟨_, rfl, q2 H' (Same.refl _)⟩
    · intro H' e hd
      refine k H' D bs (e1.trans e) (e1.free hD) ?_ (hB.same e)
      rw [hd, List.map_map]
      rfl
end
end K73
set_option maxHeartbeats 200000
/-! sorted texts. -/
namespace K73
open PySem PySem.Spec PyProof.Rows
def sLe (a b : Str) : Prop := ¬ sLt b a
theorem sLe_trans {a b c : Str} (h : sLe a b) (h' : sLe b c) : sLe a c := fun w => by
  by_cases q : sLt b c
  · exact h (sLt_trans q w)
  · have e := sLt_tri q h'
    rw [← e] at w
    exact h w
theorem sLe_of {a b : Str} (h : sLt a b) : sLe a b := fun w => sLt_irrefl _ (sLt_trans h w)
theorem ltCps_s {a b : Str} : ltCps a.cps.toList b.cps.toList = true ↔ sLt a b := by
  rw [ltCps_eq, decide_eq_true_iff]
  rfl
theorem rising_pw : ∀ (xs : List Str) (p : Str), risingS p xs = true → (p :: xs).Pairwise sLe
  | [], p, _ => List.pairwise_cons.mpr ⟨fun _ h => (List.not_mem_nil h).elim, .nil⟩
  | x :: r, p, h => by
    unfold risingS at h
    rw [Bool.and_eq_true] at h
    have ih := rising_pw r x h.2
    have h1 : sLe p x := fun w => by
      have := ltCps_s.mpr w
      rw [this] at h
      exact absurd h.1 (by simp)
    refine List.pairwise_cons.mpr ⟨fun z hz => ?_, ih⟩
    rcases List.mem_cons.mp hz with e | hz
    · rw [e]; exact h1
    · exact sLe_trans h1 ((List.pairwise_cons.mp ih).1 z hz)
theorem sortedS_pw {xs : List Str} (h : sortedS xs = true) : xs.Pairwise sLe := by
  cases xs with
  | nil => exact .nil
  | cons x r => exact rising_pw r x h
/-- what sorted gives of the names ns in any order is ns in order -/
theorem sorted_is {ys ns : List Str} (hp : ys.Perm ns) (hs : sortedS ys = true) (ord : ns.Pairwise sLt) : ys = ns :=
  List.Perm.eq_of_pairwise (fun a b _ _ h1 h2 => sLt_tri h2 h1) (sortedS_pw hs) (ord.imp sLe_of) hp
/-- of different names: strictly in order -/
theorem sorted_lt {ys : List Str} (hs : sortedS ys = true) (nd : ys.Nodup) : ys.Pairwise sLt := by
  have h := sortedS_pw hs
  have : ys.Pairwise fun a b => sLe a b ∧ a ≠ b := List.Pairwise.and h nd
  exact this.imp fun ⟨h1, h2⟩ => Classical.byContradiction fun w => h2 (sLt_tri w h1)
theorem lt_nodup {ns : List Str} (h : ns.Pairwise sLt) : ns.Nodup := by
  refine List.Pairwise.imp (R := sLt) (S := (· ≠ ·)) (fun {a b} q e => ?_) h
  rw [e] at q
  exact sLt_irrefl _ q
end K73
set_option maxHeartbeats 200000
namespace K73
open PySem PySem.Spec PyProof.Rows L2
theorem pt_keys {ns : List Str} {f : Str → Int} : (pt ns f).map (·.1) = ns.map Sum.inr := by
  unfold pt
  rw [List.map_map]
  rfl
theorem inV_strs {n : Str} {B : List Str} : inV (.str n) (B.map V.str) = decide (n ∈ B) := by
  unfold inV
  rw [List.any_map, Bool.eq_iff_iff, List.any_eq_true, decide_eq_true_iff]
  constructor
  · rintro ⟨z, hz, h⟩
    have h : (z == n) = true := h
    rw [beq_iff_eq] at h
    rw [← h]
    exact hz
  · intro h
    exact ⟨n, h, (beq_self_eq_true n : (n == n) = true)⟩
theorem flat_strs (B : List Str) : (B.map V.str).all flatV = true := by
  rw [List.all_eq_true]
  intro x hx
  obtain ⟨z, _, rfl⟩ := List.mem_map.mp hx
  rfl
section
variable {P : Program} {w : World} {K : PySem.W.Frag} {mg : Str → Option Value} {base : Heap}
def spShifted : Sp := fun vs H Q _ => ∃ (d b : Addr) (c : Int) (ns B : List Str) (f : Str → Int), vs = [.ref d, .ref b, .int c] ∧ PtAt H d ns f ∧ H b = some (.lst (B.map V.str)) ∧ ns.Pairwise sLt ∧ ns.length ≤ 60 ∧ ∀ H' p, Same H H' → H p = none → PtAt H' p ns (shift f B c) → Q (.ref p) H'
theorem Tp.shifted (Z : Tp K mg) : FnOk P w K mg base CX0 1 Z.gShifted Z.dShifted ["numbers", "names", "change"] spShifted := by
  have T := Z.nm
  refine Z.Shifted.fn.ok cShifted (fun vs H Q E h => ?_) (fun cdv A outer s H vs Q E hr h => ?_)
  · obtain ⟨d, b, c, ns, B, f, rfl, _⟩ := h
    rfl
  · obtain ⟨d, b, c, ns, B, f, rfl, hd, hb, ord, few, k⟩ := h
    have hu := hu_of hr
    have nd := cShifted.nd
    have big : (100000 : Nat) < sizeLine := by decide
    refine ⟨_, pss_one (ps_ret (pe_dc (own := [("name", 3)]) (g := gName 3) (tt := tYes) rfl nd (pi_list (pe_callB (call_sortedD rfl) rfl T.sorted boot_sorted (pa_cons (pv 0) pa_nil))) (blkOk_by (N := nShifted) (sc := defScope sShifted) (by decide +kernel))
      (fun _ _ _ _ _ => pg_name (i := 3) nd rfl (Or.inl rfl)) (fun _ _ _ _ _ => pts_nil) (fun _ _ _ _ _ => pv 3)
      (fun _ _ _ _ _ => pe_op op_add (pe_dget hu (pv 0) (pv 3) (fun _ _ => rfl)) (pe_ifExp (pt_cmpR (op_inB K) (pv 3) (pv 1) (by rfl)) (pv 2) pe_int)))), ?_⟩
    refine ⟨_, rfl, d, _, ns, rfl, .inl hd, pt_keys, by omega, fun ys p hp hs np => ?_⟩
    have ey := sorted_is hp hs ord
    subst ey
    have e1 : Same H (upd H p (.lst (ys.map V.str))) := same_upd np
    have hl : SqL K (upd H p (.lst (ys.map V.str))) p (ys.map V.str) := SqL.of upd_same
    generalize upd H p (.lst (ys.map V.str)) = H1 at e1 hl ⊢
    refine ⟨p, rfl, ⟨_, hl⟩, fun D hD => ?_⟩
    refine dck (ys.map fun n => (V.str n, n, V.int (shift f B c n))) ?_ (by rw [List.length_map]; omega) ?_ hD ?_ ?_ ?_
    · rw [List.map_map]
      exact (List.map_id' ys).symm ▸ lt_nodup ord
    · rw [List.map_map]
      exact hl
    · rintro q H' Qe hq e q2
      obtain ⟨n, hn, rfl⟩ := List.mem_map.mp hq
      exact ⟨_, rfl, q2 H' (Same.refl _)⟩
    · rintro q H' Qe hq e q2
      obtain ⟨n, hn, rfl⟩ := List.mem_map.mp hq
      have hd' := hd.same (e1.trans e)
      refine ⟨_, rfl, _, rfl, d, _, rfl, hd'.get hn, _, rfl, _, rfl, b, _, rfl, .inl (SqL.of ((e1.trans e) _ _ hb)), rfl, flat_strs B, _, rfl, ?_⟩
      rw [if_neg Bool.false_ne_true, inV_strs]
      by_cases hB : n ∈ B
      · rw [decide_eq_true hB]
        refine iteT ⟨_, rfl, _, _, rfl, rfl, ?_⟩
        have := q2 H' (Same.refl _)
        rw [shift_in hB] at this
        exact this
      · rw [decide_eq_false hB]
        refine iteF ⟨_, _, rfl, rfl, ?_⟩
        have := q2 H' (Same.refl _)
        rw [shift_out hB] at this
        show Qe (.int (f n + 0)) H'
        rw [Int.add_zero]
        exact this
    · intro H' e hd'
      refine k H' D (e1.trans e) (e1.free hD) ?_
      unfold PtAt pt
      rw [hd', List.map_map]
      rfl
/-! least_steps -/
theorem dist_sum {hs : List Str} {f g : Str → Int} : ((dist hs f g : Nat) : Int) = (hs.map fun h => if g h - f h < 0 then -(g h - f h) else g h - f h).sum := by
  unfold dist
  induction hs with
  | nil => rfl
  | cons a t ih =>
    rw [List.map_cons, List.sum_cons, List.map_cons, List.sum_cons, ← ih]
    split <;> omega
theorem walk_keysL {kvs : List (Key × V)} {l : List Str} {d : Addr} {o : Obj} (hk : kvs.map (·.1) = l.map Sum.inr) : Walk (Itk d o kvs) l.length (fun H => H d = some (.frz o (.dK kvs))) (fun i H x H' => H' = H ∧ (l.map V.str)[i]? = some x) := by
  have e : kvs.length = l.length := by
    have := congrArg List.length hk
    rwa [List.length_map, List.length_map] at this
  have z := walk_keys (d := d) (o := o) (kvs := kvs)
  rw [e] at z
  refine z.mono (fun _ h => h) fun i H x H' _ _ ⟨q1, k, v, q2, q3⟩ => ⟨q1, ?_⟩
  have h2 : (kvs.map (·.1))[i]? = some k := by rw [List.getElem?_map, q2]; rfl
  rw [hk, List.getElem?_map] at h2
  rw [q3, List.getElem?_map]
  cases e2 : l[i]? with
  | none => rw [e2] at h2; cases h2
  | some n =>
    rw [e2] at h2
    rw [← Option.some.inj h2]
    rfl
def spLeastSteps (C : Addr) : Sp := fun vs H Q _ => ∃ (sy d e : Addr) (ns : List Str) (L : List (Addr × Rul)) (f g : Str → Int), vs = [.ref sy, .ref d, .ref e] ∧ SysAt C H sy ns L ∧ Sound ns L ∧ AdmAt H d ns L f ∧ AdmAt H e ns L g ∧ ∀ H', Same H H' → Q (.int ((dist (heads (gapsOf L) ns) f g : Nat) : Int)) H'
theorem Tp.leastSteps (Z : Tp K mg) : FnOk P w K mg base CX0 6 Z.gLeastSteps Z.dLeastSteps ["system", "old", "new"] (spLeastSteps Z.C) := by
  have T := Z.nm
  have G1 := Z.checkAdmitted (P := P) (w := w) (base := base)
  have G2 := Z.namedBlocks (P := P) (w := w) (base := base)
  refine Z.LeastSteps.fn.ok cLeastSteps (fun vs H Q E h => ?_) (fun cdv A outer s H vs Q E hr h => ?_)
  · obtain ⟨sy, d, e, ns, L, f, g, rfl, _⟩ := h
    rfl
  · obtain ⟨sy, d, e, ns, L, f, g, rfl, hs, so, hd, he, k⟩ := h
    have hu := hu_of hr
    have nd := cLeastSteps.nd
    have big : (100000 : Nat) < sizeLine := by decide
    have fw := so.few
    have hlen : (heads (gapsOf L) ns).length ≤ ns.length := by unfold heads; exact List.length_filter_le _ _
    refine ⟨_, pss_cons (ps_expr (pe_d Z.CheckAdmitted G1 hr rfl (pa_cons (pv 0) (pa_cons (pv 1) (pa_cons (pv 2) pa_nil)))))
      (pss_one (ps_ret (pe_callB (cr_sum rfl) rfl T.sum boot_sum (pa_cons (pe_lc (own := [("name", 3)]) (g := gName 3) (tt := tYes) rfl nd (pi_keys (pe_frz (pe_d Z.NamedBlocks G2 hr rfl (pa_cons (pv 0) pa_nil)))) (blkOk_by (N := nLeastSteps) (sc := defScope sLeastSteps) (by decide +kernel))
        (fun _ _ _ _ _ => pg_name (i := 3) nd rfl (Or.inl rfl)) (fun _ _ _ _ _ => pts_nil)
        (fun _ _ _ _ _ => pe_callB call_abs rfl T.abs boot_abs (pa_cons (pe_op op_sub (pe_dget hu (pv 2) (pv 3) (fun _ _ => rfl)) (pe_dget hu (pv 1) (pv 3) (fun _ _ => rfl))) pa_nil))) pa_nil)))), ?_⟩
    refine ⟨_, rfl, _, rfl, _, rfl, sy, d, e, ns, L, f, g, rfl, hs, so, hd, he, fun H1 e1 => ?_⟩
    refine ⟨_, rfl, sy, ns, L, f, rfl, hs.same e1, so, hd.2.2, fun H2 b bs e2 b0 hb hB => ⟨b, _, rfl, hb, trivial, fun od => ⟨b, od, rfl, .inl ⟨_, upd_same, fun D hD => ?_⟩⟩⟩⟩
    have e12 : Same H1 (upd H2 b (.frz od (.dK (nbl (heads (gapsOf L) ns) bs)))) := same_put e2 b0
    have e02 := e1.trans e12
    refine lc_val (walk_keysL (nbl_keys (paired_len hB))) hD ((heads (gapsOf L) ns).map V.str) (List.length_map _) (by omega) (fun H' e => e _ _ upd_same) (fun i H x H' _ y => y) (fun _ => true) (fun x => .int (if g (unS x) - f (unS x) < 0 then -(g (unS x) - f (unS x)) else g (unS x) - f (unS x))) (fun x H' Qt _ _ q => q H' (Same.refl _)) ?_ ?_
    · rintro x H' Qe hx _ e3 q
      obtain ⟨n, hn, rfl⟩ := List.mem_map.mp hx
      have hn2 := (mem_heads.mp hn).1
      have e03 := e02.trans e3
      exact ⟨_, rfl, _, rfl, e, _, rfl, (he.1.same e03).get hn2, _, rfl, _, rfl, d, _, rfl, (hd.1.same e03).get hn2, _, _, rfl, rfl, _, rfl, q H' (Same.refl _)⟩
    · intro H3 e3 hD3
      refine ⟨D, (heads (gapsOf L) ns).map fun h => if g h - f h < 0 then -(g h - f h) else g h - f h, rfl, SqL.of ?_, ?_⟩
      · rw [hD3, List.filter_eq_self.mpr fun _ _ => rfl, List.map_map, List.map_map]
        rfl
      · rw [← dist_sum]
        exact k H3 (e02.trans e3)
/-! next_step -/
theorem Sound.ordH {ns : List Str} {L : List (Addr × Rul)} (h : Sound ns L) : (heads (gapsOf L) ns).Pairwise sLt := List.Pairwise.sublist (by unfold heads; exact List.filter_sublist) (show ns.Pairwise sLt from h.ord)
theorem Sound.fewH {ns : List Str} {L : List (Addr × Rul)} (h : Sound ns L) : (heads (gapsOf L) ns).length ≤ 60 := Nat.le_trans (by unfold heads; exact List.length_filter_le _ _) h.few
/-- the dict of the blocks by their names -/
def KnownAt (H : Hp) (k : Addr) (ns : List Str) (L : List (Addr × Rul)) : Prop := ∃ bs, H k = some (.dK (nbl (heads (gapsOf L) ns) bs)) ∧ BlksAt H (gapsOf L) ns bs
theorem KnownAt.same {H H' : Hp} {k : Addr} {ns : List Str} {L : List (Addr × Rul)} (h : KnownAt H k ns L) (e : Same H H') : KnownAt H' k ns L := let ⟨bs, h1, h2⟩ := h; ⟨bs, e _ _ h1, h2.same e⟩
theorem zip_mem {α β : Type} : ∀ {xs : List α} {ys : List β}, xs.length = ys.length → ∀ {x : α}, x ∈ xs → ∃ y, (x, y) ∈ xs.zip ys
  | [], [], _, _, h => by cases h
  | a :: xs, b :: ys, e, x, h => by
    rcases List.mem_cons.mp h with z | z
    · exact ⟨b, by rw [z, List.zip_cons_cons]; exact List.mem_cons_self⟩
    · obtain ⟨y, hy⟩ := zip_mem (Nat.succ.inj e) z
      exact ⟨y, by rw [List.zip_cons_cons]; exact List.mem_cons_of_mem _ hy⟩
theorem KnownAt.get {H : Hp} {k : Addr} {ns : List Str} {L : List (Addr × Rul)} (h : KnownAt H k ns L) (nd : ns.Nodup) {n : Str} (hn : n ∈ heads (gapsOf L) ns) : ∃ b, DGet H k (.str n) (some (.ref b)) ∧ H b = some (.lst ((blkOf (gapsOf L) ns n).map V.str)) := by
  obtain ⟨bs, h1, h2⟩ := h
  obtain ⟨b, hb⟩ := zip_mem (paired_len h2) hn
  refine ⟨b, ?_, paired_zip h2 _ hb⟩
  have := DGet.k (k := Sum.inr n) h1
  rw [nbl_get (heads_nodup nd) hb] at this
  exact this
theorem str_get {l : List Str} {i : Nat} {y : V} (h : (l.map V.str)[i]? = some y) : ∃ n, l[i]? = some n ∧ y = .str n := by
  rw [List.getElem?_map] at h
  cases e : l[i]? with
  | none => rw [e] at h; cases h
  | some n => rw [e] at h; exact ⟨n, rfl, (Option.some.inj h).symm⟩
def spNextStep (C : Addr) : Sp := fun vs H Q _ => ∃ (sy kd d e : Addr) (ns : List Str) (L : List (Addr × Rul)) (f g : Str → Int), vs = [.ref sy, .ref kd, .ref d, .ref e] ∧ SysAt C H sy ns L ∧ Sound ns L ∧ KnownAt H kd ns L ∧ PtAt H d ns f ∧ PtAt H e ns g ∧ Adm (gapsOf L) f ∧ Adm (gapsOf L) g ∧
  (∃ h ∈ heads (gapsOf L) ns, f h ≠ g h) ∧ ∀ H' t h, Same H H' → H t = none → H' t = some (.tup [.str h, .int (way f g h)]) → h ∈ heads (gapsOf L) ns → f h ≠ g h → Adm (gapsOf L) (shift f (blkOf (gapsOf L) ns h) (way f g h)) → Q (.ref t) H'
theorem Tp.nextStep (Z : Tp K mg) : FnOk P w K mg base CX0 4 Z.gNextStep Z.dNextStep ["system", "known", "numbers", "new"] (spNextStep Z.C) := by
  have T := Z.nm
  have G1 := Z.shifted (P := P) (w := w) (base := base)
  have G2 := Z.brokenRules (P := P) (w := w) (base := base)
  refine Z.NextStep.fn.ok cNextStep (fun vs H Q E h => ?_) (fun cdv A outer s H vs Q E hr h => ?_)
  · obtain ⟨sy, kd, d, e, ns, L, f, g, rfl, _⟩ := h
    rfl
  · obtain ⟨sy, kd, d, e, ns, L, f, g, rfl, hs, so, hk, hd, he, adf, adg, ⟨h0, hh0, hne⟩, k⟩ := h
    have hu := hu_of hr
    have nd := cNextStep.nd
    refine ⟨_, pss_cons (ps_for PassesOwn.never rfl (pi_list (pe_callB (call_sortedD rfl) rfl T.sorted boot_sorted (pa_cons (pv 1) pa_nil))) (pg_name (i := 4) nd rfl (Or.inl rfl))
        (pss_one (ps_if (pt_cmpR op_ne (pe_dget hu (pv 2) (pv 4) (fun _ _ => rfl)) (pe_dget hu (pv 3) (pv 4) (fun _ _ => rfl)) (nomark _))
          (pss_cons (ps_set (i := 5) nd rfl (Or.inl rfl) (pe_ifExp (pt_cmpR op_lt (pe_dget hu (pv 2) (pv 4) (fun _ _ => rfl)) (pe_dget hu (pv 3) (pv 4) (fun _ _ => rfl)) (nomark _)) pe_int (pe_un un_neg pe_int)))
          (pss_one (ps_if (pt_cmpR (op_eqNil (Nat.lt_of_succ_lt hu)) (pe_d Z.BrokenRules G2 hr rfl (pa_cons (pv 0) (pa_cons (pe_d Z.Shifted G1 (hr.mono (by decide)) rfl (pa_cons (pv 2) (pa_cons (pe_dget hu (pv 1) (pv 4) (fun _ _ => rfl)) (pa_cons (pv 5) pa_nil)))) pa_nil))) (pe_lst pa_nil) (nomark _))
            (pss_one (ps_ret (pe_tup (pa_cons (pv 4) (pa_cons (pv 5) pa_nil))))) pss_nil)))
          pss_nil)))
      (pss_one (ps_ret pe_non)), ?_⟩
    obtain ⟨bs, hk1, hk2⟩ := id hk
    have fH := so.fewH
    refine ⟨_, rfl, kd, _, heads (gapsOf L) ns, rfl, .inl hk1, nbl_keys (paired_len hk2), by omega, fun ys p hp hsd np => ?_⟩
    have ey := sorted_is hp hsd so.ordH
    subst ey
    refine ⟨p, rfl, ⟨_, SqL.of upd_same⟩, ?_⟩
    have e1 : Same H (upd H p (.lst ((heads (gapsOf L) ns).map V.str))) := same_upd np
    refine for_list (K := K) (a := p) (xs := (heads (gapsOf L) ns).map V.str) (fun i σ H' => ∃ u4 u5, σ = [some (.ref sy), some (.ref kd), some (.ref d), some (.ref e), u4, u5] ∧ Same (upd H p (.lst ((heads (gapsOf L) ns).map V.str))) H' ∧
        ∀ h ∈ (heads (gapsOf L) ns).take i, f h ≠ g h → ¬ Adm (gapsOf L) (shift f (blkOf (gapsOf L) ns h) (way f g h)))
      ⟨none, none, rfl, Same.refl _, fun h hh => by simp at hh⟩ (fun i σ H' _ ⟨_, _, _, e, _⟩ => SqL.of (e _ _ upd_same)) ?_ ?_
    · rintro i y σ H2 hi ⟨u4, u5, rfl, e2, hno⟩
      obtain ⟨n, hq, rfl⟩ := str_get hi
      have hn : n ∈ heads (gapsOf L) ns := List.mem_of_getElem? hq
      have hnn := (mem_heads.mp hn).1
      have e02 := e1.trans e2
      have hd2 := hd.same e02
      have he2 := he.same e02
      refine ⟨_, rfl, _, rfl, d, _, rfl, hd2.get hnn, _, rfl, _, rfl, e, _, rfl, he2.get hnn, rfl, _, rfl, ?_⟩
      have more : ∀ {a b : Option V} {H3 : Hp}, Same H2 H3 → (f n ≠ g n → ¬ Adm (gapsOf L) (shift f (blkOf (gapsOf L) ns n) (way f g n))) → ∃ u4 u5, [some (V.ref sy), some (.ref kd), some (.ref d), some (.ref e), a, b] = [some (V.ref sy), some (.ref kd), some (.ref d), some (.ref e), u4, u5] ∧ Same (upd H p (.lst ((heads (gapsOf L) ns).map V.str))) H3 ∧
          ∀ h ∈ (heads (gapsOf L) ns).take (i + 1), f h ≠ g h → ¬ Adm (gapsOf L) (shift f (blkOf (gapsOf L) ns h) (way f g h)) := fun {a b H3} e3 hnot => by
        refine ⟨a, b, rfl, e2.trans e3, fun h hh => ?_⟩
        rw [take_snoc hq] at hh
        rcases List.mem_append.mp hh with z | z
        · exact hno h z
        · rw [List.mem_singleton.mp z]; exact hnot
      by_cases hfg : f n = g n
      · have ed : (!decide (V.int (f n) = V.int (g n))) = false := by rw [hfg]; simp
        rw [ed]
        exact iteF (more (Same.refl _) fun z => absurd hfg z)
      · have ed : (!decide (V.int (f n) = V.int (g n))) = true := by rw [decide_eq_false fun z => hfg (V.int.inj z)]; rfl
        rw [ed]
        obtain ⟨b, hgb, hbl⟩ := (hk.same e02).get so.nd hn
        refine iteT ?_
        have hset : ∀ {Qs : VK}, Qs (.int (way f g n)) H2 → tIf (tTest (tOp (rI0 fun i j => .bl (decide (i < j))) (tDGet (tVar 2) (tVar 4)) (tDGet (tVar 3) (tVar 4)))) (tC (.int 1)) (tUn (rU fun i => .int (-i)) (tC (.int 1))) [some (V.ref sy), some (.ref kd), some (.ref d), some (.ref e), some (.str n), u5] H2 Qs := fun {Qs} q => by
          refine ⟨_, rfl, _, rfl, d, _, rfl, hd2.get hnn, _, rfl, _, rfl, e, _, rfl, he2.get hnn, _, _, rfl, rfl, _, rfl, ?_⟩
          unfold way at q
          by_cases lt : f n < g n
          · rw [if_pos lt] at q
            rw [decide_eq_true lt]
            exact iteT q
          · rw [if_neg lt] at q
            rw [decide_eq_false lt]
            exact iteF ⟨1, rfl, q⟩
        refine hset ?_
        refine nx_of ?_
        refine ⟨_, rfl, _, rfl, _, rfl, _, rfl, kd, _, rfl, hgb, _, rfl, d, b, way f g n, ns, _, f, rfl, hd2, hbl, so.ord, so.few, fun H3 q e3 q0 hq3 => ?_⟩
        have e03 := e02.trans e3
        refine ⟨sy, q, ns, L, _, rfl, hs.same e03, hq3, so.wi, so.fewL3, fun H4 r e4 r0 hr4 => ?_⟩
        refine ⟨Nat.zero_le _, fun m hm => ?_⟩
        have nrm : r ≠ m := ne_of_none hr4 hm
        refine ⟨r, m, _, rfl, rfl, SqL.of (by rw [upd_ne nrm]; exact hr4), SqL.of upd_same, _, rfl, ?_⟩
        have e5 : Same H2 (upd H4 m (.lst [])) := (e3.trans e4).trans (same_upd hm)
        by_cases had : Adm (gapsOf L) (shift f (blkOf (gapsOf L) ns n) (way f g n))
        · rw [brk_nil.mpr had]
          refine iteT ⟨_, rfl, _, rfl, (by show 2 ≤ sizeLine; decide), fun t ht => ?_⟩
          have e6 := (e02.trans e5)
          exact k _ t n (e6.trans (same_upd ht)) (e6.free ht) upd_same hn hfg had
        · have hb0 : (refs (brk L (shift f (blkOf (gapsOf L) ns n) (way f g n)))).isEmpty = false := by
            cases eb : brk L (shift f (blkOf (gapsOf L) ns n) (way f g n)) with
            | nil => exact absurd (brk_nil.mp eb) had
            | cons a b => rfl
          rw [hb0]
          exact iteF (more e5 fun _ => had)
    · rintro σ H2 ⟨u4, u5, rfl, e2, hno⟩
      obtain ⟨h, h1, h2, h3⟩ := step_on so.wi adf adg hh0 hne
      rw [List.length_map, List.take_length] at hno
      exact absurd h3 (hno h h1 h2)
end
end K73
set_option maxHeartbeats 200000
namespace K73
open PySem PySem.Spec PyProof.Rows L2
/-- steps on from f to g, each of a block that may move on -/
inductive Way (G : List Rul) (ns : List Str) (g : Str → Int) : (Str → Int) → List (Str × Int) → Prop
  | nil {f : Str → Int} : (∀ n ∈ ns, f n = g n) → Way G ns g f []
  | cons {f : Str → Int} {h : Str} {rest : List (Str × Int)} : h ∈ heads G ns → f h ≠ g h → Adm G (shift f (blkOf G ns h) (way f g h)) → Way G ns g (shift f (blkOf G ns h) (way f g h)) rest → Way G ns g f ((h, way f g h) :: rest)
theorem Way.len {G : List Rul} {ns : List Str} {g f : Str → Int} {st : List (Str × Int)} (nd : ns.Nodup) (h : Way G ns g f st) : st.length = dist (heads G ns) f g := by
  induction h with
  | nil e => exact (dist_zero.mpr fun k hk => e k (mem_heads.mp hk).1).symm
  | cons hh ne ad t ih =>
    rw [List.length_cons, ih]
    exact dist_on nd hh ne
/-- the steps' tuples in a list -/
def StepsAt (H : Hp) (p : Addr) (st : List (Str × Int)) : Prop := ∃ ts : List Addr, H p = some (.lst (ts.map V.ref)) ∧ Paired (fun t (s : Str × Int) => H t = some (.tup [.str s.1, .int s.2])) ts st
theorem StepsAt.same {H H' : Hp} {p : Addr} {st : List (Str × Int)} (h : StepsAt H p st) (e : Same H H') : StepsAt H' p st := let ⟨ts, h1, h2⟩ := h; ⟨ts, e _ _ h1, paired_mono (fun _ _ q => e _ _ q) h2⟩
section
variable {P : Program} {w : World} {K : PySem.W.Frag} {mg : Str → Option Value} {base : Heap}
def spSequence (C : Addr) : Sp := fun vs H Q _ => ∃ (sy d e : Addr) (ns : List Str) (L : List (Addr × Rul)) (f g : Str → Int), vs = [.ref sy, .ref d, .ref e] ∧ SysAt C H sy ns L ∧ Sound ns L ∧ AdmAt H d ns L f ∧ AdmAt H e ns L g ∧ dist (heads (gapsOf L) ns) f g ≤ 1000000 ∧
  ∀ H' p st, Same H H' → H p = none → StepsAt H' p st → Way (gapsOf L) ns g f st → Q (.ref p) H'
theorem Tp.sequence (Z : Tp K mg) : FnOk P w K mg base CX0 6 Z.gSequence Z.dSequence ["system", "old", "new"] (spSequence Z.C) := by
  have T := Z.nm
  have G1 := Z.checkAdmitted (P := P) (w := w) (base := base)
  have G2 := Z.namedBlocks (P := P) (w := w) (base := base)
  have G3 := Z.nextStep (P := P) (w := w) (base := base)
  have G4 := Z.shifted (P := P) (w := w) (base := base)
  refine Z.Sequence.fn.ok cSequence (fun vs H Q E h => ?_) (fun cdv A outer s H vs Q E hr h => ?_)
  · obtain ⟨sy, d, e, ns, L, f, g, rfl, _⟩ := h
    rfl
  · obtain ⟨sy, d, e, ns, L, f, g, rfl, hs, so, hd, he, hmax, k⟩ := h
    have hu := hu_of hr
    have nd := cSequence.nd
    refine ⟨_, pss_cons (ps_expr (pe_d Z.CheckAdmitted G1 hr rfl (pa_cons (pv 0) (pa_cons (pv 1) (pa_cons (pv 2) pa_nil)))))
      (pss_cons (ps_set (i := 3) nd rfl (Or.inl rfl) (pe_d Z.NamedBlocks G2 hr rfl (pa_cons (pv 0) pa_nil)))
      (pss_cons (ps_set (i := 4) nd rfl (Or.inl rfl) (pe_lst pa_nil))
      (pss_cons (ps_set (i := 5) nd rfl (Or.inl rfl) (pe_callTy call_dictD rfl T.dict boot_dict (pa_cons (pv 1) pa_nil)))
      (pss_cons (ps_while PassesOwn.never (pt_cmpR (op_nePt (Nat.lt_of_succ_lt hu)) (pv 5) (pv 2) (nomark _))
        (pss_cons (ps_asg (pe_d Z.NextStep G3 (hr.mono (by decide)) rfl (pa_cons (pv 0) (pa_cons (pv 3) (pa_cons (pv 5) (pa_cons (pv 2) pa_nil))))) (pg_tup rfl (pgs_cons (pg_name (i := 6) nd rfl (Or.inl rfl)) (pgs_cons (pg_name (i := 7) nd rfl (Or.inl rfl)) pgs_nil))))
        (pss_cons (ps_expr (pe_bm PySem.F.plainAttrs_list PySem.F.slot_list_append PySem.F.type_list_append mt_append (pv 4) (pa_cons (pe_tup (pa_cons (pv 6) (pa_cons (pv 7) pa_nil))) pa_nil)))
        (pss_one (ps_set (i := 5) nd rfl (Or.inl rfl) (pe_d Z.Shifted G4 (hr.mono (by decide)) rfl (pa_cons (pv 5) (pa_cons (pe_dget hu (pv 3) (pv 6) (fun _ _ => rfl)) (pa_cons (pv 7) pa_nil)))))))))
      (pss_one (ps_ret (pv 4))))))), ?_⟩
    have big : (1000001 : Nat) < sizeLine := by decide
    refine ⟨_, rfl, _, rfl, _, rfl, sy, d, e, ns, L, f, g, rfl, hs, so, hd, he, fun H1 e1 => ?_⟩
    refine ⟨_, rfl, sy, ns, L, f, rfl, hs.same e1, so, hd.2.2, fun H2 kd bs e2 kd0 hk1 hk2 => ?_⟩
    have hk : KnownAt H2 kd ns L := ⟨bs, hk1, hk2⟩
    refine ⟨Nat.zero_le _, fun fA nf => ⟨_, rfl, d, _, rfl, .inl (((hd.1.same e1).same e2).same (same_upd nf)), fun nA nn => ?_⟩⟩
    have e02 := e1.trans e2
    have f0 : H fA = none := e02.free nf
    have nfn : fA ≠ nA := fun z => by rw [← z, upd_same] at nn; cases nn
    have e3 : Same H2 (upd (upd H2 fA (.lst [])) nA (.dK (pt ns f))) := (same_upd nf).trans (same_upd nn)
    refine ⟨fun m σ H' => ∃ (v : Str → Int) (nA : Addr) (pre : List (Str × Int)) (u6 u7 : Option V), σ = [some (.ref sy), some (.ref d), some (.ref e), some (.ref kd), some (.ref fA), some (.ref nA), u6, u7] ∧ Same H2 H' ∧ StepsAt H' fA pre ∧ PtAt H' nA ns v ∧ Adm (gapsOf L) v ∧
        m = dist (heads (gapsOf L) ns) v g ∧ pre.length + m = dist (heads (gapsOf L) ns) f g ∧ ∀ rest, Way (gapsOf L) ns g v rest → Way (gapsOf L) ns g f (pre ++ rest),
      ⟨_, f, nA, [], none, none, rfl, e3, ⟨[], (by rw [upd_ne nfn, upd_same] <;> rfl), .nil⟩, upd_same, hd.2.2, rfl, by simp, fun _ h => h⟩, ?_⟩
    rintro m σ H4 ⟨v, nA, pre, u6, u7, rfl, e4, hst, hv, adv, rfl, hlen, hway⟩
    have e04 := e02.trans e4
    refine ⟨_, rfl, _, rfl, nA, e, ns, v, g, rfl, rfl, hv, he.1.same e04, _, rfl, ?_⟩
    cases hsame : sameAll ns v g with
    | true =>
      have h := sameAll_iff.mp hsame
      refine iteF ⟨_, rfl, k H4 fA pre e04 f0 hst ?_⟩
      have := hway [] (.nil h)
      rwa [List.append_nil] at this
    | false =>
      refine iteT ?_
      have hne : ∃ h ∈ heads (gapsOf L) ns, v h ≠ g h := Classical.byContradiction fun w => by
        have := same_of_heads adv he.2.2 (ns := ns) fun q hq => Classical.byContradiction fun z => w ⟨q, hq, z⟩
        rw [sameAll_iff.mpr this] at hsame
        cases hsame
      refine ⟨_, fun σ' H' z => z, ?_⟩
      refine ⟨_, rfl, _, rfl, _, rfl, _, rfl, sy, kd, nA, e, ns, L, v, g, rfl, hs.same e04, so, hk.same e4, hv, he.1.same e04, adv, he.2.2, hne, fun H5 t h e5 t0 ht hh hvg had => ?_⟩
      have hst5 := hst.same e5
      obtain ⟨ts, hf5, hts⟩ := hst5
      have hl2 := paired_len hts
      have hdo := dist_on so.nd hh hvg
      refine ⟨t, _, rfl, SqT.of ht, rfl, _, _, rfl, _, _, rfl, ⟨rfl, ?_⟩⟩
      refine nx_of ?_
      refine ⟨_, rfl, .inl ⟨rfl, _, SqL.of hf5⟩, _, rfl, _, rfl, (by show 2 ≤ sizeLine; decide), fun t2 ht2 => ?_⟩
      have nft : fA ≠ t2 := ne_of_none hf5 ht2
      refine ⟨fA, _, _, rfl, rfl, (by rw [upd_ne nft]; exact hf5), by rw [List.length_map]; omega, ?_⟩
      have e6 : Same H2 (upd (upd H5 t2 (.tup [.str h, .int (way v g h)])) fA (.lst (ts.map V.ref ++ [.ref t2]))) := fun c o q => by
        have ncf : c ≠ fA := ne_of_none q nf
        rw [upd_ne ncf]
        exact (same_upd ht2) _ _ (e5 _ _ (e4 _ _ q))
      have e56 : ∀ c o, c ≠ fA → H5 c = some o → (upd (upd H5 t2 (.tup [.str h, .int (way v g h)])) fA (.lst (ts.map V.ref ++ [.ref t2]))) c = some o := fun c o hc q => by
        rw [upd_ne hc]
        exact (same_upd ht2) _ _ q
      have hst6 : StepsAt (upd (upd H5 t2 (.tup [.str h, .int (way v g h)])) fA (.lst (ts.map V.ref ++ [.ref t2]))) fA (pre ++ [(h, way v g h)]) := by
        refine ⟨ts ++ [t2], (by rw [upd_same, List.map_append] <;> rfl), paired_snoc ?_ ?_⟩
        · refine paired_mono (fun c q hq => e56 c _ (ne_of hq hf5 (by intro z; cases z)) hq) hts
        · rw [upd_ne nft.symm, upd_same]
      have hv6 : PtAt (upd (upd H5 t2 (.tup [.str h, .int (way v g h)])) fA (.lst (ts.map V.ref ++ [.ref t2]))) nA ns v := e56 _ _ (ne_of (hv.same e5) hf5 (by intro z; cases z)) (hv.same e5)
      generalize upd (upd H5 t2 (.tup [.str h, .int (way v g h)])) fA (.lst (ts.map V.ref ++ [.ref t2])) = H6 at e6 hst6 hv6 ⊢
      obtain ⟨b, hgb, hbl⟩ := (hk.same e6).get so.nd hh
      refine nx_of ?_
      refine ⟨_, rfl, _, rfl, _, rfl, kd, _, rfl, hgb, _, rfl, nA, b, way v g h, ns, _, v, rfl, hv6, hbl, so.ord, so.few, fun H7 n2 e7 n20 hn2 => ?_⟩
      refine ⟨_, by omega, shift v (blkOf (gapsOf L) ns h) (way v g h), n2, _, _, _, rfl, e6.trans e7, hst6.same e7, hn2, had, rfl, by rw [List.length_append, List.length_singleton]; omega, fun rest hr => ?_⟩
      rw [List.append_assoc]
      exact hway _ (.cons hh hvg had hr)
theorem Way.all {G : List Rul} {ns : List Str} {g f : Str → Int} {st : List (Str × Int)} (h : Way G ns g f st) : ∀ s ∈ st, s.1 ∈ heads G ns ∧ (s.2 = 1 ∨ s.2 = -1) := by
  induction h with
  | nil _ => intro s hs; cases hs
  | @cons f h rest hh ne ad t ih =>
    intro s hs
    rcases List.mem_cons.mp hs with z | z
    · rw [z]
      refine ⟨hh, ?_⟩
      show way f g h = 1 ∨ way f g h = -1
      unfold way
      split
      · exact .inl rfl
      · exact .inr rfl
    · exact ih s z
theorem paired_nth {α β : Type} {F : α → β → Prop} : ∀ {xs : List α} {ys : List β} {i : Nat} {x : α}, Paired F xs ys → xs[i]? = some x → ∃ y, ys[i]? = some y ∧ F x y
  | _, _, _, _, .nil, h => by simp at h
  | _, _, 0, _, .cons a _, h => ⟨_, rfl, by rw [← Option.some.inj h]; exact a⟩
  | _, _, i + 1, _, .cons _ t, h => paired_nth (i := i) t h
theorem ref_get {l : List Addr} {i : Nat} {y : V} (h : (l.map V.ref)[i]? = some y) : ∃ n, l[i]? = some n ∧ y = .ref n := by
  rw [List.getElem?_map] at h
  cases e : l[i]? with
  | none => rw [e] at h; cases h
  | some n => rw [e] at h; exact ⟨n, rfl, (Option.some.inj h).symm⟩
theorem mem_nth {α : Type} {l : List α} {x : α} (h : x ∈ l) : ∃ i : Nat, l[i]? = some x := List.mem_iff_getElem?.mp h
def spIsStep : Sp := fun vs H Q _ => ∃ (kd t : Addr) (ns : List Str) (L : List (Addr × Rul)) (h : Str) (c : Int), vs = [.ref kd, .ref t] ∧ KnownAt H kd ns L ∧ ns.Nodup ∧ H t = some (.tup [.str h, .int c]) ∧ h ∈ heads (gapsOf L) ns ∧ (c = 1 ∨ c = -1) ∧ ∀ H', Same H H' → Q (.bl true) H'
theorem Tp.isStep (Z : Tp K mg) : FnOk P w K mg base CX0 1 Z.gIsStep Z.dIsStep ["known", "thing"] spIsStep := by
  have T := Z.nm
  refine Z.IsStep.fn.ok cIsStep (fun vs H Q E h => ?_) (fun cdv A outer s H vs Q E hr h => ?_)
  · obtain ⟨kd, t, ns, L, h, c, rfl, _⟩ := h
    rfl
  · obtain ⟨kd, t, ns, L, h, c, rfl, hk, nds, ht, hh, hc, k⟩ := h
    have hu := hu_of hr
    refine ⟨_, pss_cons (ps_if (PW.pt (pw_or (pt_not (ptv (pe_isi T rfl rfl T.tuple boot_tuple (pv 1)))) (pw_or (pt_cmpR op_ne (pe_callB call_len_seq (by rfl) T.len PySem.boot_len (pa_cons (pv 1) pa_nil)) pe_int (nomark _))
          (pw_or (pt_not (ptv (pe_isi T rfl rfl T.str boot_str (pat 1)))) (pw_or1 (pt_cmp (pc_dnotin hu (pat 1) (pv 0)))))))) pss_no pss_nil)
      (pss_one (ps_ret (pe_and (pe_isi T rfl rfl T.int boot_int (pat 1)) (pe_and (pe_not (pe_isi T rfl rfl T.bool boot_bool (pat 1)))
        (pe_one (pe_cmpR op_in_seq (pat 1) (pe_tup (pa_cons pe_int (pa_cons (pe_un un_neg pe_int) pa_nil))) (by rfl))))))), ?_⟩
    obtain ⟨b, hg, _⟩ := hk.get nds hh
    refine ⟨_, rfl, _, _, _, _, true, rfl, .ty _, .base (.tup ht), kit_ty (by decide +kernel), true, rfl, iteF ⟨_, rfl, t, _, rfl, .inr (SqT.of ht), rfl, _, rfl, iteF ?_⟩⟩
    refine ⟨_, rfl, t, _, _, _, rfl, rfl, SqT.of ht, atI_nat (j := 0) rfl, _, _, _, _, true, rfl, .ty _, .base (.str h), kit_ty (by decide +kernel), true, rfl, iteF ?_⟩
    refine ⟨_, rfl, t, _, _, _, rfl, rfl, SqT.of ht, atI_nat (j := 0) rfl, _, rfl, kd, _, rfl, hg, _, rfl, iteF ?_⟩
    refine ⟨_, rfl, t, _, _, _, rfl, rfl, SqT.of ht, atI_nat (j := 1) rfl, _, _, _, _, true, rfl, .ty _, .base (.int c), kit_ty (by decide +kernel), true, rfl, iteT ?_⟩
    refine ⟨_, rfl, t, _, _, _, rfl, rfl, SqT.of ht, atI_nat (j := 1) rfl, _, _, _, _, false, rfl, .ty _, .base (.int c), kit_ty (by decide +kernel), _, rfl, _, rfl, iteT ?_⟩
    refine ⟨_, rfl, t, _, _, _, rfl, rfl, SqT.of ht, atI_nat (j := 1) rfl, 1, rfl, (by show 2 ≤ sizeLine; decide), fun p hp => ?_⟩
    refine ⟨p, _, rfl, .inr (SqT.of upd_same), rfl, rfl, ?_⟩
    rw [if_neg Bool.false_ne_true]
    have e : inV (.int c) [V.int 1, V.int (-1)] = true := by
      rcases hc with z | z <;> (rw [z]; decide)
    rw [e]
    exact k _ (same_upd hp)
def spIsSequence (C : Addr) : Sp := fun vs H Q _ => ∃ (sy d e p : Addr) (ns : List Str) (L : List (Addr × Rul)) (f g : Str → Int) (st : List (Str × Int)), vs = [.ref sy, .ref d, .ref e, .ref p] ∧ SysAt C H sy ns L ∧ Sound ns L ∧ AdmAt H d ns L f ∧ AdmAt H e ns L g ∧ StepsAt H p st ∧ Way (gapsOf L) ns g f st ∧ st.length ≤ 1000000 ∧
  ∀ H', Same H H' → Q (.bl true) H'
theorem Tp.isSequence (Z : Tp K mg) : FnOk P w K mg base CX0 6 Z.gIsSequence Z.dIsSequence ["system", "old", "new", "thing"] (spIsSequence Z.C) := by
  have T := Z.nm
  have G1 := Z.checkAdmitted (P := P) (w := w) (base := base)
  have G2 := Z.namedBlocks (P := P) (w := w) (base := base)
  have G3 := Z.isStep (P := P) (w := w) (base := base)
  have G4 := Z.shifted (P := P) (w := w) (base := base)
  have G5 := Z.brokenRules (P := P) (w := w) (base := base)
  refine Z.IsSequence.fn.ok cIsSequence (fun vs H Q E h => ?_) (fun cdv A outer s H vs Q E hr h => ?_)
  · obtain ⟨sy, d, e, p, ns, L, f, g, st, rfl, _⟩ := h
    rfl
  · obtain ⟨sy, d, e, p, ns, L, f, g, st, rfl, hs, so, hd, he, hst, hway, hmax, k⟩ := h
    have hu := hu_of hr
    have nd := cIsSequence.nd
    have big : (1000001 : Nat) < sizeLine := by decide
    refine ⟨_, pss_cons (ps_expr (pe_d Z.CheckAdmitted G1 hr rfl (pa_cons (pv 0) (pa_cons (pv 1) (pa_cons (pv 2) pa_nil)))))
      (pss_cons (ps_set (i := 4) nd rfl (Or.inr rfl) (pe_d Z.NamedBlocks G2 hr rfl (pa_cons (pv 0) pa_nil)))
      (pss_cons (ps_if (PW.pt (pw_or (pt_not (ptv (pe_isi T rfl rfl T.list boot_list (pv 3)))) (pw_or1 (pt_not (ptv (pe_callB (cr_all rfl) rfl T.all boot_all (pa_cons (pe_lc (own := [("step", 8)]) (g := gName 8) (tt := tYes) rfl nd (pi_list (pv 3))
          (blkOk_by (N := nIsSequence) (sc := defScope sIsSequence) (by decide +kernel)) (fun _ _ _ _ _ => pg_name (i := 8) nd rfl (Or.inl rfl)) (fun _ _ _ _ _ => pts_nil) (fun _ _ _ _ _ => pe_d Z.IsStep G3 (hr.mono (by decide)) rfl (pa_cons (pv 4) (pa_cons (pv 8) pa_nil)))) pa_nil))))))) pss_no pss_nil)
      (pss_cons (ps_set (i := 5) nd rfl (Or.inl rfl) (pe_callTy call_dictD rfl T.dict boot_dict (pa_cons (pv 1) pa_nil)))
      (pss_cons (ps_for PassesOwn.never rfl (pi_list (pv 3)) (pg_tup rfl (pgs_cons (pg_name (i := 6) nd rfl (Or.inl rfl)) (pgs_cons (pg_name (i := 7) nd rfl (Or.inl rfl)) pgs_nil)))
        (pss_cons (ps_set (i := 5) nd rfl (Or.inl rfl) (pe_d Z.Shifted G4 (hr.mono (by decide)) rfl (pa_cons (pv 5) (pa_cons (pe_dget hu (pv 4) (pv 6) (fun _ _ => rfl)) (pa_cons (pv 7) pa_nil)))))
        (pss_one (ps_if (pt_cmpR (op_neNil (Nat.lt_of_succ_lt hu)) (pe_d Z.BrokenRules G5 (hr.mono (by decide)) rfl (pa_cons (pv 0) (pa_cons (pv 5) pa_nil))) (pe_lst pa_nil) (nomark _)) pss_no pss_nil))))
      (pss_one (ps_ret (pe_cmpR (op_eqPt (Nat.lt_of_succ_lt hu)) (pv 5) (pv 2) (nomark _)))))))), ?_⟩
    refine ⟨_, rfl, _, rfl, _, rfl, sy, d, e, ns, L, f, g, rfl, hs, so, hd, he, fun H1 e1 => ?_⟩
    refine ⟨_, rfl, sy, ns, L, f, rfl, hs.same e1, so, hd.2.2, fun H2 kd bs e2 kd0 hk1 hk2 => ?_⟩
    have hk : KnownAt H2 kd ns L := ⟨bs, hk1, hk2⟩
    have e02 := e1.trans e2
    obtain ⟨ts, hp2, hts⟩ := hst.same e02
    have hl := paired_len hts
    refine ⟨_, rfl, _, _, _, _, true, rfl, .ty _, .base (.lst hp2), kit_ty (by decide +kernel), true, rfl, iteF ⟨_, rfl, p, rfl, ⟨_, SqL.of hp2⟩, fun D hD => ?_⟩⟩
    refine lcl_map (SqL.of hp2) hD (by rw [List.length_map]; omega) (fun _ => .bl true) ?_ ?_
    · rintro x H' Qe hx e3 q
      obtain ⟨t, ht, rfl⟩ := List.mem_map.mp hx
      obtain ⟨i, hi⟩ := mem_nth ht
      obtain ⟨sx, hsx, hT⟩ := paired_nth hts hi
      have ha := hway.all sx (List.mem_of_getElem? hsx)
      exact ⟨_, rfl, _, rfl, kd, t, ns, L, sx.1, sx.2, rfl, hk.same e3, so.nd, e3 _ _ hT, ha.1, ha.2, q⟩
    intro H3 e3 hD3
    have e03 := e02.trans e3
    refine ⟨D, ts.map fun _ => true, rfl, SqL.of ?_, ?_⟩
    · rw [hD3, List.map_map, List.map_map]
      rfl
    have ea : (ts.map fun _ => true).all id = true := List.all_eq_true.mpr fun b hb => by obtain ⟨_, _, rfl⟩ := List.mem_map.mp hb; rfl
    rw [ea]
    refine ⟨_, rfl, iteF ?_⟩
    refine nx_of ?_
    refine ⟨_, rfl, d, _, rfl, .inl (hd.1.same e03), fun nA nn => ?_⟩
    have e4 : Same H3 (upd H3 nA (.dK (pt ns f))) := same_upd nn
    refine ⟨_, rfl, p, rfl, ⟨_, SqL.of (e4 _ _ (e3 _ _ hp2))⟩, ?_⟩
    refine for_list (K := K) (a := p) (xs := ts.map V.ref) (fun i σ H' => ∃ (v : Str → Int) (nA : Addr) (u6 u7 : Option V), σ = [some (.ref sy), some (.ref d), some (.ref e), some (.ref p), some (.ref kd), some (.ref nA), u6, u7, none] ∧ Same H2 H' ∧ PtAt H' nA ns v ∧ Way (gapsOf L) ns g v (st.drop i))
      ⟨f, nA, none, none, rfl, e3.trans e4, upd_same, hway⟩ (fun i σ H' _ ⟨_, _, _, _, _, e, _⟩ => SqL.of (e _ _ hp2)) ?_ ?_
    · rintro i y σ H4 hi ⟨v, nA, u6, u7, rfl, e5, hv, hw⟩
      obtain ⟨t, hq, rfl⟩ := ref_get hi
      obtain ⟨sx, hsx, hT⟩ := paired_nth hts hq
      have hdr : st.drop i = sx :: st.drop (i + 1) := by
        have hlt := (List.getElem?_eq_some_iff.mp hsx).1
        rw [List.drop_eq_getElem_cons hlt]
        congr 1
        exact (List.getElem?_eq_some_iff.mp hsx).2
      rw [hdr] at hw
      cases hw with
      | @cons _ h _ hh hvg had hrest =>
        obtain ⟨b, hgb, hbl⟩ := (hk.same e5).get so.nd hh
        refine ⟨t, _, rfl, SqT.of (e5 _ _ hT), rfl, _, _, rfl, _, _, rfl, ⟨rfl, ?_⟩⟩
        refine ⟨_, rfl, _, rfl, _, rfl, kd, _, rfl, hgb, _, rfl, nA, b, way v g h, ns, _, v, rfl, hv, hbl, so.ord, so.few, fun H5 n2 e6 n20 hn2 => ?_⟩
        have e05 := (e02.trans e5).trans e6
        refine nx_of ?_
        refine ⟨_, rfl, _, rfl, sy, n2, ns, L, _, rfl, hs.same e05, hn2, so.wi, so.fewL3, fun H6 r e7 r0 hr7 => ?_⟩
        rw [brk_nil.mpr had] at hr7
        refine ⟨Nat.zero_le _, fun m hm => ?_⟩
        have nrm : r ≠ m := ne_of_none hr7 hm
        refine ⟨r, m, _, rfl, rfl, SqL.of (by rw [upd_ne nrm]; exact hr7), SqL.of upd_same, _, rfl, ?_⟩
        refine ite_no rfl ?_
        have e8 := e7.trans (same_upd (o := .lst []) hm)
        exact ⟨_, n2, _, _, rfl, (e5.trans e6).trans e8, hn2.same e8, hrest⟩
    · rintro σ H4 ⟨v, nA, u6, u7, rfl, e5, hv, hw⟩
      rw [List.length_map, hl, List.drop_length] at hw
      cases hw with
      | nil hall =>
        refine ⟨_, rfl, _, rfl, nA, e, ns, v, g, rfl, rfl, hv, (he.1.same e02).same e5, ?_⟩
        rw [sameAll_iff.mpr hall]
        exact k H4 (e02.trans e5)
end
end K73
set_option maxHeartbeats 200000
/-! The law's pen. -/
namespace K73
open PySem PySem.Spec PyProof.Rows L2
/-- all that was tracked is as it was, but for p -/
def But (p : Addr) (H H' : Hp) : Prop := ∀ b o, b ≠ p → H b = some o → H' b = some o
theorem But.refl (p : Addr) (H : Hp) : But p H H := fun _ _ _ e => e
theorem But.trans {p : Addr} {H H' H'' : Hp} (a : But p H H') (b : But p H' H'') : But p H H'' := fun c o n e => b c o n (a c o n e)
theorem Same.but {H H' : Hp} (e : Same H H') (p : Addr) : But p H H' := fun b o _ h => e b o h
theorem But.upd {p : Addr} {H : Hp} (o : HO) : But p H (upd H p o) := fun b u n e => by rw [upd_ne n]; exact e
/-- the pen: its cells, how often it was asked (at most n times), what is left -/
def PenB (H : Hp) (p c : Addr) (n : Nat) : Prop := ∃ (cells : List Int) (i : Nat) (cur : Int), H p = some (.lst [.ref c, .int (i : Nat), .int cur]) ∧ i ≤ n ∧ H c = some (.lst (cells.map V.int)) ∧ cells.length ≤ 60
theorem PenB.same {H H' : Hp} {p c : Addr} {n : Nat} (h : PenB H p c n) (e : Same H H') : PenB H' p c n := let ⟨cells, i, cur, h1, h2, h3, h4⟩ := h; ⟨cells, i, cur, e _ _ h1, h2, e _ _ h3, h4⟩
theorem PenB.le {H : Hp} {p c : Addr} {n m : Nat} (h : PenB H p c n) (l : n ≤ m) : PenB H p c m := let ⟨cells, i, cur, h1, h2, h3, h4⟩ := h; ⟨cells, i, cur, h1, Nat.le_trans h2 l, h3, h4⟩
theorem pen_apart {H : Hp} {p c : Addr} {x y : V} {cells : List Int} (h1 : H p = some (.lst [.ref c, x, y])) (h3 : H c = some (.lst (cells.map V.int))) : c ≠ p := fun e => by
  rw [e, h1] at h3
  cases cells with
  | nil => cases h3
  | cons a t => cases h3
/-- an if whose test may say either, the heap as it was -/
theorem tail_if {c : TT} {t u : TS} {D : L2.Ends} {σ : L2.St} {H : Hp} (hc : ∀ Q : Bool → Hp → Prop, (∀ b, Q b H) → c σ H Q) (h1 : True → t D σ H) (h2 : u D σ H) : tIfS c t u D σ H := hc _ fun b => by
  cases b with
  | true => exact iteT (h1 trivial)
  | false => exact iteF h2
section
variable {P : Program} {w : World} {K : PySem.W.Frag} {mg : Str → Option Value} {base : Heap}
def spLNext : Sp := fun vs H Q _ => ∃ (p c : Addr) (n : Nat), vs = [.ref p] ∧ PenB H p c n ∧ n < 2 ^ 50 ∧ ∀ H' z, But p H H' → PenB H' p c (n + 1) → Q (.int z) H'
theorem Tp.lNext (Z : Tp K mg) : FnOk P w K mg base CX0 1 Z.gLNext Z.dLNext ["_law_pen_here"] spLNext := by
  have T := Z.nm
  refine Z.LNext.fn.ok cLNext (fun vs H Q E h => ?_) (fun cdv A outer s H vs Q E hr h => ?_)
  · obtain ⟨p, c, n, rfl, _⟩ := h
    rfl
  · obtain ⟨p, c, n, rfl, ⟨cells, i, cur, hp, hi, hc, hl⟩, hn, k⟩ := h
    have hu := hu_of hr
    have nd := cLNext.nd
    refine ⟨_, pss_cons (ps_set (i := 1) nd rfl (Or.inl rfl) (pe_ix ix_list (pv 0) pe_int (fun _ _ => rfl)))
      (pss_cons (ps_asg (pe_op op_add (pv 1) pe_int) (pg_sub (pv 0) pe_int set_list))
      (pss_cons (ps_set (i := 2) nd rfl (Or.inl rfl) (pe_op op_add (pe_op op_mul (pv 1) pe_int) pe_int))
      (pss_cons (ps_if (pt_cmpR (op_neNil (Nat.lt_of_succ_lt hu)) (pe_ix ix_list (pv 0) pe_int (fun _ _ => rfl)) (pe_lst pa_nil) (nomark _))
        (pss_one (ps_set (i := 2) nd rfl (Or.inl rfl) (pe_ix ix_list (pe_ix ix_list (pv 0) pe_int (fun _ _ => rfl)) (pe_op op_mod (pv 1) (pe_callB call_len_seq (by rfl) T.len PySem.boot_len (pa_cons (pe_ix ix_list (pv 0) pe_int (fun _ _ => rfl)) pa_nil))) (fun _ _ => rfl)))) pss_nil)
      (pss_cons (ps_if (PW.pt (pw_and (pt_cmpR op_lt (pv 1) (pe_callB call_len_seq (by rfl) T.len PySem.boot_len (pa_cons (pe_ix ix_list (pv 0) pe_int (fun _ _ => rfl)) pa_nil)) (nomark _)) (pw_and1 (pt_cmpR op_ge (pv 2) (pe_op op_pow pe_int pe_int) (nomark _)))))
        (pss_one (ps_ret (pv 2))) pss_nil)
      (pss_cons (ps_set (i := 3) nd rfl (Or.inl rfl) (pe_op op_mod (pe_op op_add (pe_op op_add (pe_op op_mod (pv 2) pe_int) (pe_op op_mul (pv 1) pe_int)) pe_int) pe_int))
      (pss_cons (ps_set (i := 4) nd rfl (Or.inl rfl) (pe_op op_mod (pe_op op_add (pe_op op_add (pe_op op_mul (pv 3) (pv 3)) (pe_op op_mul (pv 1) pe_int)) pe_int) pe_int))
      (pss_cons (ps_set (i := 5) nd rfl (Or.inl rfl) (pe_op op_mod (pe_op op_add (pe_op op_add (pe_op op_mul (pv 4) (pv 4)) (pv 3)) (pe_op op_mul (pe_op op_mul (pv 1) (pv 1)) pe_int)) pe_int))
      (pss_one (ps_ret (pe_op op_add (pe_op op_mul (pe_op op_add (pe_op op_mul (pv 5) pe_int) (pv 4)) pe_int) (pv 3))))))))))), ?_⟩
    have ncp : c ≠ p := pen_apart hp hc
    refine ⟨_, rfl, p, _, _, _, rfl, rfl, SqL.of hp, atI_nat (j := 1) rfl, ?_⟩
    refine ⟨_, rfl, _, _, rfl, rfl, _, rfl, p, _, _, 1, rfl, rfl, hp, rfl, ?_⟩
    have hp1 : (upd H p (.lst [.ref c, .int ((i : Int) + 1), .int cur])) p = some (.lst [.ref c, .int ((i : Int) + 1), .int cur]) := upd_same
    have hc1 : (upd H p (.lst [.ref c, .int ((i : Int) + 1), .int cur])) c = some (.lst (cells.map V.int)) := by rw [upd_ne ncp]; exact hc
    have e1 : But p H (upd H p (.lst [.ref c, .int ((i : Int) + 1), .int cur])) := But.upd _
    have done : ∀ H' z, Same (upd H p (.lst [.ref c, .int ((i : Int) + 1), .int cur])) H' → Q (.int z) H' := fun H' z e =>
      k H' z (e1.trans (Same.but e p)) ⟨cells, i + 1, cur, by rw [e _ _ hp1]; rfl, by omega, e _ _ hc1, hl⟩
    show tSeq _ _ _ _ (upd H p (.lst [.ref c, .int ((i : Int) + 1), .int cur]))
    generalize upd H p (.lst [.ref c, .int ((i : Int) + 1), .int cur]) = H1 at hp1 hc1 done ⊢
    refine ⟨_, rfl, _, _, rfl, rfl, .inr ⟨by decide, by decide⟩, _, _, rfl, rfl, ?_⟩
    refine nx_of ?_
    refine ⟨_, rfl, p, _, _, _, rfl, rfl, SqL.of hp1, atI_nat (j := 0) rfl, Nat.zero_le _, fun m hm => ?_⟩
    have e2 : Same H1 (upd H1 m (.lst [])) := same_upd hm
    have hp2 := e2 _ _ hp1
    have hc2 := e2 _ _ hc1
    have hm2 : SqL K (upd H1 m (.lst [])) m [] := SqL.of upd_same
    generalize upd H1 m (.lst []) = H2 at e2 hp2 hc2 hm2 ⊢
    refine ⟨c, m, cells.map V.int, rfl, rfl, SqL.of hc2, hm2, _, rfl, ?_⟩
    cases cells with
    | nil =>
      refine ite_no rfl ?_
      show L2.Ends.nx _ [some (.ref p), some (.int (i : Nat)), some (.int ((i : Int) * 1061 + 37)), none, none, none] H2
      generalize (i : Int) * 1061 + 37 = z
      have go : ∀ z', Q (.int z') H2 := fun z' => done H2 z' e2
      have b2 : ∀ y : Int, 0 ≤ y % 2147483587 ∧ y % 2147483587 < 2147483587 := fun y => ⟨Int.emod_nonneg _ (by decide), Int.emod_lt_of_pos _ (by decide)⟩
      have b3 : ∀ y : Int, 0 ≤ y % 2147483563 ∧ y % 2147483563 < 2147483563 := fun y => ⟨Int.emod_nonneg _ (by decide), Int.emod_lt_of_pos _ (by decide)⟩
      refine nx_of ?_
      refine tail_if (fun Qt hq => ?_) (fun _ => ?_) ?_
      · refine ⟨_, rfl, _, rfl, p, _, _, _, rfl, rfl, SqL.of hp2, atI_nat (j := 0) rfl, c, _, rfl, .inl (SqL.of hc2), _, _, rfl, rfl, _, rfl, ?_⟩
        refine ite2 (fun _ => ?_) (fun _ => hq false)
        exact ⟨_, rfl, _, _, rfl, rfl, ⟨by decide, by decide, by decide⟩, _, _, rfl, rfl, _, rfl, hq _⟩
      · exact ⟨_, rfl, go _⟩
      · refine nx_of ?_
        refine ⟨_, rfl, _, _, rfl, rfl, (by show (0 : Int) < 2147483587; decide), _, rfl, _, _, rfl, rfl, .inr ⟨by decide, by decide⟩, _, _, rfl, rfl, _, _, rfl, rfl, _, _, rfl, rfl, (by show (0 : Int) < 2147483587; decide), ?_⟩
        refine nx_of ?_
        refine ⟨_, rfl, _, rfl, _, _, rfl, rfl, .inl (by have := b2 (z % 2147483587 + (i : Int) * 50069 + 61); exact ⟨by omega, by omega⟩), _, rfl, _, _, rfl, rfl, .inr ⟨by decide, by decide⟩, _, _, rfl, rfl, _, _, rfl, rfl, _, _, rfl, rfl, (by show (0 : Int) < 2147483563; decide), ?_⟩
        refine nx_of ?_
        generalize (z % 2147483587 + (i : Int) * 50069 + 61) % 2147483587 = z3
        refine ⟨_, rfl, _, rfl, _, _, rfl, rfl, .inl (by have := b3 (z3 * z3 + (i : Int) * 40013 + 43); exact ⟨by omega, by omega⟩), _, rfl, _, _, rfl, rfl, _, rfl, _, rfl, _, _, rfl, rfl, .inl ⟨by omega, by omega⟩, _, _, rfl, rfl, .inr ⟨by decide, by decide⟩, _, _, rfl, rfl, _, _, rfl, rfl, (by show (0 : Int) < 2147483549; decide), ?_⟩
        refine nx_of ?_
        exact ⟨_, rfl, _, _, rfl, rfl, .inr ⟨by decide, by decide⟩, _, rfl, _, _, rfl, rfl, _, _, rfl, rfl, .inr ⟨by decide, by decide⟩, _, rfl, _, _, rfl, rfl, go _⟩
    | cons a t =>
      refine ite_yes rfl ?_
      obtain ⟨z, hz⟩ : ∃ z, atI ((a :: t).map V.int) (((i : Nat) : Int) % (((a :: t).map V.int).length : Nat)) = some (.int z) := by
        have hpos : (0 : Int) < (((a :: t).map V.int).length : Nat) := by rw [List.length_map, List.length_cons]; omega
        have h1 := Int.emod_nonneg (i : Int) (Int.ne_of_gt hpos)
        have h2 := Int.emod_lt_of_pos (i : Int) hpos
        obtain ⟨j, hj⟩ := Int.eq_ofNat_of_zero_le h1
        rw [hj] at h2 ⊢
        have hj2 : j < (a :: t).length := by rw [List.length_map] at h2; omega
        exact ⟨(a :: t)[j], atI_nat (by rw [List.getElem?_map, List.getElem?_eq_getElem hj2]; rfl)⟩
      refine ⟨_, rfl, p, _, _, _, rfl, rfl, SqL.of hp2, atI_nat (j := 0) rfl, _, rfl, _, rfl, p, _, _, _, rfl, rfl, SqL.of hp2, atI_nat (j := 0) rfl, c, _, rfl, .inl (SqL.of hc2), _, _, rfl, rfl, ?_, c, _, _, _, rfl, rfl, SqL.of hc2, hz, ?_⟩
      · show (0 : Int) < (((a :: t).map V.int).length : Nat)
        rw [List.length_map, List.length_cons]
        omega
      show L2.Ends.nx _ [some (.ref p), some (.int (i : Nat)), some (.int z), none, none, none] H2
      have go : ∀ z', Q (.int z') H2 := fun z' => done H2 z' e2
      have b2 : ∀ y : Int, 0 ≤ y % 2147483587 ∧ y % 2147483587 < 2147483587 := fun y => ⟨Int.emod_nonneg _ (by decide), Int.emod_lt_of_pos _ (by decide)⟩
      have b3 : ∀ y : Int, 0 ≤ y % 2147483563 ∧ y % 2147483563 < 2147483563 := fun y => ⟨Int.emod_nonneg _ (by decide), Int.emod_lt_of_pos _ (by decide)⟩
      refine nx_of ?_
      refine tail_if (fun Qt hq => ?_) (fun _ => ?_) ?_
      · refine ⟨_, rfl, _, rfl, p, _, _, _, rfl, rfl, SqL.of hp2, atI_nat (j := 0) rfl, c, _, rfl, .inl (SqL.of hc2), _, _, rfl, rfl, _, rfl, ?_⟩
        refine ite2 (fun _ => ?_) (fun _ => hq false)
        exact ⟨_, rfl, _, _, rfl, rfl, ⟨by decide, by decide, by decide⟩, _, _, rfl, rfl, _, rfl, hq _⟩
      · exact ⟨_, rfl, go _⟩
      · refine nx_of ?_
        refine ⟨_, rfl, _, _, rfl, rfl, (by show (0 : Int) < 2147483587; decide), _, rfl, _, _, rfl, rfl, .inr ⟨by decide, by decide⟩, _, _, rfl, rfl, _, _, rfl, rfl, _, _, rfl, rfl, (by show (0 : Int) < 2147483587; decide), ?_⟩
        refine nx_of ?_
        refine ⟨_, rfl, _, rfl, _, _, rfl, rfl, .inl (by have := b2 (z % 2147483587 + (i : Int) * 50069 + 61); exact ⟨by omega, by omega⟩), _, rfl, _, _, rfl, rfl, .inr ⟨by decide, by decide⟩, _, _, rfl, rfl, _, _, rfl, rfl, _, _, rfl, rfl, (by show (0 : Int) < 2147483563; decide), ?_⟩
        refine nx_of ?_
        generalize (z % 2147483587 + (i : Int) * 50069 + 61) % 2147483587 = z3
        refine ⟨_, rfl, _, rfl, _, _, rfl, rfl, .inl (by have := b3 (z3 * z3 + (i : Int) * 40013 + 43); exact ⟨by omega, by omega⟩), _, rfl, _, _, rfl, rfl, _, rfl, _, rfl, _, _, rfl, rfl, .inl ⟨by omega, by omega⟩, _, _, rfl, rfl, .inr ⟨by decide, by decide⟩, _, _, rfl, rfl, _, _, rfl, rfl, (by show (0 : Int) < 2147483549; decide), ?_⟩
        refine nx_of ?_
        exact ⟨_, rfl, _, _, rfl, rfl, .inr ⟨by decide, by decide⟩, _, rfl, _, _, rfl, rfl, _, _, rfl, rfl, .inr ⟨by decide, by decide⟩, _, rfl, _, _, rfl, rfl, go _⟩
def spLDraw : Sp := fun vs H Q _ => ∃ (p c : Addr) (n : Nat) (u : Int), vs = [.ref p, .int u] ∧ PenB H p c n ∧ n < 2 ^ 50 ∧ 1 ≤ u ∧ u < 1000000 ∧ ∀ H' d, 0 ≤ d → d < u → But p H H' → PenB H' p c (n + 1) → Q (.int d) H'
theorem Tp.lDraw (Z : Tp K mg) : FnOk P w K mg base CX0 2 Z.gLDraw Z.dLDraw ["_law_pen_here", "_law_under"] spLDraw := by
  have T := Z.nm
  have G := Z.lNext (P := P) (w := w) (base := base)
  refine Z.LDraw.fn.ok cLDraw (fun vs H Q E h => ?_) (fun cdv A outer s H vs Q E hr h => ?_)
  · obtain ⟨p, c, n, u, rfl, _⟩ := h
    rfl
  · obtain ⟨p, c, n, u, rfl, hP, hn, h1, h2, k⟩ := h
    have nd := cLDraw.nd
    obtain ⟨cells, i, cur, hp, hi, hc, hl⟩ := id hP
    refine ⟨_, pss_cons (ps_if (pt_cmpR op_lt (pe_ix ix_list (pv 0) pe_int (fun _ _ => rfl)) (pv 1) (nomark _)) (pss_one (ps_asg (pe_d Z.LNext G hr rfl (pa_cons (pv 0) pa_nil)) (pg_sub (pv 0) pe_int set_list))) pss_nil)
      (pss_cons (ps_set (i := 2) nd rfl (Or.inl rfl) (pe_op op_mod (pe_ix ix_list (pv 0) pe_int (fun _ _ => rfl)) (pv 1)))
      (pss_cons (ps_asg (pe_op op_fdiv (pe_ix ix_list (pv 0) pe_int (fun _ _ => rfl)) (pv 1)) (pg_sub (pv 0) pe_int set_list))
      (pss_one (ps_ret (pv 2))))), ?_⟩
    refine ⟨_, rfl, p, _, _, _, rfl, rfl, SqL.of hp, atI_nat (j := 2) rfl, _, rfl, _, _, rfl, rfl, _, rfl, ?_⟩
    refine ite2 (fun _ => ?_) (fun _ => ?_)
    · refine ⟨_, rfl, p, c, n, rfl, hP, hn, fun H1 z eB1 hP1 => ?_⟩
      obtain ⟨cells1, i1, cur1, hp1, hi1, hc1, hl1⟩ := hP1
      refine ⟨_, rfl, p, _, _, 2, rfl, rfl, hp1, rfl, ?_⟩
      have eB : But p H (upd H1 p (.lst [.ref c, .int (i1 : Nat), .int z])) := eB1.trans (But.upd _)
      have hq1 : (upd H1 p (.lst [.ref c, .int (i1 : Nat), .int z])) p = some (.lst [.ref c, .int (i1 : Nat), .int z]) := upd_same
      have hc1 : (upd H1 p (.lst [.ref c, .int (i1 : Nat), .int z])) c = some (.lst (cells1.map V.int)) := by rw [upd_ne (pen_apart hp1 hc1)]; exact hc1
      show L2.Ends.nx _ _ (upd H1 p (.lst [.ref c, .int (i1 : Nat), .int z]))
      generalize upd H1 p (.lst [.ref c, .int (i1 : Nat), .int z]) = H2 at eB hq1 hc1 ⊢
      refine nx_of ?_
      refine ⟨_, rfl, p, _, _, _, rfl, rfl, SqL.of hq1, atI_nat (j := 2) rfl, _, rfl, _, _, rfl, rfl, (by show (0 : Int) < u; omega), ?_⟩
      refine nx_of ?_
      refine ⟨_, rfl, p, _, _, _, rfl, rfl, SqL.of hq1, atI_nat (j := 2) rfl, _, rfl, _, _, rfl, rfl, ⟨by omega, by omega⟩, _, rfl, p, _, _, 2, rfl, rfl, hq1, rfl, ?_⟩
      refine ⟨_, rfl, k _ _ (Int.emod_nonneg _ (by omega)) (Int.emod_lt_of_pos _ (by omega)) (eB.trans (But.upd _)) ⟨cells1, i1, _, upd_same, hi1, by rw [upd_ne (pen_apart hq1 hc1)]; exact hc1, hl1⟩⟩
    · have eB := But.refl p H
      have hq1 := hp
      have hc1 := hc
      have hl1 := hl
      have hi1 : i ≤ n + 1 := by omega
      refine nx_of ?_
      refine ⟨_, rfl, p, _, _, _, rfl, rfl, SqL.of hq1, atI_nat (j := 2) rfl, _, rfl, _, _, rfl, rfl, (by show (0 : Int) < u; omega), ?_⟩
      refine nx_of ?_
      refine ⟨_, rfl, p, _, _, _, rfl, rfl, SqL.of hq1, atI_nat (j := 2) rfl, _, rfl, _, _, rfl, rfl, ⟨by omega, by omega⟩, _, rfl, p, _, _, 2, rfl, rfl, hq1, rfl, ?_⟩
      refine ⟨_, rfl, k _ _ (Int.emod_nonneg _ (by omega)) (Int.emod_lt_of_pos _ (by omega)) (eB.trans (But.upd _)) ⟨cells, i, _, upd_same, hi1, by rw [upd_ne (pen_apart hq1 hc1)]; exact hc1, hl1⟩⟩
/-! _law_pen -/
theorem cut60 (ns : List Int) : cutV (ns.map V.int) none (some 60) = (ns.take 60).map V.int := by
  unfold cutV
  have e : HT.sIx (ns.map V.int).length (ns.map V.int).length (some (60 : Int)) = min 60 (ns.map V.int).length := HT.sIx_nat _ _ 60
  rw [HT.sIx_none, e, List.drop_zero, List.map_take, Nat.sub_zero]
  rw [List.take_eq_take_iff, List.length_map]
  omega
def spLPen (K : PySem.W.Frag) : Sp := fun vs H Q _ => ∃ (a : Addr) (ns : List Int), vs = [.ref a] ∧ SqL K H a (ns.map V.int) ∧ ns.length ≤ 63 ∧ ∀ H' p c, Same H H' → H p = none → H c = none → PenB H' p c 0 → Q (.ref p) H'
theorem Tp.lPen (Z : Tp K mg) : FnOk P w K mg base CX0 1 Z.gLPen Z.dLPen ["_law_script"] (spLPen K) := by
  have T := Z.nm
  refine Z.LPen.fn.ok cLPen (fun vs H Q E h => ?_) (fun cdv A outer s H vs Q E hr h => ?_)
  · obtain ⟨a, ns, rfl, _⟩ := h
    rfl
  · obtain ⟨a, ns, rfl, hs, hl, k⟩ := h
    refine ⟨_, pss_one (ps_ret (pe_lst (pa_cons (pe_callTy call_list_of (by rfl) T.list boot_list (pa_cons (pe_slice sl_list (pv 0) po_none (po_some pe_int)) pa_nil)) (pa_cons pe_int (pa_cons pe_int pa_nil))))), ?_⟩
    refine ⟨_, rfl, 60, rfl, a, _, rfl, hs, fun q nq => ?_⟩
    rw [cut60]
    have e1 : Same H (upd H q (.lst ((ns.take 60).map V.int))) := same_upd nq
    refine ⟨q, _, rfl, .inl (SqL.of upd_same), fun c nc => ?_⟩
    have nqc : q ≠ c := fun z => by rw [← z, upd_same] at nc; cases nc
    have e2 := e1.trans (same_upd (o := .lst ((ns.take 60).map V.int)) nc)
    refine ⟨(by show 3 ≤ sizeLine; decide), fun p hp => ?_⟩
    have ncp : c ≠ p := fun z => by rw [← z, upd_same] at hp; cases hp
    refine k _ p c (e2.trans (same_upd hp)) (e2.free hp) (e1.free nc) ⟨ns.take 60, 0, 0, upd_same, Nat.le_refl _, by rw [upd_ne ncp, upd_same], List.length_take_le _ _⟩
theorem map_eraseIdx {α β : Type} (f : α → β) : ∀ (l : List α) (k : Nat), (l.map f).eraseIdx k = (l.eraseIdx k).map f
  | [], _ => rfl
  | _ :: _, 0 => rfl
  | a :: t, k + 1 => by
    show f a :: (t.map f).eraseIdx k = f a :: (t.eraseIdx k).map f
    rw [map_eraseIdx f t k]
/-! _law_some: some names of a pool, all different -/
theorem erase_perm {α : Type} : ∀ {l : List α} {k : Nat} {x : α}, l[k]? = some x → ∀ acc : List α, (acc ++ [x] ++ l.eraseIdx k).Perm (acc ++ l)
  | [], k, x, h, acc => by simp at h
  | a :: t, 0, x, h, acc => by
    have e : a = x := Option.some.inj h
    subst e
    simp
  | a :: t, k + 1, x, h, acc => by
    have ih := erase_perm (l := t) (k := k) (x := x) h (acc ++ [a])
    have e : (a :: t).eraseIdx (k + 1) = a :: t.eraseIdx k := rfl
    rw [e]
    have p1 : (acc ++ [x] ++ a :: t.eraseIdx k).Perm (acc ++ [a] ++ [x] ++ t.eraseIdx k) := by
      have : (acc ++ [x] ++ a :: t.eraseIdx k) = acc ++ ([x] ++ [a]) ++ t.eraseIdx k := by simp
      rw [this]
      have : (acc ++ [a] ++ [x] ++ t.eraseIdx k) = acc ++ ([a] ++ [x]) ++ t.eraseIdx k := by simp
      rw [this]
      exact ((List.Perm.swap a x []).append_left acc).append_right _
    have e2 : acc ++ [a] ++ t = acc ++ a :: t := by simp
    rw [e2] at ih
    exact p1.trans ih
def spLSome (K : PySem.W.Frag) : Sp := fun vs H Q _ => ∃ (p c q : Addr) (n m : Nat) (pool : List Str), vs = [.ref p, .ref q, .int (m : Nat)] ∧ PenB H p c n ∧ n < 2 ^ 49 ∧ m ≤ 1000 ∧ SqL K H q (pool.map V.str) ∧ q ≠ p ∧ pool.length ≤ 1000 ∧
  ∀ (H' : Hp) (r : Addr) (ys : List Str), But p H H' → H r = none → PenB H' p c (n + m + 1) → H' r = some (.lst (ys.map V.str)) → ys.length ≤ m → (∃ zs, (ys ++ zs).Perm pool) → Q (.ref r) H'
theorem Tp.lSome (Z : Tp K mg) : FnOk P w K mg base CX0 3 Z.gLSome Z.dLSome ["_law_pen_here", "_law_pool", "_law_most"] (spLSome K) := by
  have T := Z.nm
  have G := Z.lDraw (P := P) (w := w) (base := base)
  refine Z.LSome.fn.ok cLSome (fun vs H Q E h => ?_) (fun cdv A outer s H vs Q E hr h => ?_)
  · obtain ⟨p, c, q, n, m, pool, rfl, _⟩ := h
    rfl
  · obtain ⟨p, c, q, n, m, pool, rfl, hP, hn, hm, hq, nqp, hl, k⟩ := h
    have nd := cLSome.nd
    have big : (1000000 : Nat) < sizeLine := by decide
    refine ⟨_, pss_cons (ps_set (i := 3) nd rfl (Or.inr rfl) (pe_callTy call_list_of (by rfl) T.list boot_list (pa_cons (pv 1) pa_nil)))
      (pss_one (ps_ret (pe_lc (own := [("_law_turn", 4)]) (g := gName 4) (tt := tYes) rfl nd
        (pi_range1 rfl T.range (pa_cons (pe_d Z.LDraw G hr rfl (pa_cons (pv 0) (pa_cons (pe_op op_add (pe_callB (call_min2 rfl) rfl T.min boot_min (pa_cons (pv 2) (pa_cons (pe_callB call_len_seq (by rfl) T.len PySem.boot_len (pa_cons (pv 3) pa_nil)) pa_nil))) pe_int) pa_nil))) pa_nil))
        (blkOk_by (N := nLSome) (sc := defScope sLSome) (by decide +kernel)) (fun _ _ _ _ _ => pg_name (i := 4) nd rfl (Or.inl rfl)) (fun _ _ _ _ _ => pts_nil)
        (fun _ _ _ _ _ => pe_bmB K PySem.F.plainAttrs_list PySem.F.slot_list_pop PySem.F.type_list_pop mt_popAt (pv 3) (pa_cons (pe_d Z.LDraw G hr rfl (pa_cons (pv 0) (pa_cons (pe_callB (call_lenB K) (by rfl) T.len PySem.boot_len (pa_cons (pv 3) pa_nil)) pa_nil))) pa_nil))))), ?_⟩
    refine ⟨_, rfl, q, _, rfl, .inl hq, fun l nl => ?_⟩
    have e1 : Same H (upd H l (.lst (pool.map V.str))) := same_upd nl
    have hP1 := hP.same e1
    have hl1 : (upd H l (.lst (pool.map V.str))) l = some (.lst (pool.map V.str)) := upd_same
    have npl : p ≠ l := fun z => by
      obtain ⟨_, _, _, h1, _⟩ := hP
      rw [z, nl] at h1
      cases h1
    generalize upd H l (.lst (pool.map V.str)) = H1 at e1 hP1 hl1 ⊢
    have hu1 : (1 : Int) ≤ (if ((pool.map V.str).length : Nat) < ((m : Nat) : Int) then (((pool.map V.str).length : Nat) : Int) else (m : Nat)) + 1 := by split <;> omega
    have hu2 : (if ((pool.map V.str).length : Nat) < ((m : Nat) : Int) then (((pool.map V.str).length : Nat) : Int) else (m : Nat)) + 1 < 1000000 := by rw [List.length_map]; split <;> omega
    have hu3 : ∀ d : Int, d < (if ((pool.map V.str).length : Nat) < ((m : Nat) : Int) then (((pool.map V.str).length : Nat) : Int) else (m : Nat)) + 1 → d ≤ m ∧ d ≤ pool.length := fun d h => by rw [List.length_map] at h; split at h <;> omega
    refine ⟨_, rfl, _, rfl, _, rfl, l, _, rfl, .inl (SqL.of hl1), _, _, rfl, _, _, rfl, rfl, p, c, n, _, rfl, hP1, by omega, hu1, hu2, fun H2 d d0 d1 eB hP2 => ?_⟩
    obtain ⟨dm, dl⟩ := hu3 d d1
    refine ⟨d, rfl, by omega, by omega, fun D hD => ?_⟩
    have hl2 : H2 l = _ := eB l _ npl.symm hl1
    have nlD : l ≠ D := fun z => by rw [← z, hl2] at hD; cases hD
    have npD : D ≠ p := fun z => by
      obtain ⟨_, _, _, h1, _⟩ := hP2
      rw [← z, hD] at h1
      cases h1
    have D0 : H D = none := by
      cases e : H D with
      | none => rfl
      | some o =>
        rw [eB D o npD (e1 _ _ e)] at hD
        cases hD
    refine lc_it walk_range (fun i H' => ∃ ys zs : List Str, ys.length = i ∧ (ys ++ zs).Perm pool ∧ But p H H' ∧ H' D = some (.lst (ys.map V.str)) ∧ H' l = some (.lst (zs.map V.str)) ∧ PenB H' p c (n + 1 + i))
      ⟨[], pool, rfl, by simp, fun c o hc e => ?_, upd_same, by rw [upd_ne nlD]; exact hl2, hP2.same (same_upd hD)⟩ (fun _ _ _ _ => trivial) ?_ ?_
    · rw [upd_ne (ne_of_none e D0)]
      exact eB c o hc (e1 _ _ e)
    · rintro i x H3 H3' hi ⟨ys, zs, hys, hperm, eB3, hD3, hl3, hP3⟩ ⟨rfl, rfl⟩
      have hlen := hperm.length_eq
      rw [List.length_append] at hlen
      have hidx : i < d.toNat := hi
      refine ⟨rfl, ?_⟩
      unfold tYes
      dsimp only
      rw [if_pos rfl]
      refine ⟨_, rfl, .inl ⟨rfl, _, SqL.of hl3⟩, _, rfl, _, rfl, l, _, rfl, .inl (SqL.of hl3), p, c, n + 1 + i, _, rfl, hP3, by omega, by rw [List.length_map]; omega, by rw [List.length_map]; omega, fun H4 d' d0' d1' eB4 hP4 => ?_⟩
      rw [List.length_map] at d1'
      obtain ⟨j, rfl⟩ := Int.eq_ofNat_of_zero_le d0'
      have hj : j < zs.length := by omega
      have hl4 := eB4 l _ npl.symm hl3
      have hD4 := eB4 D _ npD hD3
      refine ⟨l, zs.map V.str, (j : Int), j, .str zs[j], rfl, rfl, hl4, by omega, by omega, ?_, by rw [List.getElem?_map, List.getElem?_eq_getElem hj]; rfl, ?_⟩
      · unfold seqIndex?
        rw [List.length_map]
        have h1 : ¬ ((j : Int) < 0) := by omega
        simp only [h1, if_false]
        rw [if_pos (by simp [hj])]
        rfl
      · refine ⟨ys.map V.str, by rw [upd_ne nlD.symm]; exact hD4, by rw [List.length_map]; omega, ys ++ [zs[j]], zs.eraseIdx j, by rw [List.length_append, hys]; rfl, (erase_perm (List.getElem?_eq_getElem hj) ys).trans hperm, fun c o hc e => ?_, by rw [upd_same, List.map_append]; rfl, ?_, ?_⟩
        · have ncl := ne_of_none e nl
          rw [upd_ne (ne_of_none e D0), upd_ne ncl]
          exact eB4 c o hc (eB3 c o hc e)
        · rw [upd_ne nlD, upd_same, map_eraseIdx]
        · obtain ⟨cells, i', cur, h1, h2, h3, h4⟩ := hP4
          obtain ⟨_, _, _, _, _, hc0, _⟩ := hP
          exact ⟨cells, i', cur, by rw [upd_ne npD.symm, upd_ne npl]; exact h1, by omega, by rw [upd_ne (ne_of_none hc0 D0), upd_ne (ne_of_none hc0 nl)]; exact h3, h4⟩
    · rintro H3 ⟨ys, zs, hys, hperm, eB3, hD3, hl3, hP3⟩
      exact k H3 D ys eB3 D0 (hP3.le (by omega)) hD3 (by omega) ⟨zs, hperm⟩
end
end K73
set_option maxHeartbeats 200000
/-! Comprehensions that draw; dict of pairs. -/
namespace K73
open PySem PySem.Spec PyProof.Rows L2
theorem But.seq {K : PySem.W.Frag} {p a : Addr} {H H' : Hp} {xs : List V} (e : But p H H') (n : a ≠ p) (h : SqL K H a xs) : SqL K H' a xs := by
  rcases h with (h | ⟨o, h⟩) | h
  · exact .inl (.inl (e _ _ n h))
  · exact .inl (.inr ⟨o, e _ _ n h⟩)
  · exact .inr h
theorem PenB.at {H : Hp} {p c : Addr} {n : Nat} (h : PenB H p c n) : ∃ o, H p = some o := let ⟨_, _, _, h1, _⟩ := h; ⟨_, h1⟩
theorem PenB.apart {H : Hp} {p c D : Addr} {n : Nat} (h : PenB H p c n) (hD : H D = none) : D ≠ p := fun z => by
  obtain ⟨o, h1⟩ := h.at
  rw [← z, hD] at h1
  cases h1
theorem PenB.cell {H : Hp} {p c : Addr} {n : Nat} (h : PenB H p c n) : (∃ o, H c = some o) ∧ c ≠ p := let ⟨_, _, _, h1, _, h3, _⟩ := h; ⟨⟨_, h3⟩, pen_apart h1 h3⟩
theorem PenB.upd {H : Hp} {p c D : Addr} {n : Nat} {o : HO} (h : PenB H p c n) (h1 : D ≠ p) (h2 : D ≠ c) : PenB (upd H D o) p c n :=
  let ⟨cells, i, cur, q1, q2, q3, q4⟩ := h; ⟨cells, i, cur, by rw [upd_ne h1.symm]; exact q1, q2, by rw [upd_ne h2.symm]; exact q3, q4⟩
theorem But.put {p D : Addr} {H H' : Hp} {o : HO} (e : But p H H') (h : H D = none) : But p H (L2.upd H' D o) := fun b u n q => by rw [upd_ne (ne_of_none q h)]; exact e b u n q
theorem But.free {p l : Addr} {H H' : Hp} (e : But p H H') (n : l ≠ p) (h : H' l = none) : H l = none := by
  cases q : H l with
  | none => rfl
  | some o => rw [e l o n q] at h; cases h
theorem zip_fun : ∀ {ns : List Str} {vs : List Int}, ns.Nodup → ns.length = vs.length → ∃ f : Str → Int, vs = ns.map f
  | [], [], _, _ => ⟨fun _ => 0, rfl⟩
  | n :: ns, v :: vs, nd, h => by
    obtain ⟨h1, h2⟩ := List.nodup_cons.mp nd
    obtain ⟨f, hf⟩ := zip_fun (ns := ns) (vs := vs) h2 (Nat.succ.inj h)
    refine ⟨fun x => if x = n then v else f x, ?_⟩
    rw [List.map_cons, if_pos rfl, hf]
    congr 1
    exact List.map_congr_left fun x hx => (if_neg (fun e : x = n => h1 (by rw [← e]; exact hx))).symm
theorem zip_self_map {f : Str → Int} : ∀ ns : List Str, ns.zip (ns.map f) = ns.map fun n => (n, f n)
  | [] => rfl
  | n :: ns => by rw [List.map_cons, List.zip_cons_cons, zip_self_map ns, List.map_cons]
theorem paired_of_map {α β γ : Type} {g : β → γ} {F : α → γ → Prop} : ∀ {xs : List α} {ys : List β}, Paired F xs (ys.map g) → Paired (fun x y => F x (g y)) xs ys
  | _, [], .nil => .nil
  | _, _ :: _, .cons a t => .cons a (paired_of_map t)
theorem lc_draws {K : PySem.W.Frag} {a p c : Addr} {n0 : Nat} {nyms : List Str} {te : TE} {j : Nat} {σ : L2.St} {H1 : Hp} {D : Addr} {Qd : Hp → Prop} (hl : SqL K H1 a (nyms.map V.str)) (nap : a ≠ p) (hD : H1 D = none) (hP : PenB H1 p c n0) (nd : nyms.Nodup) (few : nyms.length ≤ 1000) (ok : Str → Int → Prop)
    (he : ∀ i nym H' (Qe : VK), nyms[i]? = some nym → But p H1 H' → PenB H' p c (n0 + i) → (∀ H4 v, But p H' H4 → PenB H4 p c (n0 + i + 1) → ok nym v → ∀ t, H4 t = none → Qe (.ref t) (upd H4 t (.tup [.str nym, .int v]))) → te (σ.set j (some (.str nym))) H' Qe)
    (hd : ∀ H' (ts : List Addr) (f : Str → Int), But p H1 H' → PenB H' p c (n0 + nyms.length) → H' D = some (.lst (ts.map V.ref)) → Paired (fun t nym => H' t = some (.tup [.str nym, .int (f nym)])) ts nyms → (∀ nym ∈ nyms, ok nym (f nym)) → Qd H') :
    ∃ W : Nat → Nat → Hp → Prop, (∃ m, W 0 m (upd H1 D (.lst []))) ∧ ∀ i m H, W i m H →
      ((Itl K a).stop i H ∧ Qd H) ∨ ((Itl K a).go i H ∧ ∃ Nx : Hp → Prop, (∀ H', Nx H' → ∃ m', m' < m ∧ W (i + 1) m' H') ∧ ∀ x H', (Itl K a).yld i H x H' → gName j x (wipe σ [j]) H' fun σ2 H2 => wipe σ2 [j] = wipe σ [j] ∧ tYes σ2 H2 fun b H3 =>
        if b = true then te σ2 H3 fun y H4 => ∃ acc, H4 D = some (.lst acc) ∧ acc.length < sizeLine ∧ Nx (upd H4 D (.lst (acc ++ [y]))) else Nx H3) := by
  have npD := hP.apart hD
  have ncD : D ≠ c := fun z => by
    obtain ⟨⟨o, h⟩, _⟩ := hP.cell
    rw [← z, hD] at h
    cases h
  have big : (1000000 : Nat) < sizeLine := by decide
  refine lc_it walk_list (fun i H' => ∃ (ts : List Addr) (vs : List Int), But p H1 H' ∧ PenB H' p c (n0 + i) ∧ H' D = some (.lst (ts.map V.ref)) ∧ vs.length = i ∧ Paired (fun t (q : Str × Int) => H' t = some (.tup [.str q.1, .int q.2])) ts ((nyms.take i).zip vs) ∧ ∀ q ∈ (nyms.take i).zip vs, ok q.1 q.2)
    ⟨[], [], (But.refl p H1).put hD, (hP.le (Nat.le_refl _)).upd npD ncD, upd_same, rfl, .nil, fun q h => by simp at h⟩ (fun i H' _ ⟨_, _, e, _⟩ => e.seq nap hl) ?_ ?_
  · rintro i x H' H'' hi ⟨ts, vs, eB, hP', hD', hv, hp, hok⟩ ⟨rfl, hx⟩
    obtain ⟨nym, hq, rfl⟩ : ∃ n, nyms[i]? = some n ∧ x = .str n := by
      rw [List.getElem?_map] at hx
      cases e : nyms[i]? with
      | none => rw [e] at hx; cases hx
      | some n => rw [e] at hx; exact ⟨n, rfl, (Option.some.inj hx).symm⟩
    have hil : i < nyms.length := (List.getElem?_eq_some_iff.mp hq).1
    have hts := paired_len hp
    rw [List.length_zip, List.length_take] at hts
    refine ⟨by rw [wipe_one, wipe_set], ?_⟩
    unfold tYes
    dsimp only
    rw [if_pos rfl, wipe_one]
    refine he i nym H'' _ hq eB hP' fun H4 v eB4 hP4 hv4 t ht => ?_
    have ntD : t ≠ D := fun z => by
      rw [z, eB4 D _ npD hD'] at ht
      cases ht
    have ntp := hP4.apart ht
    have hD5 : (upd H4 t (.tup [.str nym, .int v])) D = some (.lst (ts.map V.ref)) := by rw [upd_ne ntD.symm]; exact eB4 D _ npD hD'
    have hz : (nyms.take (i + 1)).zip (vs ++ [v]) = (nyms.take i).zip vs ++ [(nym, v)] := by
      rw [List.take_add_one, hq, List.zip_append (by rw [List.length_take]; omega)]
      rfl
    refine ⟨ts.map V.ref, hD5, by rw [List.length_map]; omega, ts ++ [t], vs ++ [v], ?_, ?_, by rw [upd_same, List.map_append]; rfl, by rw [List.length_append, hv]; rfl, ?_, ?_⟩
    · refine But.put ?_ hD
      exact eB.trans (eB4.trans (Same.but (same_upd ht) p))
    · refine PenB.upd ?_ npD ncD
      exact hP4.same (same_upd ht)
    · rw [hz]
      have moved : ∀ b o, b ≠ D → b ≠ p → H'' b = some o → (upd (upd H4 t (.tup [.str nym, .int v])) D (.lst (ts.map V.ref ++ [.ref t]))) b = some o := fun b o h1 h2 h3 => by
        rw [upd_ne h1]
        exact same_upd ht _ _ (eB4 b o h2 h3)
      refine paired_snoc (paired_mono (fun b q h => moved b _ (ne_of h hD' (by intro z; cases z)) ?_ h) hp) ?_
      · intro z
        obtain ⟨_, _, _, q1, _⟩ := hP'
        rw [z, q1] at h
        cases h
      · rw [upd_ne ntD, upd_same]
    · rw [hz]
      intro q hqq
      rcases List.mem_append.mp hqq with z | z
      · exact hok q z
      · rw [List.mem_singleton.mp z]
        exact hv4
  · rintro H' ⟨ts, vs, eB, hP', hD', hv, hp, hok⟩
    rw [List.length_map] at hv hP' hp hok
    rw [List.take_length] at hp hok
    obtain ⟨f, hf⟩ := zip_fun nd hv.symm
    have hz : nyms.zip vs = nyms.map fun n => (n, f n) := by
      rw [hf]
      exact zip_self_map nyms
    rw [hz] at hp hok
    exact hd H' ts f eB hP' hD' (paired_of_map (g := fun n => (n, f n)) (F := fun t (q : Str × Int) => H' t = some (.tup [.str q.1, .int q.2])) hp) fun nym h => hok _ (List.mem_map.mpr ⟨nym, h, rfl⟩)
/-- dict of the pairs, the keys all different -/
theorem merge_new : ∀ (more acc : List (Key × V)), ((acc ++ more).map (·.1)).Nodup → mergeK acc more = acc ++ more
  | [], acc, _ => by unfold mergeK; simp
  | kv :: more, acc, h => by
    have e : acc ++ kv :: more = acc ++ [kv] ++ more := by simp
    have h' := h
    rw [e] at h'
    have hn : kv.1 ∉ acc.map (·.1) := fun z => by
      rw [List.map_append, List.nodup_append] at h
      exact h.2.2 _ z _ (List.mem_map.mpr ⟨kv, List.mem_cons_self, rfl⟩) rfl
    have ih := merge_new more (acc ++ [kv]) h'
    rw [e]
    have ep : putK acc kv.1 kv.2 = acc ++ [kv] := by rw [putK_new _ (val_out hn)]
    show mergeK (putK acc kv.1 kv.2) more = _
    rw [ep]
    exact ih
theorem merge_pt {ns : List Str} {f : Str → Int} (nd : ns.Nodup) : mergeK [] (pt ns f) = pt ns f := by
  have := merge_new (pt ns f) [] (by
    rw [List.nil_append]
    unfold pt
    rw [List.map_map]
    exact List.Pairwise.map _ (fun a b h e => h (Sum.inr.inj e)) nd)
  rwa [List.nil_append] at this
theorem pairs_pt {K : PySem.W.Frag} {H : Hp} {ts : List Addr} {ns : List Str} {f : Str → Int} (h : Paired (fun t nym => H t = some (.tup [.str nym, .int (f nym)])) ts ns) : Paired (fun p (kv : Key × V) => SqT K H p [kV kv.1, kv.2]) ts (pt ns f) := by
  unfold pt
  induction h with
  | nil => exact .nil
  | cons a t ih => exact .cons (SqT.of a) ih
end K73
set_option maxHeartbeats 200000
namespace K73
open PySem PySem.Spec PyProof.Rows L2
abbrev pool9 : List Str := ["a", "ab", "b", "c", "none", "x", "abcdefgh", "settings", "zz"]
theorem pool9_nd : pool9.Nodup := by decide +kernel
instance (z : Str) : Decidable (OkName z) := inferInstanceAs (Decidable (1 ≤ z.length ∧ z.length ≤ 8 ∧ ∀ c ∈ z.cps.toList, c ∈ letters.cps.toList))
theorem pool9_ok : ∀ z ∈ pool9, OkName z := by decide +kernel
/-- names as the law draws them -/
structure OkNyms (ns : List Str) : Prop where
  nd : ns.Nodup
  ok : ∀ z ∈ ns, OkName z
  few : ns.length ≤ 3
section
variable {P : Program} {w : World} {K : PySem.W.Frag} {mg : Str → Option Value} {base : Heap}
def spLNyms : Sp := fun vs H Q _ => ∃ (p c : Addr) (n : Nat), vs = [.ref p, .int 3] ∧ PenB H p c n ∧ n < 2 ^ 48 ∧
  ∀ (H' : Hp) (r : Addr) (ys : List Str), But p H H' → H r = none → PenB H' p c (n + 4) → H' r = some (.lst (ys.map V.str)) → OkNyms ys → Q (.ref r) H'
theorem Tp.lNyms (Z : Tp K mg) : FnOk P w K mg base CX0 4 Z.gLNyms Z.dLNyms ["_law_pen_here", "_law_most"] spLNyms := by
  have T := Z.nm
  have G := Z.lSome (P := P) (w := w) (base := base)
  refine Z.LNyms.fn.ok cLNyms (fun vs H Q E h => ?_) (fun cdv A outer s H vs Q E hr h => ?_)
  · obtain ⟨p, c, n, rfl, _⟩ := h
    rfl
  · obtain ⟨p, c, n, rfl, hP, hn, k⟩ := h
    refine ⟨_, pss_one (ps_ret (pe_d Z.LSome G hr rfl (pa_cons (pv 0) (pa_cons (pe_lst (pa_cons pe_str (pa_cons pe_str (pa_cons pe_str (pa_cons pe_str (pa_cons pe_str (pa_cons pe_str (pa_cons pe_str (pa_cons pe_str (pa_cons pe_str pa_nil)))))))))) (pa_cons (pv 1) pa_nil))))), ?_⟩
    refine ⟨_, rfl, (by show 9 ≤ sizeLine; decide), fun q hq => ⟨_, rfl, p, c, q, n, 3, pool9, rfl, hP.same (same_upd hq), by omega, by decide, SqL.of upd_same, hP.apart hq, by decide, fun H' r ys eB r0 hP' hr' hys hperm => ?_⟩⟩
    obtain ⟨zs, hz⟩ := hperm
    have r0' : H r = none := (same_upd hq).free r0
    have hsub : ∀ y ∈ ys, y ∈ pool9 := fun y hy => hz.mem_iff.mp (List.mem_append_left _ hy)
    have hnd : (ys ++ zs).Nodup := hz.nodup_iff.mpr pool9_nd
    exact k H' r ys ((Same.but (same_upd hq) p).trans eB) r0' hP' hr' ⟨(List.nodup_append.mp hnd).1, fun y hy => pool9_ok y (hsub y hy), hys⟩
/-! _law_goal -/
def spLGoal : Sp := fun vs H Q _ => ∃ (p c a : Addr) (n : Nat) (ns : List Str), vs = [.ref p, .ref a] ∧ PenB H p c n ∧ n < 2 ^ 48 ∧ H a = some (.lst (ns.map V.str)) ∧ a ≠ p ∧ OkNyms ns ∧
  ∀ (H' : Hp) (r : Addr) (f : Str → Int), But p H H' → H r = none → PenB H' p c (n + 4) → PtAt H' r ns f → (∀ x ∈ ns, -900 ≤ f x ∧ f x ≤ 900) → Q (.ref r) H'
theorem Tp.lGoal (Z : Tp K mg) : FnOk P w K mg base CX0 3 Z.gLGoal Z.dLGoal ["_law_pen_here", "_law_nyms_here"] spLGoal := by
  have T := Z.nm
  have G := Z.lDraw (P := P) (w := w) (base := base)
  refine Z.LGoal.fn.ok cLGoal (fun vs H Q E h => ?_) (fun cdv A outer s H vs Q E hr h => ?_)
  · obtain ⟨p, c, a, n, ns, rfl, _⟩ := h
    rfl
  · obtain ⟨p, c, a, n, ns, rfl, hP, hn, ha, nap, ok, k⟩ := h
    have nd := cLGoal.nd
    have fw := ok.few
    refine ⟨_, pss_cons (ps_set (i := 2) nd rfl (Or.inr rfl) (pe_ix ix_list (pe_lst (pa_cons pe_int (pa_cons pe_int (pa_cons pe_int (pa_cons pe_int pa_nil))))) (pe_d Z.LDraw G hr rfl (pa_cons (pv 0) (pa_cons pe_int pa_nil))) (fun _ _ => rfl)))
      (pss_one (ps_ret (pe_callTy (call_dictP rfl) (by rfl) T.dict boot_dict (pa_cons (pe_lc (own := [("_law_nym", 3)]) (g := gName 3) (tt := tYes) rfl nd (pi_list (pv 1)) (blkOk_by (N := nLGoal) (sc := defScope sLGoal) (by decide +kernel))
        (fun _ _ _ _ _ => pg_name (i := 3) nd rfl (Or.inl rfl)) (fun _ _ _ _ _ => pts_nil)
        (fun _ _ _ _ _ => pe_tup (pa_cons (pv 3) (pa_cons (pe_op op_sub (pe_d Z.LDraw G hr rfl (pa_cons (pv 0) (pa_cons (pv 2) pa_nil))) (pe_op op_fdiv (pv 2) pe_int)) pa_nil)))) pa_nil)))), ?_⟩
    refine ⟨(by show 4 ≤ sizeLine; decide), fun q hq => ?_⟩
    have hq1 : (upd H q (.lst [.int 3, .int 5, .int 11, .int 1801])) q = some (.lst [.int 3, .int 5, .int 11, .int 1801]) := upd_same
    have nqp := hP.apart hq
    refine ⟨_, rfl, p, c, n, 4, rfl, hP.same (same_upd hq), by omega, by decide, by decide, fun H1 d d0 d1 eB1 hP1 => ?_⟩
    have eB : But p H H1 := (Same.but (same_upd hq) p).trans eB1
    have hq2 := eB1 _ _ nqp hq1
    obtain ⟨j, rfl⟩ := Int.eq_ofNat_of_zero_le d0
    obtain ⟨wd, hwd, hw1, hw2⟩ : ∃ wd : Int, ([.int 3, .int 5, .int 11, .int 1801] : List V)[j]? = some (.int wd) ∧ 3 ≤ wd ∧ wd ≤ 1801 := by
      have hj : j < 4 := by omega
      match j, hj with
      | 0, _ => exact ⟨3, rfl, by decide, by decide⟩
      | 1, _ => exact ⟨5, rfl, by decide, by decide⟩
      | 2, _ => exact ⟨11, rfl, by decide, by decide⟩
      | 3, _ => exact ⟨1801, rfl, by decide, by decide⟩
    refine ⟨q, _, _, _, rfl, rfl, SqL.of hq2, atI_nat hwd, ?_⟩
    refine nx_of ?_
    have ha1 := eB a _ nap ha
    refine ⟨_, rfl, a, rfl, ⟨_, SqL.of ha1⟩, fun D hD => ?_⟩
    refine lc_draws (SqL.of ha1) nap hD hP1 ok.nd (by omega) (fun _ v => -900 ≤ v ∧ v ≤ 900) ?_ ?_
    · intro i nym H2 Qe hi eB2 hP2 q2
      refine ⟨_, rfl, _, rfl, _, rfl, p, c, n + 1 + i, wd, rfl, hP2, ?_, by omega, by omega, fun H3 d' d0' d1' eB3 hP3 => ?_⟩
      · have := (List.getElem?_eq_some_iff.mp hi).1
        omega
      · have hv : -900 ≤ d' - wd / 2 ∧ d' - wd / 2 ≤ 900 := by omega
        exact ⟨_, rfl, _, _, rfl, rfl, ⟨by decide, by decide⟩, _, _, rfl, rfl, (by show 2 ≤ sizeLine; decide), fun t ht => q2 H3 _ eB3 hP3 hv t ht⟩
    · intro H2 ts f eB2 hP2 hD2 hp hf
      have D0 : H D = none := eB.free (hP1.apart hD) hD
      refine ⟨D, ts, pt ns f, rfl, SqL.of hD2, pairs_pt hp, fun r hr' => ?_⟩
      rw [merge_pt ok.nd]
      have eB3 := eB.trans eB2
      refine k _ r f (eB3.trans (Same.but (same_upd hr') p)) (eB3.free (hP2.apart hr') hr') ((hP2.le (by omega)).same (same_upd hr')) upd_same hf
/-! _law_at, _law_short -/
def spLAt : Sp := spNumberAt
theorem Tp.lAt (Z : Tp K mg) : FnOk P w K mg base CX0 1 Z.gLAt Z.dLAt ["_law_held", "_law_thing"] spNumberAt := by
  refine Z.LAt.fn.ok cLAt (fun vs H Q E h => ?_) (fun cdv A outer s H vs Q E hr h => ?_)
  · obtain ⟨d, t, ns, f, rfl, _⟩ := h
    rfl
  · obtain ⟨d, t, ns, f, rfl, hd, ht, q⟩ := h
    refine ⟨_, pss_one (ps_ret (pe_ifExp (pt_cmpR op_isN (pv 1) pe_non (nomark _)) pe_int (pe_dget (hu_of hr) (pv 0) (pv 1) (fun _ _ => rfl)))), ?_⟩
    refine ⟨_, rfl, rfl, _, rfl, ?_⟩
    cases t with
    | none => exact iteT q
    | some x => exact iteF ⟨_, rfl, _, rfl, d, _, rfl, hd.get (ht x rfl), q⟩
theorem Tp.lShort (Z : Tp K mg) : FnOk P w K mg base CX0 2 Z.gLShort Z.dLShort ["_law_held", "_law_ask"] spShortBy := by
  have G := Z.lAt (P := P) (w := w) (base := base)
  refine Z.LShort.fn.ok cLShort (fun vs H Q E h => ?_) (fun cdv A outer s H vs Q E hr h => ?_)
  · obtain ⟨d, p, r, ns, f, rfl, _⟩ := h
    rfl
  · obtain ⟨d, p, r, ns, f, rfl, hd, hp, hw, q⟩ := h
    refine ⟨_, pss_one (ps_ret (pe_op op_sub (pe_op op_add (pe_d Z.LAt G hr rfl (pa_cons (pv 0) (pa_cons (pat 1) pa_nil))) (pat 1)) (pe_d Z.LAt G hr rfl (pa_cons (pv 0) (pa_cons (pat 1) pa_nil))))), ?_⟩
    refine ⟨_, rfl, _, rfl, p, _, _, _, rfl, rfl, SqT.of hp, atI_nat (j := 0) rfl, d, r.lo, ns, f, rfl, hd, hw.1, ?_⟩
    refine ⟨_, rfl, p, _, _, _, rfl, rfl, SqT.of hp, atI_nat (j := 2) rfl, _, _, rfl, rfl, ?_⟩
    exact ⟨_, rfl, _, rfl, p, _, _, _, rfl, rfl, SqT.of hp, atI_nat (j := 1) rfl, d, r.hi, ns, f, rfl, hd, hw.2, _, _, rfl, rfl, q⟩
end
end K73
set_option maxHeartbeats 200000
namespace K73
open PySem PySem.Spec PyProof.Rows L2
structure GoodR (ns : List Str) (f g : Str → Int) (r : Rul) : Prop where
  lo : r.lo ∈ things ns
  hi : r.hi ∈ things ns
  ne : r.lo ≠ r.hi
  least : -999 ≤ r.gap
  most : r.gap ≤ 999
  one : Holds f r
  two : Holds g r
theorem Rules.but {p c : Addr} {n : Nat} {H H' : Hp} {L : List (Addr × Rul)} (h : Rules H L) (hP : PenB H p c n) (e : But p H H') : Rules H' L := fun q hq => e _ _ (fun z => by
  obtain ⟨_, _, _, h1, _⟩ := hP
  have := h q hq
  unfold RuleAt at this
  rw [z, h1] at this
  cases this) (h q hq)
theorem Rules.upd {H : Hp} {F : Addr} {xs : List V} {o : HO} {L : List (Addr × Rul)} (h : Rules H L) (hF : H F = some (.lst xs)) : Rules (L2.upd H F o) L := fun q hq => by
  unfold RuleAt
  rw [upd_ne (ne_of (h q hq) hF (by intro z; cases z))]
  exact h q hq
theorem eraseIdx_nd {α : Type} : ∀ {l : List α} {k : Nat} {x : α}, l.Nodup → l[k]? = some x → ∀ y ∈ l.eraseIdx k, y ∈ l ∧ y ≠ x
  | [], _, _, _, h, _, _ => by simp at h
  | a :: t, 0, x, nd, h, y, hy => by
    have e : a = x := Option.some.inj h
    obtain ⟨h1, _⟩ := List.nodup_cons.mp nd
    have hy : y ∈ t := hy
    exact ⟨List.mem_cons_of_mem _ hy, fun z => h1 (by rw [e, ← z]; exact hy)⟩
  | a :: t, k + 1, x, nd, h, y, hy => by
    obtain ⟨h1, h2⟩ := List.nodup_cons.mp nd
    have hx : x ∈ t := List.mem_of_getElem? (show t[k]? = some x from h)
    have hy : y ∈ a :: t.eraseIdx k := hy
    rcases List.mem_cons.mp hy with z | z
    · exact ⟨by rw [z]; exact List.mem_cons_self, fun w => h1 (by rw [← z, w]; exact hx)⟩
    · obtain ⟨q1, q2⟩ := eraseIdx_nd h2 h y z
      exact ⟨List.mem_cons_of_mem _ q1, q2⟩
section
variable {P : Program} {w : World} {K : PySem.W.Frag} {mg : Str → Option Value} {base : Heap}
def spLGaps : Sp := fun vs H Q _ => ∃ (p c a gA d1 d2 : Addr) (n : Nat) (ns : List Str) (f g : Str → Int), vs = [.ref p, .ref a, .ref gA, .int 5] ∧ PenB H p c n ∧ n < 2 ^ 48 ∧ H a = some (.lst (ns.map V.str)) ∧ a ≠ p ∧ OkNyms ns ∧ H gA = some (.lst [.ref d1, .ref d2]) ∧ gA ≠ p ∧ PtAt H d1 ns f ∧ PtAt H d2 ns g ∧ d1 ≠ d2 ∧
  ∀ (H' : Hp) (r : Addr) (L : List (Addr × Rul)), But p H H' → H r = none → PenB H' p c (n + 21) → H' r = some (.lst (refs L)) → Rules H' L → L.length ≤ 10 → (∀ q ∈ L, GoodR ns f g q.2) → Q (.ref r) H'
theorem Tp.lGaps (Z : Tp K mg) : FnOk P w K mg base CX0 3 Z.gLGaps Z.dLGaps ["_law_pen_here", "_law_nyms_here", "_law_goals", "_law_most"] spLGaps := by
  have T := Z.nm
  have G := Z.lDraw (P := P) (w := w) (base := base)
  have GA := Z.lAt (P := P) (w := w) (base := base)
  refine Z.LGaps.fn.ok cLGaps (fun vs H Q E h => ?_) (fun cdv A outer s H vs Q E hr h => ?_)
  · obtain ⟨p, c, a, gA, d1, d2, n, ns, f, g, rfl, _⟩ := h
    rfl
  · obtain ⟨p, c, a, gA, d1, d2, n, ns, f, g, rfl, hP, hn, ha, nap, ok, hg, ngp, hd1, hd2, n12, k⟩ := h
    have nd := cLGaps.nd
    have fw := ok.few
    have hu := hu_of hr
    have hu0 := Nat.lt_of_succ_lt hu
    refine ⟨_, pss_cons (ps_set (i := 4) nd rfl (Or.inl rfl) (pe_lst pa_nil))
      (pss_cons (ps_set (i := 5) nd rfl (Or.inl rfl) (pe_op op_cat (pe_lst (pa_cons pe_non pa_nil)) (pe_callTy call_list_of (by rfl) T.list boot_list (pa_cons (pv 1) pa_nil))))
      (pss_cons (ps_for PassesOwn.never rfl (pi_range1 rfl T.range (pa_cons (pe_ifExp (pt_cmpR (op_neNil hu0) (pv 1) (pe_lst pa_nil) (nomark _)) (pe_d Z.LDraw G hr rfl (pa_cons (pv 0) (pa_cons (pe_op op_add (pv 3) pe_int) pa_nil))) pe_int) pa_nil)) (pg_name (i := 6) nd rfl (Or.inl rfl))
        (pss_cons (ps_set (i := 7) nd rfl (Or.inl rfl) (pe_callTy call_list_of (by rfl) T.list boot_list (pa_cons (pv 5) pa_nil)))
        (pss_cons (ps_asg (pe_tup (pa_cons (pe_bm PySem.F.plainAttrs_list PySem.F.slot_list_pop PySem.F.type_list_pop mt_popAt (pv 7) (pa_cons (pe_d Z.LDraw G hr rfl (pa_cons (pv 0) (pa_cons (pe_callB call_len_seq (by rfl) T.len PySem.boot_len (pa_cons (pv 7) pa_nil)) pa_nil))) pa_nil))
              (pa_cons (pe_ix ix_list (pv 7) (pe_d Z.LDraw G hr rfl (pa_cons (pv 0) (pa_cons (pe_callB call_len_seq (by rfl) T.len PySem.boot_len (pa_cons (pv 7) pa_nil)) pa_nil))) (fun _ _ => rfl)) pa_nil)))
            (pg_tup rfl (pgs_cons (pg_name (i := 8) nd rfl (Or.inr rfl)) (pgs_cons (pg_name (i := 9) nd rfl (Or.inr rfl)) pgs_nil))))
        (pss_cons (ps_setLc (i := 10) (own := [("_law_goal_here", 12)]) (g := gName 12) (tt := tYes) rfl nd rfl rfl (sw_true rfl rfl rfl (by decide +kernel)) (pi_list (pv 2)) (blkOk_by (N := nLGaps) (sc := defScope sLGaps) (by decide +kernel)) (fun _ _ _ _ _ => pg_name (i := 12) nd rfl (Or.inl rfl)) (fun _ _ _ _ _ => pts_nil)
            (fun _ _ _ _ _ => pe_op op_sub (pe_d Z.LAt GA (hr.mono (by decide)) rfl (pa_cons (pv 12) (pa_cons (pv 9) pa_nil))) (pe_d Z.LAt GA (hr.mono (by decide)) rfl (pa_cons (pv 12) (pa_cons (pv 8) pa_nil)))))
        (pss_cons (ps_set (i := 11) nd rfl (Or.inl rfl) (pe_callB (call_max2 rfl) (by rfl) T.max boot_max (pa_cons (pe_un un_neg pe_int) (pa_cons (pe_op op_sub (pe_callB (cr_min rfl) (by rfl) T.min boot_min (pa_cons (pv 10) pa_nil))
            (pe_ix ix_list (pe_lst (pa_cons pe_int (pa_cons pe_int (pa_cons pe_int (pa_cons pe_int (pa_cons pe_int (pa_cons pe_int pa_nil))))))) (pe_d Z.LDraw G hr rfl (pa_cons (pv 0) (pa_cons pe_int pa_nil))) (fun _ _ => rfl))) pa_nil))))
        (pss_cons (ps_if (PW.pt (pw_and (pt_cmpR op_le (pv 11) pe_int (nomark _)) (pw_and1 (pt_cmpR op_le (pv 11) (pe_callB (cr_min rfl) (by rfl) T.min boot_min (pa_cons (pv 10) pa_nil)) (nomark _)))))
            (pss_one (ps_expr (pe_bm PySem.F.plainAttrs_list PySem.F.slot_list_append PySem.F.type_list_append mt_append (pv 4) (pa_cons (pe_tup (pa_cons (pv 8) (pa_cons (pv 9) (pa_cons (pv 11) pa_nil)))) pa_nil)))) pss_nil)
        (pss_one (ps_if (PW.pt (pw_and (pt_cmpR op_eq (pe_d Z.LDraw G hr rfl (pa_cons (pv 0) (pa_cons pe_int pa_nil))) pe_int (nomark _)) (pw_and1 (pt_chain op_le op_le (pe_un un_neg pe_int) (pe_callB (cr_max rfl) (by rfl) T.max boot_max (pa_cons (pv 10) pa_nil)) pe_int))))
            (pss_one (ps_expr (pe_bm PySem.F.plainAttrs_list PySem.F.slot_list_append PySem.F.type_list_append mt_append (pv 4) (pa_cons (pe_tup (pa_cons (pv 9) (pa_cons (pv 8) (pa_cons (pe_op op_sub pe_int (pe_callB (cr_max rfl) (by rfl) T.max boot_max (pa_cons (pv 10) pa_nil))) pa_nil)))) pa_nil)))) pss_nil))))))))
      (pss_one (ps_ret (pv 4))))), ?_⟩
    have big : (1000000 : Nat) < sizeLine := by decide
    have tlen : (things ns).length = ns.length + 1 := by unfold things; rw [List.length_cons, List.length_map]
    have tnd : (things ns).Nodup := things_nodup ok.nd
    refine ⟨Nat.zero_le _, fun fA nf => ⟨(by show 1 ≤ sizeLine; decide), fun u hu1 => ⟨_, rfl, a, _, rfl, .inl (SqL.of ((same_upd hu1) _ _ ((same_upd nf) _ _ ha))), fun v hv => ?_⟩⟩⟩
    have huv : u ≠ v := fun z => by rw [← z, upd_same] at hv; cases hv
    have hfu : fA ≠ u := fun z => by rw [← z, upd_same] at hu1; cases hu1
    have hfv : fA ≠ v := fun z => by rw [← z, upd_ne hfu, upd_same] at hv; cases hv
    refine ⟨u, v, _, _, rfl, rfl, by rw [upd_ne huv, upd_same], upd_same, by rw [List.length_map]; show 1 + ns.length ≤ sizeLine; omega, fun tA ht => ?_⟩
    have hft : fA ≠ tA := fun z => by rw [← z, upd_ne hfv, upd_ne hfu, upd_same] at ht; cases ht
    have e2 : Same H (upd (upd (upd (upd H fA (.lst [])) u (.lst [.non])) v (.lst (ns.map V.str))) tA (.lst ([.non] ++ ns.map V.str))) := ((same_upd nf).trans (same_upd hu1)).trans ((same_upd hv).trans (same_upd ht))
    have t0 : H tA = none := ((same_upd nf).trans (same_upd hu1)).free ((same_upd hv).free ht)
    have hf2 : (upd (upd (upd (upd H fA (.lst [])) u (.lst [.non])) v (.lst (ns.map V.str))) tA (.lst ([.non] ++ ns.map V.str))) fA = some (.lst []) := by rw [upd_ne hft, upd_ne hfv, upd_ne hfu, upd_same]
    have ht2 : (upd (upd (upd (upd H fA (.lst [])) u (.lst [.non])) v (.lst (ns.map V.str))) tA (.lst ([.non] ++ ns.map V.str))) tA = some (.lst ((things ns).map vT)) := by rw [upd_same, ← things_vT]; rfl
    refine nx_of ?_
    generalize upd (upd (upd (upd H fA (.lst [])) u (.lst [.non])) v (.lst (ns.map V.str))) tA (.lst ([.non] ++ ns.map V.str)) = H2 at e2 hf2 ht2 ⊢
    have nfp := hP.apart nf
    have ntp := hP.apart t0
    show tIf _ _ _ _ _ _
    refine e_join (te := tIf _ _ _) (fun x H' => ∃ cnt : Nat, x = .int (cnt : Nat) ∧ cnt ≤ 5 ∧ (ns = [] → cnt = 0) ∧ But p H H' ∧ PenB H' p c (n + 1) ∧ H' fA = some (.lst []) ∧ H' tA = some (.lst ((things ns).map vT))) (fun Q' hQ => ?_) ?_
    · refine ⟨_, rfl, Nat.zero_le _, fun m hm => ⟨a, m, _, rfl, rfl, SqL.of ((same_upd hm) _ _ (e2 _ _ ha)), SqL.of upd_same, _, rfl, ?_⟩⟩
      have e3 := e2.trans (same_upd (o := .lst []) hm)
      have hf3 := (same_upd (o := .lst []) hm) _ _ hf2
      have ht3 := (same_upd (o := .lst []) hm) _ _ ht2
      generalize upd H2 m (.lst []) = H3 at e3 hf3 ht3 ⊢
      cases hns : ns with
      | nil =>
        refine ite_no rfl (hQ _ _ ⟨0, rfl, by decide, fun _ => rfl, Same.but e3 p, (hP.same e3).le (by omega), hf3, ht3⟩)
      | cons n0 nr =>
        refine ite_yes rfl ⟨_, rfl, _, rfl, _, _, rfl, rfl, p, c, n, _, rfl, hP.same e3, by omega, by decide, by decide, fun H4 d d0 d1' eB hP4 => ?_⟩
        obtain ⟨j, rfl⟩ := Int.eq_ofNat_of_zero_le d0
        exact hQ _ _ ⟨j, rfl, by omega, (fun z => by rw [hns] at z; cases z), (Same.but e3 p).trans eB, hP4, eB _ _ nfp hf3, eB _ _ ntp ht3⟩
    rintro x H3 ⟨cnt, rfl, hcnt, hcn0, eB3, hP3, hf3, ht3⟩
    refine ⟨_, rfl, by omega, by omega, ?_⟩
    have ecnt : ((cnt : Nat) : Int).toNat = cnt := Int.toNat_natCast cnt
    rw [ecnt]
    refine for_range (fun i σ H' => ∃ (u6 u7 u8 u9 u10 u11 : Option V) (L : List (Addr × Rul)), σ = [some (.ref p), some (.ref a), some (.ref gA), some (.int 5), some (.ref fA), some (.ref tA), u6, u7, u8, u9, u10, u11, none] ∧ But p H H' ∧ PenB H' p c (n + 1 + 4 * i) ∧ H' fA = some (.lst (refs L)) ∧ H' tA = some (.lst ((things ns).map vT)) ∧ Rules H' L ∧ L.length ≤ 2 * i ∧ ∀ q ∈ L, GoodR ns f g q.2)
      ⟨none, none, none, none, none, none, [], rfl, eB3, hP3.le (by omega), hf3, ht3, fun q hq => (List.not_mem_nil hq).elim, by simp, fun q hq => (List.not_mem_nil hq).elim⟩ ?_ ?_
    · rintro i σ H4 hi ⟨u6, u7, u8, u9, u10, u11, L, rfl, eB4, hP4, hf4, ht4, hR4, hL4, hgood⟩
      have hcn : ns ≠ [] := fun z => by have := hcn0 z; omega
      have hnl : 1 ≤ ns.length := by cases hz : ns with | nil => exact absurd hz hcn | cons => simp
      refine ⟨_, rfl, tA, _, rfl, .inl (SqL.of ht4), fun l nl => ?_⟩
      have nlp := hP4.apart nl
      have nfl : fA ≠ l := ne_of_none hf4 nl
      have ntl : tA ≠ l := ne_of_none ht4 nl
      have l0 : H l = none := eB4.free nlp nl
      have eB5 : But p H (upd H4 l (.lst ((things ns).map vT))) := eB4.put l0
      have hP5 := hP4.same (same_upd (o := .lst ((things ns).map vT)) nl)
      have hf5 := (same_upd (o := .lst ((things ns).map vT)) nl) _ _ hf4
      have ht5 := (same_upd (o := .lst ((things ns).map vT)) nl) _ _ ht4
      have hR5 := hR4.same (same_upd (o := .lst ((things ns).map vT)) nl)
      have hl5 : (upd H4 l (.lst ((things ns).map vT))) l = some (.lst ((things ns).map vT)) := upd_same
      refine nx_of ?_
      generalize upd H4 l (.lst ((things ns).map vT)) = H5 at eB5 hP5 hf5 ht5 hR5 hl5 ⊢
      have tl2 : ((things ns).map vT).length = ns.length + 1 := by rw [List.length_map, tlen]
      refine ⟨_, rfl, .inl ⟨rfl, _, SqL.of hl5⟩, _, rfl, _, rfl, l, _, rfl, .inl (SqL.of hl5), p, c, n + 1 + 4 * i, _, rfl, hP5, by omega, by rw [tl2]; omega, by rw [tl2]; omega, fun H6 j0 j0a j0b eB6 hP6 => ?_⟩
      obtain ⟨j, rfl⟩ := Int.eq_ofNat_of_zero_le j0a
      rw [tl2] at j0b
      have hj : j < (things ns).length := by omega
      obtain ⟨ta, hta⟩ : ∃ ta, (things ns)[j]? = some ta := ⟨_, List.getElem?_eq_getElem hj⟩
      have hl6 := eB6 l _ nlp hl5
      have sq : ∀ {m k : Nat}, k < m → seqIndex? (k : Int) m = some k := fun {m k} h => by
        unfold seqIndex?
        have h1 : ¬ ((k : Int) < 0) := by omega
        simp only [h1, if_false]
        rw [if_pos (by simp [h])]
        rfl
      refine ⟨l, (things ns).map vT, (j : Int), j, vT ta, rfl, rfl, hl6, by omega, by omega, sq (by rw [tl2]; omega), by rw [List.getElem?_map, hta]; rfl, ?_⟩
      rw [map_eraseIdx]
      have tl3 : (((things ns).eraseIdx j).map vT).length = ns.length := by rw [List.length_map, List.length_eraseIdx_of_lt hj, tlen]; omega
      have hP7 : PenB (upd H6 l (.lst (((things ns).eraseIdx j).map vT))) p c (n + 1 + 4 * i + 1) := by
        refine hP6.upd nlp fun z => ?_
        obtain ⟨⟨o, hc0⟩, _⟩ := hP.cell
        rw [← z, l0] at hc0
        cases hc0
      have eB7 : But p H (upd H6 l (.lst (((things ns).eraseIdx j).map vT))) := (eB5.trans eB6).put l0
      have hf7 : (upd H6 l (.lst (((things ns).eraseIdx j).map vT))) fA = some (.lst (refs L)) := by rw [upd_ne nfl]; exact eB6 _ _ nfp hf5
      have ht7 : (upd H6 l (.lst (((things ns).eraseIdx j).map vT))) tA = some (.lst ((things ns).map vT)) := by rw [upd_ne ntl]; exact eB6 _ _ ntp ht5
      have hR7 : Rules (upd H6 l (.lst (((things ns).eraseIdx j).map vT))) L := (hR5.but hP5 eB6).upd hl6
      have hl7 : (upd H6 l (.lst (((things ns).eraseIdx j).map vT))) l = some (.lst (((things ns).eraseIdx j).map vT)) := upd_same
      generalize upd H6 l (.lst (((things ns).eraseIdx j).map vT)) = H7 at hP7 eB7 hf7 ht7 hR7 hl7 ⊢
      refine ⟨_, rfl, _, rfl, _, rfl, l, _, rfl, .inl (SqL.of hl7), p, c, n + 1 + 4 * i + 1, _, rfl, hP7, by omega, by rw [tl3]; omega, by rw [tl3]; omega, fun H8 j1 j1a j1b eB8 hP8 => ?_⟩
      obtain ⟨j', rfl⟩ := Int.eq_ofNat_of_zero_le j1a
      rw [tl3] at j1b
      have hj' : j' < ((things ns).eraseIdx j).length := by rw [List.length_map] at tl3; omega
      obtain ⟨tb, htb⟩ : ∃ tb, ((things ns).eraseIdx j)[j']? = some tb := ⟨_, List.getElem?_eq_getElem hj'⟩
      have htbm := eraseIdx_nd tnd hta tb (List.mem_of_getElem? htb)
      have htam : ta ∈ things ns := List.mem_of_getElem? hta
      have hl8 := eB8 l _ nlp hl7
      refine ⟨l, _, _, vT tb, rfl, rfl, SqL.of hl8, atI_nat (by rw [List.getElem?_map, htb]; rfl), (by show 2 ≤ sizeLine; decide), fun t htt => ?_⟩
      have eB9 : But p H (upd H8 t (.tup [vT ta, vT tb])) := (eB7.trans eB8).trans (Same.but (same_upd htt) p)
      have hP9 := hP8.same (same_upd (o := .tup [vT ta, vT tb]) htt)
      have hf9 := (same_upd (o := .tup [vT ta, vT tb]) htt) _ _ (eB8 _ _ nfp hf7)
      have ht9 := (same_upd (o := .tup [vT ta, vT tb]) htt) _ _ (eB8 _ _ ntp ht7)
      have hR9 := (hR7.but hP7 eB8).same (same_upd (o := .tup [vT ta, vT tb]) htt)
      refine ⟨t, _, rfl, SqT.of upd_same, rfl, _, _, rfl, _, _, rfl, ⟨rfl, ?_⟩⟩
      refine nx_of ?_
      generalize upd H8 t (.tup [vT ta, vT tb]) = H9 at eB9 hP9 hf9 ht9 hR9 ⊢
      -- the spans
      have hg9 : H9 gA = some (.lst [.ref d1, .ref d2]) := eB9 _ _ ngp hg
      have apt : ∀ {d : Addr} {ff : Str → Int} {H' : Hp}, PtAt H d ns ff → But p H H' → PtAt H' d ns ff := fun {d ff H'} hd e => e _ _ (fun z => by
        obtain ⟨_, _, _, q1, _⟩ := hP
        have := hd
        unfold PtAt at this
        rw [z, q1] at this
        cases this) hd
      refine ⟨_, rfl, gA, rfl, ⟨_, SqL.of hg9⟩, fun D hD => ?_⟩
      refine lcl_map (SqL.of hg9) hD (by show 2 < sizeLine; decide) (fun x => .int (if x = .ref d1 then valAt f tb - valAt f ta else valAt g tb - valAt g ta)) ?_ ?_
      · rintro x H10 Qe hx e10 q10
        have hin : ∀ {tt : Option Str}, tt ∈ things ns → ∀ y, tt = some y → y ∈ ns := fun {tt} h y e => mem_things.mp h y e
        have e10B := eB9.trans (Same.but e10 p)
        rcases List.mem_cons.mp hx with rfl | hx
        · refine ⟨_, rfl, _, rfl, d1, tb, ns, f, rfl, apt hd1 e10B, hin htbm.1, _, rfl, _, rfl, d1, ta, ns, f, rfl, apt hd1 e10B, hin htam, _, _, rfl, rfl, ?_⟩
          have := q10 H10 (Same.refl _)
          rw [if_pos rfl] at this
          exact this
        · rcases List.mem_cons.mp hx with rfl | hx
          · refine ⟨_, rfl, _, rfl, d2, tb, ns, g, rfl, apt hd2 e10B, hin htbm.1, _, rfl, _, rfl, d2, ta, ns, g, rfl, apt hd2 e10B, hin htam, _, _, rfl, rfl, ?_⟩
            have := q10 H10 (Same.refl _)
            rw [if_neg (fun z => n12 (V.ref.inj z).symm)] at this
            exact this
          · cases hx
      · intro H10 e10 hD10
        have hs10 : H10 D = some (.lst ([valAt f tb - valAt f ta, valAt g tb - valAt g ta].map V.int)) := by
          rw [hD10]
          show some (HO.lst [.int (if V.ref d1 = V.ref d1 then _ else _), .int (if V.ref d2 = V.ref d1 then _ else _)]) = _
          rw [if_pos rfl, if_neg (fun z => n12 (V.ref.inj z).symm)]
          rfl
        have nDp := hP9.apart hD
        have nfD : fA ≠ D := ne_of_none hf9 hD
        have ntD : tA ≠ D := ne_of_none ht9 hD
        have D0 : H D = none := eB9.free nDp hD
        have eB10 : But p H H10 := eB9.trans (Same.but e10 p)
        have hP10 := hP9.same e10
        have hf10 := e10 _ _ hf9
        have ht10 := e10 _ _ ht9
        have hR10 := hR9.same e10
        refine nx_of ?_
        refine ⟨999, rfl, _, rfl, D, _, rfl, SqL.of hs10, (by show 0 < 2; decide), fun m hm1 hm2 => ⟨(by show 6 ≤ sizeLine; decide), fun b nb => ?_⟩⟩
        refine ⟨_, rfl, p, c, n + 1 + 4 * i + 2, 6, rfl, hP10.same (same_upd nb), by omega, by decide, by decide, fun H11 j2 j2a j2b eB11 hP11 => ?_⟩
        have nbp := hP10.apart nb
        have hb11 : H11 b = some (.lst [.int 0, .int 0, .int 0, .int 1, .int 3, .int 60]) := eB11 b _ nbp upd_same
        obtain ⟨j2', rfl⟩ := Int.eq_ofNat_of_zero_le j2a
        obtain ⟨ev, hev⟩ : ∃ ev : Int, ([.int 0, .int 0, .int 0, .int 1, .int 3, .int 60] : List V)[j2']? = some (.int ev) := by
          have h6 : j2' < 6 := by omega
          match j2', h6 with
          | 0, _ => exact ⟨0, rfl⟩
          | 1, _ => exact ⟨0, rfl⟩
          | 2, _ => exact ⟨0, rfl⟩
          | 3, _ => exact ⟨1, rfl⟩
          | 4, _ => exact ⟨3, rfl⟩
          | 5, _ => exact ⟨60, rfl⟩
        refine ⟨b, _, _, _, rfl, rfl, SqL.of hb11, atI_nat hev, _, _, rfl, rfl, _, _, rfl, ?_⟩
        have eBx : But p H10 H11 := (Same.but (same_upd (o := .lst [.int 0, .int 0, .int 0, .int 1, .int 3, .int 60]) nb) p).trans eB11
        have eB11' := eB10.trans eBx
        have hf11 := eBx _ _ nfp hf10
        have ht11 := eBx _ _ ntp ht10
        have hR11 := hR10.but hP10 eBx
        have hs11 := eBx _ _ nDp hs10
        have hgap : -999 ≤ (if m - ev > -999 then m - ev else -999 : Int) := by split <;> omega
        refine nx_of ?_
        show tSeq _ _ _ [some (.ref p), some (.ref a), some (.ref gA), some (.int 5), some (.ref fA), some (.ref tA), some (.int (0 + (i : Int))), some (.ref l), some (vT ta), some (vT tb), some (.ref D), some (.int (if m - ev > -999 then m - ev else -999)), none] H11
        generalize (if m - ev > -999 then m - ev else -999 : Int) = gap at hgap ⊢
        refine two_step (fun σ' H' => σ' = [some (.ref p), some (.ref a), some (.ref gA), some (.int 5), some (.ref fA), some (.ref tA), some (.int (0 + (i : Int))), some (.ref l), some (vT ta), some (vT tb), some (.ref D), some (.int gap), none] ∧
            ∃ L' : List (Addr × Rul), But p H H' ∧ PenB H' p c (n + 1 + 4 * i + 3) ∧ H' fA = some (.lst (refs L')) ∧ H' tA = some (.lst ((things ns).map vT)) ∧ Rules H' L' ∧ L'.length ≤ 2 * i + 1 ∧ (∀ q ∈ L', GoodR ns f g q.2) ∧ H' D = some (.lst ([valAt f tb - valAt f ta, valAt g tb - valAt g ta].map V.int))) (fun nx hnx => ?_) ?_
        · have skip : nx [some (.ref p), some (.ref a), some (.ref gA), some (.int 5), some (.ref fA), some (.ref tA), some (.int (0 + (i : Int))), some (.ref l), some (vT ta), some (vT tb), some (.ref D), some (.int gap), none] H11 := hnx _ _ ⟨rfl, L, eB11', hP11, hf11, ht11, hR11, by omega, hgood, hs11⟩
          refine ⟨_, rfl, _, _, rfl, rfl, _, rfl, ?_⟩
          refine ite2 (fun hle => ?_) (fun _ => iteF skip)
          have hle : gap ≤ 999 := of_decide_eq_true hle
          refine ⟨_, rfl, _, rfl, D, _, rfl, SqL.of hs11, (by show 0 < 2; decide), fun m2 hm21 hm22 => ⟨_, _, rfl, rfl, _, rfl, ?_⟩⟩
          refine ite2 (fun hle2 => ?_) (fun _ => skip)
          have hle2 : gap ≤ m2 := of_decide_eq_true hle2
          have b1 := hm22 (valAt f tb - valAt f ta) (by simp)
          have b2 := hm22 (valAt g tb - valAt g ta) (by simp)
          refine ⟨_, rfl, .inl ⟨rfl, _, SqL.of hf11⟩, _, rfl, _, rfl, _, rfl, (by show 3 ≤ sizeLine; decide), fun r hr' => ?_⟩
          have nfr : fA ≠ r := ne_of_none hf11 hr'
          have ntr : tA ≠ r := ne_of_none ht11 hr'
          have nDr : D ≠ r := ne_of_none hs11 hr'
          have nrp := hP11.apart hr'
          have r0 := eB11'.free nrp hr'
          refine ⟨fA, _, _, rfl, rfl, by rw [upd_ne nfr]; exact hf11, by rw [List.length_map]; omega, hnx _ _ ⟨rfl, L ++ [(r, ⟨ta, tb, gap⟩)], ?_, ?_, ?_, ?_, ?_, ?_, ?_, ?_⟩⟩
          · exact (eB11'.put r0).put nf
          · refine ((hP11.same (same_upd hr')).upd nfp fun z => ?_)
            obtain ⟨⟨o, hc0⟩, _⟩ := hP.cell
            rw [← z, nf] at hc0
            cases hc0
          · rw [upd_same]
            unfold refs
            rw [List.map_append]
            rfl
          · rw [upd_ne hft.symm, upd_ne ntr]
            exact ht11
          · intro q hq
            rcases List.mem_append.mp hq with z | z
            · have := hR11.same (same_upd (o := .tup [vT ta, vT tb, .int gap]) hr') q z
              unfold RuleAt at this ⊢
              rw [upd_ne (ne_of this (show (L2.upd H11 r (.tup [vT ta, vT tb, .int gap])) fA = some (.lst (refs L)) by rw [upd_ne nfr]; exact hf11) (by intro z; cases z))]
              exact this
            · rw [List.mem_singleton.mp z]
              unfold RuleAt
              rw [upd_ne nfr.symm, upd_same]
          · rw [List.length_append, List.length_singleton]
            omega
          · intro q hq
            rcases List.mem_append.mp hq with z | z
            · exact hgood q z
            · rw [List.mem_singleton.mp z]
              exact ⟨htam, htbm.1, htbm.2.symm, hgap, hle, by show valAt f ta + gap ≤ valAt f tb; omega, by show valAt g ta + gap ≤ valAt g tb; omega⟩
          · rw [upd_ne nfD.symm, upd_ne nDr]
            exact hs11
        · rintro σ' H12 ⟨rfl, L', eB12, hP12, hf12, ht12, hR12, hL12, hgood12, hs12⟩
          refine ⟨_, rfl, p, c, n + 1 + 4 * i + 3, 3, rfl, hP12, by omega, by decide, by decide, fun H13 j3 j3a j3b eB13 hP13 => ?_⟩
          have eB13' := eB12.trans eB13
          have hf13 := eB13 _ _ nfp hf12
          have ht13 := eB13 _ _ ntp ht12
          have hR13 := hR12.but hP12 eB13
          have hs13 := eB13 _ _ nDp hs12
          have hP13' : PenB H13 p c (n + 1 + 4 * (i + 1)) := hP13.le (by omega)
          refine ⟨rfl, _, rfl, ?_⟩
          refine ite2 (fun _ => ?_) (fun _ => iteF ⟨_, _, _, _, _, _, L', rfl, eB13', hP13', hf13, ht13, hR13, by omega, hgood12⟩)
          refine ⟨999, rfl, _, rfl, D, _, rfl, SqL.of hs13, (by show 0 < 2; decide), fun M hM1 hM2 => ⟨_, _, rfl, rfl, _, rfl, ?_⟩⟩
          refine ite2 (fun h1 => ?_) (fun _ => ⟨_, rfl, iteF ⟨_, _, _, _, _, _, L', rfl, eB13', hP13', hf13, ht13, hR13, by omega, hgood12⟩⟩)
          have h1 : -999 ≤ M := of_decide_eq_true h1
          refine ⟨_, _, rfl, rfl, _, rfl, ?_⟩
          refine ite2 (fun h2 => ?_) (fun _ => ⟨_, _, _, _, _, _, L', rfl, eB13', hP13', hf13, ht13, hR13, by omega, hgood12⟩)
          have h2 : M ≤ 999 := of_decide_eq_true h2
          refine ⟨_, rfl, .inl ⟨rfl, _, SqL.of hf13⟩, _, rfl, _, rfl, _, rfl, D, _, rfl, SqL.of hs13, (by show 0 < 2; decide), fun M2 hM21 hM22 => ⟨_, _, rfl, rfl, (by show 3 ≤ sizeLine; decide), fun r hr' => ?_⟩⟩
          have b1 := hM22 (valAt f tb - valAt f ta) (by simp)
          have b2 := hM22 (valAt g tb - valAt g ta) (by simp)
          have eM : M2 = M := Int.le_antisymm (hM2 _ hM21) (hM22 _ hM1)
          subst eM
          have nfr : fA ≠ r := ne_of_none hf13 hr'
          have ntr : tA ≠ r := ne_of_none ht13 hr'
          have nrp := hP13.apart hr'
          have r0 := eB13'.free nrp hr'
          refine ⟨fA, _, _, rfl, rfl, by rw [upd_ne nfr]; exact hf13, by rw [List.length_map]; omega, ⟨_, _, _, _, _, _, L' ++ [(r, ⟨tb, ta, 0 - M2⟩)], rfl, ?_, ?_, ?_, ?_, ?_, ?_, ?_⟩⟩
          · exact (eB13'.put r0).put nf
          · refine ((hP13'.same (same_upd hr')).upd nfp fun z => ?_)
            obtain ⟨⟨o, hc0⟩, _⟩ := hP.cell
            rw [← z, nf] at hc0
            cases hc0
          · rw [upd_same]
            unfold refs
            rw [List.map_append]
            rfl
          · rw [upd_ne hft.symm, upd_ne ntr]
            exact ht13
          · intro q hq
            rcases List.mem_append.mp hq with z | z
            · have := hR13.same (same_upd (o := .tup [vT tb, vT ta, .int (0 - M2)]) hr') q z
              unfold RuleAt at this ⊢
              rw [upd_ne (ne_of this (show (L2.upd H13 r (.tup [vT tb, vT ta, .int (0 - M2)])) fA = some (.lst (refs L')) by rw [upd_ne nfr]; exact hf13) (by intro z; cases z))]
              exact this
            · rw [List.mem_singleton.mp z]
              unfold RuleAt
              rw [upd_ne nfr.symm, upd_same]
          · rw [List.length_append, List.length_singleton]
            omega
          · intro q hq
            rcases List.mem_append.mp hq with z | z
            · exact hgood12 q z
            · rw [List.mem_singleton.mp z]
              exact ⟨htbm.1, htam, htbm.2, by show -999 ≤ 0 - M2; omega, by show 0 - M2 ≤ 999; omega, by show valAt f tb + (0 - M2) ≤ valAt f ta; omega, by show valAt g tb + (0 - M2) ≤ valAt g ta; omega⟩
    · rintro σ H4 ⟨u6, u7, u8, u9, u10, u11, L, rfl, eB4, hP4, hf4, ht4, hR4, hL4, hgood⟩
      exact ⟨_, rfl, k H4 fA L eB4 nf (hP4.le (by omega)) hf4 hR4 (by omega) hgood⟩
end
end K73
set_option maxHeartbeats 200000
/-! sorted of a list of pairs (key, thing), the keys tuples (text, text, int) that differ. -/
namespace K73
open PySem PySem.Spec PyProof.Rows L2
abbrev K3 := PySem.W.T3 Str Str Int
structure Tot {α : Type} (lt : α → α → Bool) : Prop where
  irr : ∀ x, lt x x = false
  tr : ∀ x y z, lt x y = true → lt y z = true → lt x z = true
  tri : ∀ x y, lt x y = false → lt y x = false → x = y
theorem tot_str : Tot (fun a b : Str => PySem.W.DatumOrd.lt a b) where
  irr x := Bool.eq_false_iff.mpr fun h => sLt_irrefl x (lt_str.mp h)
  tr x y z h1 h2 := lt_str.mpr (sLt_trans (lt_str.mp h1) (lt_str.mp h2))
  tri x y h1 h2 := sLt_tri (fun h => by rw [lt_str.mpr h] at h1; cases h1) fun h => by rw [lt_str.mpr h] at h2; cases h2
theorem lt_int' {a b : Int} : PySem.W.DatumOrd.lt a b = decide (a < b) := rfl
theorem tot_int : Tot (fun a b : Int => PySem.W.DatumOrd.lt a b) where
  irr x := by rw [lt_int']; exact decide_eq_false (Int.lt_irrefl x)
  tr x y z h1 h2 := by
    rw [lt_int'] at *
    have a := of_decide_eq_true h1
    have b := of_decide_eq_true h2
    exact decide_eq_true (by omega)
  tri x y h1 h2 := by
    rw [lt_int'] at *
    have a := of_decide_eq_false h1
    have b := of_decide_eq_false h2
    omega
def lt3 (p q : K3) : Bool := if p.a = q.a then (if p.b = q.b then PySem.W.DatumOrd.lt p.c q.c else PySem.W.DatumOrd.lt p.b q.b) else PySem.W.DatumOrd.lt p.a q.a
theorem lt3_eq (p q : K3) : PySem.W.DatumOrd.lt p q = lt3 p q := rfl
theorem tot_3 : Tot lt3 where
  irr x := by
    unfold lt3
    rw [if_pos rfl, if_pos rfl]
    exact tot_int.irr _
  tr x y z h1 h2 := by
    unfold lt3 at *
    by_cases a1 : x.a = y.a
    · rw [if_pos a1] at h1
      rw [a1]
      by_cases a2 : y.a = z.a
      · rw [if_pos a2] at h2 ⊢
        by_cases b1 : x.b = y.b
        · rw [if_pos b1] at h1
          rw [b1]
          by_cases b2 : y.b = z.b
          · rw [if_pos b2] at h2 ⊢
            exact tot_int.tr _ _ _ h1 h2
          · rw [if_neg b2] at h2 ⊢
            exact h2
        · rw [if_neg b1] at h1
          by_cases b2 : y.b = z.b
          · rw [← b2, if_neg b1]
            exact h1
          · rw [if_neg b2] at h2
            have b3 : x.b ≠ z.b := fun e => by
              have := tot_str.tr _ _ _ h1 h2
              rw [e, tot_str.irr] at this
              cases this
            rw [if_neg b3]
            exact tot_str.tr _ _ _ h1 h2
      · rw [if_neg a2] at h2 ⊢
        exact h2
    · rw [if_neg a1] at h1
      by_cases a2 : y.a = z.a
      · rw [← a2, if_neg a1]
        exact h1
      · rw [if_neg a2] at h2
        have a3 : x.a ≠ z.a := fun e => by
          have := tot_str.tr _ _ _ h1 h2
          rw [e, tot_str.irr] at this
          cases this
        rw [if_neg a3]
        exact tot_str.tr _ _ _ h1 h2
  tri x y h1 h2 := by
    unfold lt3 at *
    have ea : x.a = y.a := by
      by_cases e : x.a = y.a
      · exact e
      · rw [if_neg e] at h1
        rw [if_neg (fun z => e z.symm)] at h2
        exact tot_str.tri _ _ h1 h2
    rw [if_pos ea] at h1
    rw [if_pos ea.symm] at h2
    have eb : x.b = y.b := by
      by_cases e : x.b = y.b
      · exact e
      · rw [if_neg e] at h1
        rw [if_neg (fun z => e z.symm)] at h2
        exact tot_str.tri _ _ h1 h2
    rw [if_pos eb] at h1
    rw [if_pos eb.symm] at h2
    exact PySem.W.T3.same ea eb (tot_int.tri _ _ h1 h2)
theorem Tot.swo {α β : Type} {lt : α → α → Bool} (t : Tot lt) (f : β → α) : SrtO.Swo fun v u => lt (f v) (f u) where
  asym x y h := Bool.eq_false_iff.mpr fun w => by
    have := t.tr _ _ _ h w
    rw [t.irr] at this
    cases this
  tr x y z h1 h2 := Bool.eq_false_iff.mpr fun w => by
    cases e : lt (f x) (f y) with
    | true =>
      have := t.tr _ _ _ w e
      rw [this] at h2
      cases h2
    | false =>
      have := t.tri _ _ e h1
      rw [this] at w
      rw [w] at h2
      cases h2
def keyOfV (key : Addr → K3) : Value → K3
  | .ref a => key a
  | _ => ⟨⟨#[]⟩, ⟨#[]⟩, 0⟩
/-- v is a tuple of a key tuple k and some thing -/
def HasKey (h : Heap) (v : Value) (k : K3) : Prop := ∃ T kt ak, v = .ref T ∧ h.IsTuple T #[.ref kt, ak] ∧ PySem.W.Holds h (.ref kt) k
theorem HasKey.keeps {h h' : Heap} {v : Value} {k : K3} (x : HasKey h v k) (e : ∀ b o, h.get? b = some o → o.cls = .type "tuple" → h'.get? b = some o) : HasKey h' v k := by
  obtain ⟨T, kt, ak, rfl, ⟨o, h1, h2, h3⟩, hk⟩ := x
  obtain ⟨l, va, vb, vc, e1, ⟨o2, g1, g2, g3⟩, ha, hb, hc⟩ := PySem.W.t3_of_holds hk
  obtain ⟨ta, rfl⟩ := PySem.W.str_of_holds ha
  obtain ⟨tb, rfl⟩ := PySem.W.str_of_holds hb
  obtain ⟨tc, rfl⟩ := PySem.W.int_of_holds hc
  cases e1
  exact ⟨T, kt, ak, rfl, ⟨o, e _ _ h1 h2, h2, h3⟩, PySem.W.holds_t3 ⟨o2, e _ _ g1 g2, g2, g3⟩ (PySem.W.holds_str _ _) (PySem.W.holds_str _ _) (PySem.W.holds_int _ _)⟩
section
variable {prog : Program} {w : World} {A : Around} {s : Shared} {vs : List Value} {key : Addr → K3}
theorem kp_cmp (hp : ∀ v ∈ vs, HasKey s.heap v (keyOfV key v)) (inj : ∀ v ∈ vs, ∀ u ∈ vs, keyOfV key v = keyOfV key u → v = u) (hu : A.units + 1 < cLine) : SrtO.Cmp prog w A s (tuples' false) (fun p => p.1 ∈ vs) (SrtO.lt2 fun v u => lt3 (keyOfV key v) (keyOfV key u)) := by
  intro p q hm hm'
  have h1 := hp _ hm
  have h2 := hp _ hm'
  have hi := inj _ hm _ hm'
  show wpAny (model prog w) A (keyLt' (tuples' false) p.1 q.1) (fun r s' => s' = s ∧ r = lt3 (keyOfV key p.1) (keyOfV key q.1)) (fun _ _ => False) s
  generalize keyOfV key p.1 = k1 at h1 hi ⊢
  generalize keyOfV key q.1 = k2 at h2 hi ⊢
  obtain ⟨T, kt, ak, e, ⟨o, ho, hc, n, hd⟩, hk⟩ := h1
  obtain ⟨T', kt', ak', e', ⟨o', ho', hc', n', hd'⟩, hk'⟩ := h2
  rw [e, e'] at hi ⊢
  refine PySem.W.kat_lt ho hd ho' hd' ?_
  show PySem.W.KatLex prog w A false (decide (2 < 2)) _ [(.ref kt, .ref kt'), (ak, ak')] 0 s
  refine PySem.W.kat_cons (PySem.W.eqAt_datum hk hk' (by show A.units + 1 < cLine; exact hu) prog w _ _ ?_)
  refine PySem.W.kat_go (fun e1 => ?_) (fun e1 => ?_)
  · have ek : k1 = k2 := of_decide_eq_true e1
    have eT := hi ek
    cases eT
    rw [ho] at ho'
    cases ho'
    rw [hd] at hd'
    injection hd' with hd1 _
    have ea : ak = ak' := by
      have := congrArg (fun a : Array Value => a[1]?) hd1
      exact Option.some.inj this
    subst ea
    refine PySem.W.kat_yes (PySem.W.kat_cons (SeqAt.EqAt.same ak prog w _ _ ?_))
    refine PySem.W.kat_yes (PySem.W.kat_nil ⟨rfl, ?_⟩)
    rw [ek, tot_3.irr]
    rfl
  · exact PySem.W.kat_no (PySem.W.kat_one _ _ (PySem.W.lt_datum hk hk' (by show A.units + 1 < cLine; exact hu) (show s = s ∧ PySem.W.DatumOrd.lt k1 k2 = lt3 k1 k2 from ⟨rfl, rfl⟩)))
theorem kp_firsts {h : Heap} : ∀ {vs : List Value}, (∀ v ∈ vs, HasKey h v (keyOfV key v)) → ∃ fs, PySem.W.KatTups h vs fs ∧ fs.length = vs.length ∧ ∀ f ∈ fs, ∃ kt o, f = .ref kt ∧ h.get? kt = some o ∧ o.cls = .type "tuple"
  | [], _ => ⟨[], PySem.W.KatTups.nil, rfl, fun f hf => nomatch hf⟩
  | v :: vs, hp => by
    obtain ⟨fs, h1, h2, h3⟩ := kp_firsts (vs := vs) fun u hu => hp u (List.mem_cons_of_mem _ hu)
    obtain ⟨T, kt, ak, rfl, ⟨o, ho, hc, n, hd⟩, hk⟩ := hp v List.mem_cons_self
    obtain ⟨l, va, vb, vc, e1, ⟨o2, g1, g2, g3⟩, _⟩ := PySem.W.t3_of_holds hk
    cases e1
    refine ⟨.ref kt :: fs, PySem.W.KatTups.cons ho hc hd rfl h1, by rw [List.length_cons, List.length_cons, h2], fun f hf => ?_⟩
    rcases List.mem_cons.mp hf with z | z
    · exact ⟨kt, o2, z, g1, g2⟩
    · exact h3 f z
theorem kp_sortable {a : Addr} (h0 : 0 < vs.length) (hp : ∀ v ∈ vs, HasKey s.heap v (keyOfV key v)) (inj : ∀ v ∈ vs, ∀ u ∈ vs, keyOfV key v = keyOfV key u → v = u) (ha : ∀ o, s.heap.get? a = some o → o.cls ≠ .type "tuple") (hu : A.units + 1 < cLine) :
    SrtO.SortableO prog w A s a vs fun v u => lt3 (keyOfV key v) (keyOfV key u) := by
  intro h' keep
  have hp' : ∀ v ∈ vs, HasKey h' v (keyOfV key v) := fun v hm => (hp v hm).keeps fun b o e c => keep b o (fun z => by subst z; exact ha o e c) e
  obtain ⟨fs, h1, h2, h3⟩ := kp_firsts hp'
  refine ⟨tuples' false, fun Q E hq => ?_, kp_cmp hp' inj hu⟩
  refine PySem.W.kat_kind (T := .type "tuple") h1 (by omega) (fun f hm => ?_) (by rfl) ?_
  · obtain ⟨kt, o, rfl, g1, g2⟩ := h3 f hm
    rw [← g2]
    exact (PySem.W.Looks.ld g1).andThen .now
  · have e : (Value.type "tuple" != Value.type "tuple") = false := by first | decide +kernel | rfl | decide
    rw [e]
    exact hq
end
theorem vals_refs' : ∀ as : List Addr, Vals (as.map V.ref) (as.map Value.ref)
  | [] => .nil
  | _ :: as => .cons rfl (vals_refs' as)
/-- sorted of pairs with keys that differ: some order of them -/
def rSortedKP (K : PySem.W.Frag) : List V → Hp → VK → Prop := fun vs H Q => ∃ (a : Addr) (Ts : List Addr) (key : Addr → K3), vs = [V.ref a] ∧ SqL K H a (Ts.map V.ref) ∧ (∀ T ∈ Ts, ∃ kt ak, H T = some (.tup [.ref kt, .ref ak]) ∧ H kt = some (.tup [.str (key T).a, .str (key T).b, .int (key T).c])) ∧ (∀ T ∈ Ts, ∀ U ∈ Ts, key T = key U → T = U) ∧
  ∀ (Us : List Addr) (p : Addr), Us.Perm Ts → H p = none → Q (.ref p) (upd H p (.lst (Us.map V.ref)))
theorem cr_sortedKP {X : Cx} (hu : X.A.units + 64 < cLine) : CallR X (.builtin "sorted") (rSortedKP X.K) := by
  intro pins s σ H vs us Q I r h
  obtain ⟨a, Ts, key, rfl, hs, hT, inj, q⟩ := h
  obtain ⟨its, rv, hl, hz⟩ := I.list hs
  obtain ⟨u, rfl, ru⟩ := vals1 r
  obtain rfl : u = Value.ref a := ru
  have ei := refs_at rv
  subst ei
  have hk : ∀ v ∈ Ts.map Value.ref, HasKey s.heap v (keyOfV key v) := fun v hv => by
    obtain ⟨T, hTm, rfl⟩ := List.mem_map.mp hv
    obtain ⟨kt, ak, h1, h2⟩ := hT T hTm
    obtain ⟨_, its1, r1, o1, g1, g2, n1, g3⟩ := I.hok _ _ h1
    obtain ⟨u1, u2, rfl, e1, e2⟩ := vals2 r1
    obtain rfl : u1 = Value.ref kt := e1
    obtain ⟨_, its2, r2, o2, k1, k2, n2, k3⟩ := I.hok _ _ h2
    cases r2 with
    | cons ra r2 =>
      cases r2 with
      | cons rb r2 =>
        cases r2 with
        | cons rc r2 =>
          cases r2
          obtain ⟨t1, rfl⟩ := (show ∃ t, _ = Value.str (key T).a t from ra)
          obtain ⟨t2, rfl⟩ := (show ∃ t, _ = Value.str (key T).b t from rb)
          obtain ⟨t3, rfl⟩ := (show ∃ t, _ = Value.int (key T).c t from rc)
          exact ⟨T, kt, u2, rfl, ⟨o1, g1, g2, n1, g3⟩, PySem.W.holds_t3 ⟨o2, k1, k2, n2, k3⟩ (PySem.W.holds_str _ _) (PySem.W.holds_str _ _) (PySem.W.holds_int _ _)⟩
  have hin : ∀ v ∈ Ts.map Value.ref, ∀ u ∈ Ts.map Value.ref, keyOfV key v = keyOfV key u → v = u := fun v hv u hu' e => by
    obtain ⟨T, hTm, rfl⟩ := List.mem_map.mp hv
    obtain ⟨U, hUm, rfl⟩ := List.mem_map.mp hu'
    rw [inj T hTm U hUm e]
  refine SrtO.sorted_ord (tot_3.swo (keyOfV key)) hl.isList (by rw [← rv.length]; exact hz) (fun h2 h₁ b hb kk => ?_) fun out hso hst => ?_
  · refine kp_sortable (s := { s with heap := h₁ }) (by omega) (fun v hm => (hk v hm).keeps fun b o e _ => (kk b o e).2) hin (fun o e => ?_) (by show X.A.units + 1 + 1 + 1 < cLine; omega)
    have e' : some o = some (seqObj "list" (Ts.map Value.ref).toArray 0) := e.symm.trans hb
    cases e'
    intro c
    exact absurd (Value.type.inj c) (by decide)
  · obtain ⟨Us, hUp, rfl⟩ := perm_lift Value.ref hst.perm Ts rfl
    have hlen : (Us.map V.ref).length ≤ sizeLine := by
      rw [List.length_map, hUp.length_eq]
      rw [List.length_map] at hz
      exact hz
    refine ⟨.ref (s.heap.objs.size + 1), upd H (s.heap.objs.size + 1) (.lst (Us.map V.ref)), I.laid (t' := s.toks) (fun b o e => PyProof.Rows.sortedAll_old e) (Nat.le_succ _) ⟨hlen, Us.map Value.ref, _, vals_refs' Us, (PyProof.Rows.sortedAll_at s.heap (Ts.map Value.ref) (Us.map Value.ref).toArray).choose_spec⟩, rfl, q Us _ hUp (I.hok.fresh (Nat.le_succ _))⟩
end K73
set_option maxHeartbeats 200000
namespace K73
open PySem PySem.Spec PyProof.Rows L2
def nz : Option Str → Str
  | none => ""
  | some s => s
def k3 (r : Rul) : K3 := ⟨nz r.lo, nz r.hi, r.gap⟩
theorem nz_inj {a b : Option Str} (ha : OkThing a) (hb : OkThing b) (h : nz a = nz b) : a = b := by
  have h0 : ("" : Str).length = 0 := by decide +kernel
  cases a with
  | none =>
    cases b with
    | none => rfl
    | some y =>
      have := (hb y rfl).1
      have h : ("" : Str) = y := h
      rw [← h, h0] at this
      omega
  | some x =>
    cases b with
    | none =>
      have := (ha x rfl).1
      have h : x = ("" : Str) := h
      rw [h, h0] at this
      omega
    | some y => exact congrArg some h
theorem k3_inj {r s : Rul} (h1 : OkThing r.lo) (h2 : OkThing r.hi) (h3 : OkThing s.lo) (h4 : OkThing s.hi) (h : k3 r = k3 s) : r = s := by
  have a := nz_inj h1 h3 (congrArg PySem.W.T3.a h)
  have b := nz_inj h2 h4 (congrArg PySem.W.T3.b h)
  have c : r.gap = s.gap := congrArg PySem.W.T3.c h
  cases r
  cases s
  simp only at a b c
  subst a b c
  rfl
def kR (r : Rul) : List Leaf := [lT r.lo, lT r.hi, .num r.gap]
theorem kR_lV (r : Rul) : (kR r).map lV = [vT r.lo, vT r.hi, .int r.gap] := by
  show [lV (lT r.lo), lV (lT r.hi), lV (.num r.gap)] = _
  rw [lV_lT, lV_lT]
  rfl
theorem kR_inj {r s : Rul} (h : kR r = kR s) : r = s := by
  unfold kR at h
  injection h with a h
  injection h with b h
  injection h with c _
  have a' := lT_inj a
  have b' := lT_inj b
  injection c with c'
  cases r
  cases s
  simp only at a' b' c'
  subst a' b' c'
  rfl
def xtR (L : List (Addr × Rul)) : List XT := L.map fun q => (kR q.2, q.1, V.bl true)
theorem xtR_keys {H : Hp} {L : List (Addr × Rul)} (h : Rules H L) : KeysAt H (xtR L) := fun x hx => by
  obtain ⟨q, hq, rfl⟩ := List.mem_map.mp hx
  show H q.1 = some (.tup ((kR q.2).map lV))
  rw [kR_lV]
  exact h q hq
section
variable {P : Program} {w : World} {K : PySem.W.Frag} {mg : Str → Option Value} {base : Heap}
def spLKey : Sp := fun vs H Q _ => ∃ (p : Addr) (r : Rul), vs = [.ref p] ∧ RuleAt H p r ∧ ∀ (H' : Hp) (t : Addr), Same H H' → H t = none → H' t = some (.tup [.str (k3 r).a, .str (k3 r).b, .int (k3 r).c]) → Q (.ref t) H'
theorem Tp.lKey (Z : Tp K mg) : FnOk P w K mg base CX0 1 Z.gLKey Z.dLKey ["_law_ask"] spLKey := by
  refine Z.LKey.fn.ok cLKey (fun vs H Q E h => ?_) (fun cdv A outer s H vs Q E hr h => ?_)
  · obtain ⟨p, r, rfl, _⟩ := h
    rfl
  · obtain ⟨p, r, rfl, hp, k⟩ := h
    refine ⟨_, pss_one (ps_ret (pe_tup (pa_cons (pe_ifExp (pt_cmpR op_isN (pat 0) pe_non (nomark _)) pe_str (pat 0)) (pa_cons (pe_ifExp (pt_cmpR op_isN (pat 0) pe_non (nomark _)) pe_str (pat 0)) (pa_cons (pat 0) pa_nil))))), ?_⟩
    have fin : ∀ t, H t = none → Q (.ref t) (upd H t (.tup [.str (k3 r).a, .str (k3 r).b, .int (k3 r).c])) := fun t ht => k _ t (same_upd ht) ht upd_same
    refine ⟨_, rfl, p, _, _, _, rfl, rfl, SqT.of hp, atI_nat (j := 0) rfl, rfl, _, rfl, ?_⟩
    have two : ∀ (tt : Option Str) (j : Nat) (Qe : VK), ([vT r.lo, vT r.hi, V.int r.gap] : List V)[j]? = some (vT tt) → Qe (.str (nz tt)) H → (if decide (vT tt = V.non) = true then tC (.str "") (L2.start nLKey [.ref p]) H Qe else tOp (rIxT K) (tVar 0) (tC (.int (j : Nat))) (L2.start nLKey [.ref p]) H Qe) := fun tt j Qe hj q => by
      cases tt with
      | none => exact iteT q
      | some x => exact iteF ⟨_, rfl, p, _, _, _, rfl, rfl, SqT.of hp, atI_nat hj, q⟩
    refine two r.lo 0 _ rfl ?_
    refine ⟨_, rfl, p, _, _, _, rfl, rfl, SqT.of hp, atI_nat (j := 1) rfl, rfl, _, rfl, ?_⟩
    refine two r.hi 1 _ rfl ?_
    exact ⟨_, rfl, p, _, _, _, rfl, rfl, SqT.of hp, atI_nat (j := 2) rfl, (by show 3 ≤ sizeLine; decide), fin⟩
def akOf (H : Hp) (T : Addr) : Addr := match H T with
  | some (.tup [_, .ref p]) => p
  | _ => T
def rulOf (H : Hp) (p : Addr) : Rul := match H p with
  | some (.tup [a, b, .int g]) => ⟨unT a, unT b, g⟩
  | _ => ⟨none, none, 0⟩
def keyOf (H : Hp) (T : Addr) : K3 := match H T with
  | some (.tup [.ref kt, _]) => (match H kt with
    | some (.tup [.str a, .str b, .int c]) => ⟨a, b, c⟩
    | _ => ⟨"", "", 0⟩)
  | _ => ⟨"", "", 0⟩
theorem rulOf_eq {H : Hp} {p : Addr} {r : Rul} (h : RuleAt H p r) : rulOf H p = r := by
  unfold RuleAt at h
  unfold rulOf
  rw [h]
  show (⟨unT (vT r.lo), unT (vT r.hi), r.gap⟩ : Rul) = r
  rw [unT_vT, unT_vT]
theorem paired_ix {α β : Type} {F : α → β → Prop} : ∀ {xs : List α} {ys : List β} {y : β}, Paired F xs ys → y ∈ ys → ∃ (i : Nat) (x : α), xs[i]? = some x ∧ ys[i]? = some y ∧ F x y
  | _, _, _, .cons a t, h => by
    cases h with
    | head => exact ⟨0, _, rfl, rfl, a⟩
    | tail _ h =>
      obtain ⟨i, x, h1, h2, h3⟩ := paired_ix t h
      exact ⟨i + 1, x, h1, h2, h3⟩
theorem paired_of_mem {α β : Type} {F : α → β → Prop} : ∀ {xs : List α} {ys : List β} {x : α}, Paired F xs ys → x ∈ xs → ∃ y ∈ ys, F x y
  | _, _, _, .cons a t, h => by
    cases h with
    | head => exact ⟨_, .head _, a⟩
    | tail _ h =>
      obtain ⟨y, h1, h2⟩ := paired_of_mem t h
      exact ⟨y, .tail _ h1, h2⟩
theorem nodup_ix {α : Type} : ∀ {xs : List α} {i j : Nat} {x : α}, xs.Nodup → xs[i]? = some x → xs[j]? = some x → i = j
  | [], i, j, x, _, h, _ => by simp at h
  | _ :: _, 0, 0, _, _, _, _ => rfl
  | y :: r, 0, j + 1, x, nd, h1, h2 => absurd (List.mem_of_getElem? (l := r) (i := j) h2) (by rw [← Option.some.inj h1]; exact (List.nodup_cons.mp nd).1)
  | y :: r, i + 1, 0, x, nd, h1, h2 => absurd (List.mem_of_getElem? (l := r) (i := i) h1) (by rw [← Option.some.inj h2]; exact (List.nodup_cons.mp nd).1)
  | _ :: _, i + 1, j + 1, x, nd, h1, h2 => congrArg (· + 1) (nodup_ix (List.nodup_cons.mp nd).2 h1 h2)
def OkL (L : List (Addr × Rul)) : Prop := ∀ q ∈ L, OkThing q.2.lo ∧ OkThing q.2.hi
def spLSorted : Sp := fun vs H Q _ => ∃ (g : Addr) (L : List (Addr × Rul)), vs = [.ref g] ∧ H g = some (.lst (refs L)) ∧ Rules H L ∧ OkL L ∧ L.length ≤ 900 ∧
  ∀ (H' : Hp) (p : Addr) (L' : List (Addr × Rul)), Same H H' → H p = none → H' p = some (.lst (refs L')) → Rules H' L' → (∀ r, r ∈ gapsOf L' ↔ r ∈ gapsOf L) → L'.length ≤ L.length → Q (.ref p) H'
theorem Tp.lSorted (Z : Tp K mg) : FnOk P w K mg base CX0 2 Z.gLSorted Z.dLSorted ["_law_gaps_here"] spLSorted := by
  have T := Z.nm
  have G := Z.lKey (P := P) (w := w) (base := base)
  refine Z.LSorted.fn.ok cLSorted (fun vs H Q E h => ?_) (fun cdv A outer s H vs Q E hr h => ?_)
  · obtain ⟨g, L, rfl, _⟩ := h
    rfl
  · obtain ⟨g, L, rfl, hg, hR, ok, few, k⟩ := h
    have nd := cLSorted.nd
    have hu := hu_of hr
    have hu64 := hr.units
    have big : (1000000 : Nat) < sizeLine := by decide
    refine ⟨_, pss_cons (ps_set (i := 1) nd rfl (Or.inl rfl) (pe_callTy (call_dictX rfl hu64) (by rfl) T.dict boot_dict (pa_cons (pe_lc (own := [("_law_ask", 2)]) (g := gName 2) (tt := tYes) rfl nd (pi_list (pv 0)) (blkOk_by (N := nLSorted) (sc := defScope sLSorted) (by decide +kernel))
          (fun _ _ _ _ _ => pg_name (i := 2) nd rfl (Or.inl rfl)) (fun _ _ _ _ _ => pts_nil) (fun _ _ _ _ _ => pe_tup (pa_cons (pv 2) (pa_cons pe_bl pa_nil)))) pa_nil)))
      (pss_one (ps_ret (pe_lc (own := [("_law_pair", 3)]) (g := gName 3) (tt := tYes) rfl nd (pi_list (pe_callB (cr_sortedKP hu64) (by rfl) T.sorted boot_sorted (pa_cons (pe_lock (pe_lc (own := [("_law_ask", 2)]) (g := gName 2) (tt := tYes) rfl nd (pi_keysX (pv 1))
            (blkOk_by (N := nLSorted) (sc := defScope sLSorted) (by decide +kernel)) (fun _ _ _ _ _ => pg_name (i := 2) nd rfl (Or.inl rfl)) (fun _ _ _ _ _ => pts_nil) (fun _ _ _ _ _ => pe_tup (pa_cons (pe_d Z.LKey G hr rfl (pa_cons (pv 2) pa_nil)) (pa_cons (pv 2) pa_nil))))) pa_nil)))
          (blkOk_by (N := nLSorted) (sc := defScope sLSorted) (by decide +kernel)) (fun _ _ _ _ _ => pg_name (i := 3) nd rfl (Or.inl rfl)) (fun _ _ _ _ _ => pts_nil) (fun _ _ _ _ _ => patB K 3)))), ?_⟩
    refine ⟨_, rfl, g, rfl, ⟨_, SqL.of hg⟩, fun D hD => ?_⟩
    refine lc_rel walk_list hD (refs L) rfl (by rw [List.length_map]; omega) (fun H' e => SqL.of (e _ _ hg)) (fun i H x H' _ y => y) (fun _ => true) (fun x y H' => ∃ T, y = .ref T ∧ H' T = some (.tup [x, .bl true])) (fun x y H H' e ⟨T, h1, h2⟩ => ⟨T, h1, e _ _ h2⟩) (fun x H' Qt _ _ q => q H' (Same.refl _)) ?_ ?_
    · rintro x H' Qe hx _ e1 ⟨uD, hDu⟩ q
      refine ⟨_, rfl, (by show 2 ≤ sizeLine; decide), fun t ht => q _ _ (same_upd ht) fun H5 e5 => ⟨t, rfl, e5 _ _ (fun z => ?_) upd_same⟩⟩
      rw [z, hDu] at ht
      cases ht
    · intro H1 ys e1 hD1 hp
      rw [List.filter_eq_self.mpr fun _ _ => rfl] at hp
      obtain ⟨Ts, rfl, hTs⟩ : ∃ Ts : List Addr, ys = Ts.map V.ref ∧ Paired (fun T (x : XT) => SqT K H1 T [.ref x.2.1, x.2.2]) Ts (xtR L) := by
        unfold xtR
        clear hD1 k few ok hR hg
        induction L generalizing ys with
        | nil =>
          cases hp
          exact ⟨[], rfl, .nil⟩
        | cons q r ih =>
          cases hp with
          | cons h1 h2 =>
            obtain ⟨T, rfl, h3⟩ := h1
            obtain ⟨Ts, rfl, h4⟩ := ih _ h2
            exact ⟨T :: Ts, rfl, .cons (SqT.of h3) h4⟩
      have hR1 := hR.same e1
      refine ⟨D, Ts, xtR L, rfl, SqL.of hD1, hTs, xtR_keys hR1, fun dA hdA => ?_⟩
      have hX : ∀ x ∈ putAllX [] (xtR L), ∃ r, r ∈ gapsOf L ∧ x.1 = kR r ∧ RuleAt H1 x.2.1 r ∧ OkThing r.lo ∧ OkThing r.hi := fun x hx => by
        rcases mem_putAllX (xtR L) [] hx with ⟨y, hy, _⟩ | ⟨y, hy, h1, h2⟩
        · cases hy
        · obtain ⟨q, hq, rfl⟩ := List.mem_map.mp hy
          exact ⟨q.2, List.mem_map.mpr ⟨q, hq, rfl⟩, h1, by rw [h2]; exact hR1 q hq, ok q hq⟩
      have hXn := nd_putAllX (xtR L) [] .nil
      have hXk : ∀ r, kR r ∈ (putAllX [] (xtR L)).map (·.1) ↔ r ∈ gapsOf L := fun r => by
        rw [keys_putAllX]
        unfold xtR gapsOf
        rw [List.map_map]
        constructor
        · rintro (h | h)
          · cases h
          · obtain ⟨q, hq, e⟩ := List.mem_map.mp h
            exact List.mem_map.mpr ⟨q, hq, kR_inj e⟩
        · intro h
          obtain ⟨q, hq, e⟩ := List.mem_map.mp h
          exact .inr (List.mem_map.mpr ⟨q, hq, by rw [← e]; rfl⟩)
      have hXl : (putAllX [] (xtR L)).length ≤ L.length := by
        have h1 := putAllX_len (xtR L) []
        have h2 : (xtR L).length = L.length := List.length_map ..
        have h3 : ([] : List XT).length = 0 := rfl
        omega
      generalize putAllX [] (xtR L) = X at hX hXn hXk hXl ⊢
      have e2 : Same H1 (upd H1 dA (oT P w dA X)) := same_upd hdA
      have hd2 : (upd H1 dA (oT P w dA X)) dA = some (oT P w dA X) := upd_same
      show L2.Ends.nx _ _ (upd H1 dA (oT P w dA X))
      refine nx_of ?_
      have dA0 : H dA = none := e1.free hdA
      generalize hH2 : upd H1 dA (oT P w dA X) = H2 at e2 hd2 ⊢
      have hR2 : ∀ x ∈ X, ∃ r, r ∈ gapsOf L ∧ x.1 = kR r ∧ RuleAt H2 x.2.1 r ∧ OkThing r.lo ∧ OkThing r.hi := by
        intro x hx
        obtain ⟨r, h1, h2, h3, h4⟩ := hX x hx
        exact ⟨r, h1, h2, e2 _ _ h3, h4⟩
      clear hX
      refine ⟨dA, _, hd2, trivial, fun od => ⟨_, rfl, dA, od, rfl, .inr ⟨X, upd_same, fun D2 hD2 => ?_⟩⟩⟩
      have hlX : (X.map fun q => V.ref q.2.1).length = X.length := List.length_map ..
      have nD2A : D2 ≠ dA := fun z => by rw [z, upd_same] at hD2; cases hD2
      refine lc_rel walkX hD2 (X.map fun q => V.ref q.2.1) rfl (by omega) (fun H' e => ⟨_, e _ _ upd_same⟩) (fun i H x H' _ y => y) (fun _ => true)
        (fun x y H' => ∃ T kt p r, x = .ref p ∧ y = .ref T ∧ r ∈ gapsOf L ∧ OkThing r.lo ∧ OkThing r.hi ∧ RuleAt H' p r ∧ H' T = some (.tup [.ref kt, .ref p]) ∧ H' kt = some (.tup [.str (k3 r).a, .str (k3 r).b, .int (k3 r).c]))
        (fun x y H H' e ⟨T, kt, p, r, h1, h2, h3, h4, h5, h6, h7, h8⟩ => ⟨T, kt, p, r, h1, h2, h3, h4, h5, e _ _ h6, e _ _ h7, e _ _ h8⟩) (fun x H' Qt _ _ q => q H' (Same.refl _)) ?_ ?_
      · rintro x H' Qe hx _ e3 ⟨uD, hDu⟩ q
        obtain ⟨y, hy, rfl⟩ := List.mem_map.mp hx
        obtain ⟨r, h1, h2, h3, h4, h5⟩ := hR2 y hy
        have nA : y.2.1 ≠ dA := fun z => by
          have h3 : H2 y.2.1 = some (.tup [vT r.lo, vT r.hi, .int r.gap]) := h3
          rw [z, hd2] at h3
          cases h3
        have h6 : RuleAt H' y.2.1 r := e3 _ _ (by rw [upd_ne nA]; exact h3)
        refine ⟨_, rfl, y.2.1, r, rfl, h6, fun H5 t e5 t0 ht => ⟨_, rfl, (by show 2 ≤ sizeLine; decide), fun T hT => ?_⟩⟩
        have e6 : Same H' (upd H5 T (.tup [.ref t, .ref y.2.1])) := e5.trans (same_upd hT)
        have ntD : t ≠ D2 := fun z => by rw [z, hDu] at t0; cases t0
        have hT0 := e5.free hT
        have nTD : T ≠ D2 := fun z => by rw [z, hDu] at hT0; cases hT0
        have npD : y.2.1 ≠ D2 := fun z => by
          have : (upd H2 dA (.frz od (oT P w dA X))) y.2.1 = some (.tup [vT r.lo, vT r.hi, .int r.gap]) := by rw [upd_ne nA]; exact h3
          rw [z, hD2] at this
          cases this
        have ntT : t ≠ T := fun z => by rw [← z, ht] at hT; cases hT
        exact q _ _ e6 fun H7 e7 => ⟨T, t, y.2.1, r, rfl, rfl, h1, h4, h5, e7 _ _ npD (e6 _ _ h6), e7 _ _ nTD upd_same, e7 _ _ ntD (by rw [upd_ne ntT]; exact ht)⟩
      · intro H6 ys e6 hD6 hp
        rw [List.filter_eq_self.mpr fun _ _ => rfl] at hp
        refine ⟨e6 _ _ upd_same, ?_⟩
        have e27 : Same H2 (upd H6 dA (oT P w dA X)) := same_unlock hd2 e6
        have hD7 : (upd H6 dA (oT P w dA X)) D2 = some (.lst ys) := by rw [upd_ne nD2A]; exact hD6
        have hA6 : H6 dA = some (.frz od (oT P w dA X)) := e6 _ _ upd_same
        have keep7 : ∀ (b : Addr) (vs : List V), H6 b = some (.tup vs) → (upd H6 dA (oT P w dA X)) b = some (.tup vs) := fun b vs hb => by
          rw [upd_ne fun z => by rw [z, hA6] at hb; cases hb]
          exact hb
        generalize upd H6 dA (oT P w dA X) = H7 at e27 hD7 keep7 ⊢
        obtain ⟨Ts, rfl, hTs⟩ : ∃ Ts : List Addr, ys = Ts.map V.ref ∧ Paired (fun (q : XT) T => ∃ kt r, q.1 = kR r ∧ r ∈ gapsOf L ∧ OkThing r.lo ∧ OkThing r.hi ∧ RuleAt H7 q.2.1 r ∧ H7 T = some (.tup [.ref kt, .ref q.2.1]) ∧ H7 kt = some (.tup [.str (k3 r).a, .str (k3 r).b, .int (k3 r).c])) X Ts := by
          clear hD7 hD6 hXn hXk hXl hd2 hlX hA6 hH2 hD2
          replace hR2 : ∀ x ∈ X, ∃ r, x.1 = kR r ∧ RuleAt H7 x.2.1 r := fun x hx => by
            obtain ⟨r, _, h2, h3, _⟩ := hR2 x hx
            exact ⟨r, h2, e27 _ _ h3⟩
          clear e27 e6
          induction X generalizing ys with
          | nil =>
            cases hp
            exact ⟨[], rfl, .nil⟩
          | cons q rest ih =>
            cases hp with
            | cons h1 h2 =>
              obtain ⟨T, kt, p, r, g1, rfl, g3, g4, g5, g6, g7, g8⟩ := h1
              obtain rfl : q.2.1 = p := V.ref.inj g1
              obtain ⟨r0, f1, f2⟩ := hR2 q (.head _)
              obtain ⟨Ts, rfl, h4⟩ := ih _ h2 fun x hx => hR2 x (.tail _ hx)
              have g6' : RuleAt H7 q.2.1 r := keep7 _ _ g6
              have : r0 = r := (rulOf_eq f2).symm.trans (rulOf_eq g6')
              subst this
              exact ⟨T :: Ts, rfl, .cons ⟨kt, _, f1, g3, g4, g5, g6', keep7 _ _ g7, keep7 _ _ g8⟩ h4⟩
        have hlT : X.length = Ts.length := paired_len hTs
        have inf : ∀ T ∈ Ts, ∃ (i : Nat) (q : XT), X[i]? = some q ∧ Ts[i]? = some T ∧ ∃ kt r, q.1 = kR r ∧ r ∈ gapsOf L ∧ OkThing r.lo ∧ OkThing r.hi ∧ RuleAt H7 q.2.1 r ∧ H7 T = some (.tup [.ref kt, .ref q.2.1]) ∧ H7 kt = some (.tup [.str (k3 r).a, .str (k3 r).b, .int (k3 r).c]) ∧ keyOf H7 T = k3 r ∧ akOf H7 T = q.2.1 := fun T hT => by
          obtain ⟨i, q, g1, g2, kt, r, h1, h2, h3, h4, h5, h6, h7⟩ := paired_ix hTs hT
          refine ⟨i, q, g1, g2, kt, r, h1, h2, h3, h4, h5, h6, h7, ?_, ?_⟩
          · unfold keyOf
            rw [h6]
            simp only [h7]
          · unfold akOf
            rw [h6]
        refine ⟨D2, Ts, keyOf H7, rfl, SqL.of hD7, fun T hT => ?_, fun T hT U hU e => ?_, fun Us p1 pm hp1 => ?_⟩
        · obtain ⟨_, q, _, _, kt, r, _, _, _, _, _, g1, g2, g3, _⟩ := inf T hT
          exact ⟨kt, q.2.1, g1, by rw [g3]; exact g2⟩
        · obtain ⟨i, q, i1, i2, kt, r, f1, f2, f3, f4, _, _, _, f5, _⟩ := inf T hT
          obtain ⟨j, q', j1, j2, kt', r', g1, g2, g3, g4, _, _, _, g5, _⟩ := inf U hU
          rw [f5, g5] at e
          have := k3_inj f3 f4 g3 g4 e
          subst this
          have k1 : (X.map (·.1))[i]? = some (kR r) := by rw [List.getElem?_map, i1]; exact congrArg some f1
          have k2 : (X.map (·.1))[j]? = some (kR r) := by rw [List.getElem?_map, j1]; exact congrArg some g1
          have := nodup_ix hXn k1 k2
          subst this
          exact Option.some.inj (i2.symm.trans j2)
        · have e78 : Same H7 (upd H7 p1 (.lst (Us.map V.ref))) := same_upd hp1
          have hp8 : (upd H7 p1 (.lst (Us.map V.ref))) p1 = some (.lst (Us.map V.ref)) := upd_same
          generalize upd H7 p1 (.lst (Us.map V.ref)) = H8 at e78 hp8 ⊢
          refine ⟨p1, rfl, ⟨_, SqL.of hp8⟩, fun D3 hD3 => ?_⟩
          have hlU : Us.length = Ts.length := pm.length_eq
          refine lcl_map (SqL.of hp8) hD3 (by rw [List.length_map]; omega) (fun x => match x with
            | .ref U => .ref (akOf H7 U)
            | y => y) ?_ ?_
          · intro x H9 Qe hx e9 q
            obtain ⟨U, hU, rfl⟩ := List.mem_map.mp hx
            obtain ⟨_, y, _, _, kt, r, _, _, _, _, _, g1, g2, g3, g4⟩ := inf U (pm.subset hU)
            have q := q H9 (Same.refl _)
            simp only [g4] at q
            exact ⟨_, rfl, U, _, _, _, rfl, rfl, SqT.of (e9 _ _ (e78 _ _ g1)), atI_nat (j := 1) rfl, q⟩
          · intro H9 e9 hD9
            have e09 : Same H H9 := e1.trans (e2.trans (e27.trans (e78.trans e9)))
            have hD30 : H D3 = none := (e1.trans (e2.trans (e27.trans e78))).free hD3
            refine k H9 D3 (Us.map fun U => (akOf H7 U, rulOf H7 (akOf H7 U))) e09 hD30 ?_ ?_ ?_ ?_
            · rw [hD9]
              unfold refs
              rw [List.map_map, List.map_map]
              rfl
            · rintro x hx
              obtain ⟨U, hU, rfl⟩ := List.mem_map.mp hx
              obtain ⟨_, y, _, _, kt, r, _, _, _, _, g0, g1, g2, g3, g4⟩ := inf U (pm.subset hU)
              show RuleAt H9 (akOf H7 U) (rulOf H7 (akOf H7 U))
              rw [g4, rulOf_eq g0]
              exact e9 _ _ (e78 _ _ g0)
            · intro r
              constructor
              · intro h
                obtain ⟨x, hx, rfl⟩ := List.mem_map.mp h
                obtain ⟨U, hU, rfl⟩ := List.mem_map.mp hx
                obtain ⟨_, y, _, _, kt, r, _, f2, _, _, g0, g1, g2, g3, g4⟩ := inf U (pm.subset hU)
                show rulOf H7 (akOf H7 U) ∈ _
                rw [g4, rulOf_eq g0]
                exact f2
              · intro h
                obtain ⟨y, hy, ey⟩ := List.mem_map.mp ((hXk r).mpr h)
                obtain ⟨T, hT, kt, r', f1, f2, f3, f4, f5, f6, f7⟩ := paired_of_mem hTs hy
                have : r' = r := kR_inj (f1.symm.trans ey)
                subst this
                obtain ⟨_, y', _, _, kt', r2, h1, _, _, _, h5, g1, g2, g3, g4⟩ := inf T hT
                rw [f6] at g1
                injection g1 with g1
                injection g1 with g1
                injection g1 with _ g1
                injection g1 with g1 _
                injection g1 with g1
                refine List.mem_map.mpr ⟨(akOf H7 T, rulOf H7 (akOf H7 T)), List.mem_map.mpr ⟨T, pm.symm.subset hT, rfl⟩, ?_⟩
                show rulOf H7 (akOf H7 T) = r'
                rw [g4, ← g1, rulOf_eq f5]
            · rw [List.length_map]
              omega
end
end K73
set_option maxHeartbeats 200000
namespace K73
open PySem PySem.Spec PyProof.Rows L2
section
variable {P : Program} {w : World} {K : PySem.W.Frag} {mg : Str → Option Value} {base : Heap}
def spLBroken : Sp := fun vs H Q _ => ∃ (g d : Addr) (L : List (Addr × Rul)) (ns : List Str) (f : Str → Int), vs = [.ref g, .ref d] ∧ H g = some (.lst (refs L)) ∧ Rules H L ∧ OkL L ∧ L.length ≤ 900 ∧ PtAt H d ns f ∧ Within (gapsOf L) ns ∧
  ∀ (H' : Hp) (p : Addr) (B : List (Addr × Rul)), Same H H' → H p = none → H' p = some (.lst (refs B)) → (B = [] ↔ Adm (gapsOf L) f) → Q (.ref p) H'
theorem Tp.lBroken (Z : Tp K mg) : FnOk P w K mg base CX0 3 Z.gLBroken Z.dLBroken ["_law_gaps_here", "_law_held"] spLBroken := by
  have G := Z.lSorted (P := P) (w := w) (base := base)
  have G2 := Z.lShort (P := P) (w := w) (base := base)
  refine Z.LBroken.fn.ok cLBroken (fun vs H Q E h => ?_) (fun cdv A outer s H vs Q E hr h => ?_)
  · obtain ⟨g, d, L, ns, f, rfl, _⟩ := h
    rfl
  · obtain ⟨g, d, L, ns, f, rfl, hg, hR, ok, few, hd, hw, k⟩ := h
    have big : (1000000 : Nat) < sizeLine := by decide
    refine ⟨_, pss_one (ps_ret (pe_lc (own := [("_law_ask", 2)]) (g := gName 2) rfl cLBroken.nd (pi_list (pe_d Z.LSorted G hr rfl (pa_cons (pv 0) pa_nil))) (blkOk_by (N := nLBroken) (sc := defScope sLBroken) (by decide +kernel)) (fun _ _ _ _ _ => pg_name (i := 2) cLBroken.nd rfl (Or.inl rfl))
      (fun _ _ _ _ _ => pts_one (pt_cmpR op_gt (pe_d Z.LShort G2 hr rfl (pa_cons (pv 1) (pa_cons (pv 2) pa_nil))) pe_int (nomark _))) (fun _ _ _ _ _ => pv 2))), ?_⟩
    refine ⟨_, rfl, g, L, rfl, hg, hR, ok, few, fun H1 p1 S e1 p0 hp1 hS hiff hlen => ?_⟩
    refine ⟨p1, rfl, ⟨_, SqL.of hp1⟩, fun D hD => ?_⟩
    refine lcl_val (SqL.of hp1) hD (by unfold refs; rw [List.length_map]; omega) (fun x => match x with
      | .ref p => decide (0 < short f (rulOf H1 p))
      | _ => false) (fun x => x) ?_ (fun x H' Qe _ _ _ q => ⟨_, rfl, q H' (Same.refl _)⟩) ?_
    · intro x H2 Qt hx e2 q
      obtain ⟨y, hy, rfl⟩ := List.mem_map.mp hx
      have hr1 := hS y hy
      have hm : y.2 ∈ gapsOf L := (hiff _).mp (List.mem_map.mpr ⟨y, hy, rfl⟩)
      have q := q H2 (Same.refl _)
      simp only [rulOf_eq hr1] at q
      exact ⟨_, rfl, _, rfl, d, y.1, y.2, ns, f, rfl, (hd.same e1).same e2, hr1.same e2, hw _ hm, _, _, rfl, rfl, _, rfl, q⟩
    · intro H2 e2 hD2
      refine k H2 D (S.filter fun y => decide (0 < short f y.2)) (e1.trans e2) (e1.free hD) ?_ ?_
      · rw [hD2, List.map_id']
        unfold refs
        rw [List.filter_map]
        congr 3
        refine List.filter_congr fun y hy => ?_
        show decide (0 < short f (rulOf H1 y.1)) = _
        rw [rulOf_eq (hS y hy)]
      · rw [List.filter_eq_nil_iff]
        constructor
        · intro h r hr
          obtain ⟨y, hy, rfl⟩ := List.mem_map.mp ((hiff r).mpr hr)
          have := h y hy
          by_cases hb : Holds f y.2
          · exact hb
          · exact absurd (decide_eq_true (short_pos.mpr hb)) this
        · intro h y hy hb
          exact short_pos.mp (of_decide_eq_true hb) (h _ ((hiff _).mp (List.mem_map.mpr ⟨y, hy, rfl⟩)))
end
end K73
set_option maxHeartbeats 200000
namespace K73
open PySem PySem.Spec PyProof.Rows L2
theorem nd_len {α : Type} [DecidableEq α] : ∀ {xs ys : List α}, xs.Nodup → (∀ x ∈ xs, x ∈ ys) → xs.length ≤ ys.length
  | [], _, _, _ => Nat.zero_le _
  | x :: xs, ys, nd, h => by
    obtain ⟨h1, h2⟩ := List.nodup_cons.mp nd
    have hx := h x (.head _)
    have := nd_len (xs := xs) (ys := ys.erase x) h2 fun y hy => (List.mem_erase_of_ne fun z => h1 (by rw [← z]; exact hy)).mpr (h y (.tail _ hy))
    rw [List.length_erase_of_mem hx] at this
    have p : 0 < ys.length := List.length_pos_of_mem hx
    rw [List.length_cons]
    omega
def kP (a b : Option Str) : List Leaf := [lT a, lT b]
theorem kP_lV (a b : Option Str) : (kP a b).map lV = [vT a, vT b] := by
  show [lV (lT a), lV (lT b)] = _
  rw [lV_lT, lV_lT]
theorem kP_inj {a b c d : Option Str} (h : kP a b = kP c d) : a = c ∧ b = d := by
  unfold kP at h
  injection h with h1 h
  injection h with h2 _
  exact ⟨lT_inj h1, lT_inj h2⟩
def pairsOf (ts : List (Option Str)) : List (List Leaf) := ts.flatMap fun a => ts.map fun b => kP a b
theorem pairsOf_len (ts : List (Option Str)) : (pairsOf ts).length = ts.length * ts.length := by
  unfold pairsOf
  rw [List.length_flatMap]
  simp only [List.length_map]
  rw [List.map_const', List.sum_replicate_nat]
/-- a dict from pairs to numbers -/
def FAt (P : Program) (w : World) (H : Hp) (d : Addr) (ts : List (Option Str)) (F : PP Str) : Prop := ∃ xs : List XT, H d = some (oT P w d xs) ∧ KeysAt H xs ∧ (xs.map (·.1)).Nodup ∧ (∀ k ∈ xs.map (·.1), k ∈ pairsOf ts) ∧ ∀ a b, atX xs (kP a b) = (F a b).map V.int
section
variable {P : Program} {w : World} {K : PySem.W.Frag} {mg : Str → Option Value} {base : Heap} {H H' : Hp} {d : Addr} {ts : List (Option Str)} {F : PP Str}
theorem KeysAt.same {xs : List XT} (h : KeysAt H xs) (e : Same H H') : KeysAt H' xs := fun x hx => e _ _ (h x hx)
theorem FAt.same (h : FAt P w H d ts F) (e : Same H H') : FAt P w H' d ts F :=
  let ⟨xs, h1, h2, h3⟩ := h
  ⟨xs, e _ _ h1, h2.same e, h3⟩
theorem FAt.get (h : FAt P w H d ts F) {b : Addr} {x y : Option Str} (hb : H b = some (.tup [vT x, vT y])) : XGet P w H d (.ref b) ((F x y).map V.int) := by
  obtain ⟨xs, h1, h2, h3, h4, h5⟩ := h
  exact .inr ⟨xs, kP x y, b, .inl h1, h2, rfl, by rw [kP_lV]; exact hb, (h5 x y).symm⟩
theorem FAt.isX (h : FAt P w H d ts F) : IsX P w H d :=
  let ⟨xs, h1, _⟩ := h
  .inr ⟨xs, .inl h1⟩
theorem FAt.put (h : FAt P w H d ts F) (few : ts.length ≤ 100) {b : Addr} {x y : Option Str} (hx : x ∈ ts) (hy : y ∈ ts) (hb : H b = some (.tup [vT x, vT y])) (z : Int) : ∃ u, XPut P w H d (.ref b) (.int z) (upd H d u) ∧ FAt P w (upd H d u) d ts (setP F x y z) := by
  obtain ⟨xs, h1, h2, h3, h4, h5⟩ := h
  have big : (1000000 : Nat) < sizeLine := by decide
  have hl : xs.length ≤ ts.length * ts.length := by
    have := nd_len h3 h4
    rw [pairsOf_len, List.length_map] at this
    exact this
  have h100 : ts.length * ts.length ≤ 100 * 100 := Nat.mul_le_mul few few
  have hbd : b ≠ d := fun e => by rw [e, h1] at hb; cases hb
  have hb' : H b = some (.tup ((kP x y).map lV)) := by rw [kP_lV]; exact hb
  refine ⟨oT P w d (putX xs (kP x y) b (.int z)), .inr ⟨xs, kP x y, b, h1, h2, rfl, hb', by omega, rfl⟩, _, upd_same, ?_, nd_putX h3 _ _ _, ?_, fun a c => ?_⟩
  · intro q hq
    have := putX_keys (v := .int z) h2 hb' q hq
    rw [upd_ne fun e => by rw [e, h1] at this; cases this]
    exact this
  · intro k hk
    rw [keys_putX] at hk
    split at hk
    · exact h4 k hk
    · rcases List.mem_append.mp hk with hk | hk
      · exact h4 k hk
      · rw [List.mem_singleton.mp hk]
        exact List.mem_flatMap.mpr ⟨x, hx, List.mem_map.mpr ⟨y, hy, rfl⟩⟩
  · rw [atX_putX, h5]
    unfold setP
    by_cases e : a = x ∧ c = y
    · rw [if_pos e, e.1, e.2, if_pos rfl]
      rfl
    · rw [if_neg e, if_neg fun q => e (kP_inj q)]
theorem mk2 {x y : V} {Q : VK} (h : ∀ H1 t, Same H H1 → H t = none → H1 t = some (.tup [x, y]) → Q (.ref t) H1) : [x, y].length ≤ sizeLine ∧ ∀ t, H t = none → Q (.ref t) (upd H t (.tup [x, y])) := ⟨(by show 2 ≤ sizeLine; decide), fun t ht => h _ t (same_upd ht) ht upd_same⟩
theorem tup2 {σ : L2.St} (i j : Nat) {x y : V} {Q : VK} (hi : σ[i]? = some (some x)) (hj : σ[j]? = some (some y)) (h : ∀ H1 t, Same H H1 → H t = none → H1 t = some (.tup [x, y]) → Q (.ref t) H1) : tTup (tCons (tVar i) (tCons (tVar j) tNil)) σ H Q := ⟨x, hi, y, hj, mk2 h⟩
def joinedB (F : PP Str) (a b : Option Str) : Bool := match F a b, F b a with
  | some x, some y => decide (x + y = 0)
  | _, _ => false
def spLJoined (P : Program) (w : World) : Sp := fun vs H Q _ => ∃ (d : Addr) (ts : List (Option Str)) (F : PP Str) (a b : Option Str), vs = [.ref d, vT a, vT b] ∧ FAt P w H d ts F ∧ ∀ H', Same H H' → Q (.bl (joinedB F a b)) H'
theorem Tp.lJoined (Z : Tp K mg) : FnOk P w K mg base CX0 1 Z.gLJoined Z.dLJoined ["_law_far_here", "_law_first", "_law_second"] (spLJoined P w) := by
  refine Z.LJoined.fn.ok cLJoined (fun vs H Q E h => ?_) (fun cdv A outer s H vs Q E hr h => ?_)
  · obtain ⟨d, ts, F, a, b, rfl, _⟩ := h
    rfl
  · obtain ⟨d, ts, F, a, b, rfl, hF, k⟩ := h
    have hu := hu_of hr
    refine ⟨_, pss_one (ps_ret (pe_and (pe_cmp (pc_xin hu (pe_tup (pa_cons (pv 1) (pa_cons (pv 2) pa_nil))) (pv 0)))
      (pe_and (pe_cmp (pc_xin hu (pe_tup (pa_cons (pv 2) (pa_cons (pv 1) pa_nil))) (pv 0)))
      (pe_one (pe_cmpR op_eq (pe_op op_add (pe_xget hu (pv 0) (pe_tup (pa_cons (pv 1) (pa_cons (pv 2) pa_nil))) (fun _ _ => rfl)) (pe_xget hu (pv 0) (pe_tup (pa_cons (pv 2) (pa_cons (pv 1) pa_nil))) (fun _ _ => rfl))) pe_int (nomark _)))))), ?_⟩
    have le2 : 2 ≤ sizeLine := by decide
    refine ⟨_, rfl, _, rfl, le2, fun t1 ht1 => ⟨_, rfl, d, _, rfl, (hF.same (same_upd ht1)).get upd_same, _, rfl, ?_⟩⟩
    have e1 : Same H (upd H t1 (.tup [vT a, vT b])) := same_upd ht1
    generalize upd H t1 (.tup [vT a, vT b]) = H1 at e1 ⊢
    unfold joinedB at k
    cases hab : F a b with
    | none =>
      rw [hab] at k
      exact iteF (k _ e1)
    | some x =>
      refine iteT ⟨_, rfl, _, rfl, le2, fun t2 ht2 => ⟨_, rfl, d, _, rfl, ((hF.same e1).same (same_upd ht2)).get upd_same, _, rfl, ?_⟩⟩
      have e2 : Same H (upd H1 t2 (.tup [vT b, vT a])) := e1.trans (same_upd ht2)
      generalize upd H1 t2 (.tup [vT b, vT a]) = H2 at e2 ⊢
      cases hba : F b a with
      | none =>
        rw [hab, hba] at k
        exact iteF (k _ e2)
      | some y =>
        rw [hab, hba] at k
        refine iteT ⟨_, rfl, _, rfl, _, rfl, le2, fun t3 ht3 => ⟨d, .int x, rfl, by have := ((hF.same e2).same (same_upd ht3)).get (b := t3) (x := a) (y := b) upd_same; rw [hab] at this; exact this, ?_⟩⟩
        have e3 : Same H (upd H2 t3 (.tup [vT a, vT b])) := e2.trans (same_upd ht3)
        generalize upd H2 t3 (.tup [vT a, vT b]) = H3 at e3 ⊢
        refine ⟨_, rfl, _, rfl, _, rfl, le2, fun t4 ht4 => ⟨d, .int y, rfl, by have := ((hF.same e3).same (same_upd ht4)).get (b := t4) (x := b) (y := a) upd_same; rw [hba] at this; exact this, ?_⟩⟩
        have := k _ (e3.trans (same_upd (o := .tup [vT b, vT a]) ht4))
        refine ⟨_, _, rfl, rfl, ?_⟩
        refine ⟨rfl, ?_⟩
        have ed : decide (V.int (x + y) = V.int 0) = decide (x + y = 0) := by
          rw [Bool.eq_iff_iff, decide_eq_true_iff, decide_eq_true_iff]
          exact ⟨fun z => V.int.inj z, fun z => by rw [z]⟩
        show Q (.bl (decide (V.int (x + y) = V.int 0))) _
        rw [ed]
        exact this
end
end K73
set_option maxHeartbeats 200000
namespace K73
open PySem PySem.Spec PyProof.Rows L2
section
variable {P : Program} {w : World} {K : PySem.W.Frag} {mg : Str → Option Value} {base : Heap} {H H' : Hp} {d : Addr} {ts : List (Option Str)} {F : PP Str}
abbrev tKey (i j : Nat) : TE := tTup (tCons (tVar i) (tCons (tVar j) tNil))
abbrev rMx : List V → Hp → VK → Prop := fun xs H Q => ∃ i j, xs = [.int i, .int j] ∧ Q (.int (if j > i then j else i)) H
theorem far_put {iw : Nat} {σ : L2.St} {D : L2.Ends} {z : Int} {x y : Option Str} (h3 : σ[3]? = some (some (.ref d))) (h4 : σ[4]? = some (some (vT x))) (h5 : σ[5]? = some (some (vT y))) (hw : σ[iw]? = some (some (.int z)))
    (hF : FAt P w H d ts F) (few : ts.length ≤ 100) (hx : x ∈ ts) (hy : y ∈ ts) (k : ∀ H', But d H H' → FAt P w H' d ts (putMax F x y z) → D.nx σ H') :
    sXPut P w (tVar 3) (tKey 4 5) (tCB rMx (tCons (tVar iw) (tCons (tXGet2 P w (tVar 3) (tKey 4 5) (tVar iw)) tNil))) D σ H := by
  have le2 : 2 ≤ sizeLine := by decide
  have e0 : (Option.map V.int (F x y)).getD (.int z) = .int ((F x y).getD z) := by cases F x y <;> rfl
  refine ⟨_, hw, _, h3, d, rfl, hF.isX, _, h4, _, h5, le2, fun t1 ht1 => ⟨_, hw, _, (hF.same (same_upd ht1)).get upd_same, z, (F x y).getD z, by rw [e0], _, h3, _, h4, _, h5, le2, fun t2 ht2 => ?_⟩⟩
  have e1 : Same H (upd (upd H t1 (.tup [vT x, vT y])) t2 (.tup [vT x, vT y])) := (same_upd ht1).trans (same_upd ht2)
  have g2 : (upd (upd H t1 (.tup [vT x, vT y])) t2 (.tup [vT x, vT y])) t2 = some (.tup [vT x, vT y]) := upd_same
  generalize upd (upd H t1 (.tup [vT x, vT y])) t2 (.tup [vT x, vT y]) = H2 at e1 g2 ⊢
  obtain ⟨u, p1, p2⟩ := (hF.same e1).put few hx hy g2 (if (F x y).getD z > z then (F x y).getD z else z)
  refine ⟨d, _, rfl, p1, k _ ((Same.but e1 d).trans (But.upd u)) ?_⟩
  have e2 : putMax F x y z = setP F x y (if (F x y).getD z > z then (F x y).getD z else z) := by
    unfold putMax
    congr 1
    split <;> omega
  rw [e2]
  exact p2
theorem some_up {F : PP Str} {a b x y : Option Str} {z : Int} (h : (F x y).isSome = true) : (putMax F a b z x y).isSome = true := by
  obtain ⟨d, h⟩ := Option.isSome_iff_exists.mp h
  obtain ⟨e, h1, _⟩ := put_up (a := a) (b := b) (w := z) h
  rw [h1]
  rfl
theorem inner_up {mid a x y : Option Str} : ∀ (L : List (Option Str)) (F : PP Str), (F x y).isSome = true → (inner mid a L F x y).isSome = true
  | [], _, h => h
  | c :: L, F, h => inner_up L _ (some_up h)
theorem outer_up {T : List (Option Str)} {mid x y : Option Str} : ∀ (L : List (Option Str)) (F : PP Str), (F x y).isSome = true → (outer T mid L F x y).isSome = true
  | [], _, h => h
  | c :: L, F, h => outer_up L _ (inner_up _ _ h)
theorem FAt.but {e : Addr} (h : FAt P w H e ts F) (b : But d H H') (n : e ≠ d) (hd : ∀ vs, H d ≠ some (.tup vs)) : FAt P w H' e ts F :=
  let ⟨xs, h1, h2, h3⟩ := h
  ⟨xs, b _ _ n h1, fun q hq => b _ _ (fun z => hd _ (by rw [← z]; exact h2 q hq)) (h2 q hq), h3⟩
def spLFar (P : Program) (w : World) : Sp := fun vs H Q _ => ∃ (a g : Addr) (ns : List Str) (L : List (Addr × Rul)), vs = [.ref a, .ref g] ∧ H a = some (.lst (ns.map V.str)) ∧ H g = some (.lst (refs L)) ∧ Rules H L ∧ ns.Nodup ∧ ns.length ≤ 50 ∧ L.length ≤ 900 ∧ Within (gapsOf L) ns ∧
  ∀ (H' : Hp) (d : Addr), Same H H' → H d = none → FAt P w H' d (things ns) (farAll (gapsOf L) ns) → Q (.ref d) H'
theorem Tp.lFar (Z : Tp K mg) : FnOk P w K mg base CX0 1 Z.gLFar Z.dLFar ["_law_nyms_here", "_law_gaps_here"] (spLFar P w) := by
  have T := Z.nm
  refine Z.LFar.fn.ok cLFar (fun vs H Q E h => ?_) (fun cdv A ou s H vs Q E hr h => ?_)
  · obtain ⟨a, g, ns, L, rfl, _⟩ := h
    rfl
  · obtain ⟨a, g, ns, L, rfl, ha, hg, hR, nnd, few, fewL, wi, k⟩ := h
    have nd := cLFar.nd
    have hu := hu_of hr
    have hu64 := hr.units
    have big : (1000000 : Nat) < sizeLine := by decide
    refine ⟨_, pss_cons (ps_set (i := 2) nd rfl (Or.inl rfl) (pe_op op_cat (pe_lst (pa_cons pe_non pa_nil)) (pe_callTy call_list_of (by rfl) T.list boot_list (pa_cons (pv 0) pa_nil))))
      (pss_cons (ps_set (i := 3) nd rfl (Or.inr rfl) (pe_callTy (call_dictX rfl hu64) (by rfl) T.dict boot_dict (pa_cons (pe_lc (own := [("_law_thing", 9)]) (g := gName 9) (tt := tYes) rfl nd (pi_list (pv 2)) (blkOk_by (N := nLFar) (sc := defScope sLFar) (by decide +kernel))
          (fun _ _ _ _ _ => pg_name (i := 9) nd rfl (Or.inl rfl)) (fun _ _ _ _ _ => pts_nil) (fun _ _ _ _ _ => pe_tup (pa_cons (pe_tup (pa_cons (pv 9) (pa_cons (pv 9) pa_nil))) (pa_cons pe_int pa_nil)))) pa_nil)))
      (pss_cons (ps_for PassesOwn.never rfl (pi_list (pv 1)) (pg_tup rfl (pgs_cons (pg_name (i := 4) nd rfl (Or.inl rfl)) (pgs_cons (pg_name (i := 5) nd rfl (Or.inl rfl)) (pgs_cons (pg_name (i := 6) nd rfl (Or.inl rfl)) pgs_nil))))
        (pss_one (ps_xput hu (pv 3) (pe_tup (pa_cons (pv 4) (pa_cons (pv 5) pa_nil))) (pe_callB (call_max2 rfl) (by rfl) T.max boot_max (pa_cons (pv 6) (pa_cons (pe_xget2 hu (pv 3) (pe_tup (pa_cons (pv 4) (pa_cons (pv 5) pa_nil))) (pv 6) ⟨rfl, rfl, rfl, rfl⟩) pa_nil))))))
      (pss_cons (ps_for PassesOwn.never rfl (pi_list (pv 2)) (pg_name (i := 7) nd rfl (Or.inr rfl))
        (pss_one (ps_for PassesOwn.never rfl (pi_list (pe_lc (own := [("_law_one", 10)]) (g := gName 10) rfl nd (pi_list (pv 2)) (blkOk_by (N := nLFar) (sc := defScope sLFar) (by decide +kernel))
            (fun _ _ _ _ _ => pg_name (i := 10) nd rfl (Or.inl rfl)) (fun _ _ _ _ _ => pts_one (pt_cmp (pc_xinB P w hu (pe_tup (pa_cons (pv 10) (pa_cons (pv 7) pa_nil))) (pv 3)))) (fun _ _ _ _ _ => pv 10))) (pg_name (i := 4) nd rfl (Or.inl rfl))
          (pss_one (ps_for PassesOwn.never rfl (pi_list (pe_lc (own := [("_law_one", 10)]) (g := gName 10) rfl nd (pi_list (pv 2)) (blkOk_by (N := nLFar) (sc := defScope sLFar) (by decide +kernel))
              (fun _ _ _ _ _ => pg_name (i := 10) nd rfl (Or.inl rfl)) (fun _ _ _ _ _ => pts_one (pt_cmp (pc_xinB P w hu (pe_tup (pa_cons (pv 7) (pa_cons (pv 10) pa_nil))) (pv 3)))) (fun _ _ _ _ _ => pv 10))) (pg_name (i := 5) nd rfl (Or.inl rfl))
            (pss_cons (ps_set (i := 8) nd rfl (Or.inl rfl) (pe_op op_add (pe_xget hu (pv 3) (pe_tup (pa_cons (pv 4) (pa_cons (pv 7) pa_nil))) (fun _ _ => rfl)) (pe_xget hu (pv 3) (pe_tup (pa_cons (pv 7) (pa_cons (pv 5) pa_nil))) (fun _ _ => rfl))))
            (pss_one (ps_xput hu (pv 3) (pe_tup (pa_cons (pv 4) (pa_cons (pv 5) pa_nil))) (pe_callB (call_max2 rfl) (by rfl) T.max boot_max (pa_cons (pv 8) (pa_cons (pe_xget2 hu (pv 3) (pe_tup (pa_cons (pv 4) (pa_cons (pv 5) pa_nil))) (pv 8) ⟨rfl, rfl, rfl, rfl⟩) pa_nil)))))))))))
      (pss_one (ps_ret (pv 3)))))), ?_⟩
    refine ⟨(by show 1 ≤ sizeLine; decide), fun u hu1 => ⟨_, rfl, a, _, rfl, .inl (SqL.of ((same_upd hu1) _ _ ha)), fun v hv => ?_⟩⟩
    have huv : u ≠ v := fun z => by rw [← z, upd_same] at hv; cases hv
    refine ⟨u, v, _, _, rfl, rfl, by rw [upd_ne huv, upd_same], upd_same, by rw [List.length_map]; show 1 + ns.length ≤ sizeLine; omega, fun tA ht => ?_⟩
    have e1 : Same H (upd (upd (upd H u (.lst [.non])) v (.lst (ns.map V.str))) tA (.lst ([.non] ++ ns.map V.str))) := ((same_upd hu1).trans (same_upd hv)).trans (same_upd ht)
    have hT1 : (upd (upd (upd H u (.lst [.non])) v (.lst (ns.map V.str))) tA (.lst ([.non] ++ ns.map V.str))) tA = some (.lst ((things ns).map vT)) := by rw [upd_same, ← things_vT]; rfl
    refine nx_of ?_
    generalize upd (upd (upd H u (.lst [.non])) v (.lst (ns.map V.str))) tA (.lst ([.non] ++ ns.map V.str)) = H1 at e1 hT1 ⊢
    have tlen : (things ns).length = ns.length + 1 := by unfold things; rw [List.length_cons, List.length_map]
    have tnd : (things ns).Nodup := things_nodup nnd
    have le2 : 2 ≤ sizeLine := by decide
    refine ⟨_, rfl, tA, rfl, ⟨_, SqL.of hT1⟩, fun D hD => ?_⟩
    refine lc_rel walk_list hD ((things ns).map vT) rfl (by rw [List.length_map]; omega) (fun H' e => SqL.of (e _ _ hT1)) (fun i H x H' _ y => y) (fun _ => true)
      (fun x y H' => ∃ T b, y = .ref T ∧ H' T = some (.tup [.ref b, .int 0]) ∧ H' b = some (.tup [x, x])) (fun x y H H' e ⟨T, b, h1, h2, h3⟩ => ⟨T, b, h1, e _ _ h2, e _ _ h3⟩) (fun x H' Qt _ _ q => q H' (Same.refl _)) ?_ ?_
    · rintro x H' Qe hx _ e2 ⟨uD, hDu⟩ q
      refine ⟨_, rfl, _, rfl, le2, fun b hb => ⟨le2, fun T hT => ?_⟩⟩
      have nbD : b ≠ D := fun z => by rw [z, hDu] at hb; cases hb
      have hbT : b ≠ T := fun z => by rw [← z, upd_same] at hT; cases hT
      have hT0 := (same_upd hb).free hT
      have nTD : T ≠ D := fun z => by rw [z, hDu] at hT0; cases hT0
      exact q _ _ ((same_upd hb).trans (same_upd hT)) fun H5 e5 => ⟨T, b, rfl, e5 _ _ nTD upd_same, e5 _ _ nbD (by rw [upd_ne hbT, upd_same])⟩
    intro H2 ys e2 hD2 hp
    rw [List.filter_eq_self.mpr fun _ _ => rfl] at hp
    have e02 := e1.trans e2
    obtain ⟨Ts, X, rfl, hTs, hKX, hX1, hX2⟩ : ∃ (Ts : List Addr) (X : List XT), ys = Ts.map V.ref ∧ Paired (fun T (x : XT) => SqT K H2 T [.ref x.2.1, x.2.2]) Ts X ∧ KeysAt H2 X ∧ X.map (·.1) = (things ns).map (fun t => kP t t) ∧ ∀ x ∈ X, x.2.2 = .int 0 := by
      clear hD2 tlen tnd hT1 k wi hD
      generalize things ns = ts at hp
      induction ts generalizing ys with
      | nil =>
        cases hp
        exact ⟨[], [], rfl, .nil, (fun q hq => by cases hq), rfl, (fun q hq => by cases hq)⟩
      | cons t r ih =>
        cases hp with
        | cons h1 h2 =>
          obtain ⟨T, b, rfl, h3, h4⟩ := h1
          obtain ⟨Ts, X, rfl, g1, g2, g3, g4⟩ := ih _ h2
          refine ⟨T :: Ts, (kP t t, b, .int 0) :: X, rfl, .cons (SqT.of h3) g1, fun q hq => ?_, ?_, fun q hq => ?_⟩
          · cases hq with
            | head =>
              show H2 b = some (.tup ((kP t t).map lV))
              rw [kP_lV]
              exact h4
            | tail _ hq => exact g2 q hq
          · rw [List.map_cons, List.map_cons, g3]
          · cases hq with
            | head => rfl
            | tail _ hq => exact g4 q hq
    refine ⟨D, Ts, X, rfl, SqL.of hD2, hTs, hKX, fun dA hdA => ?_⟩
    have d0 : H dA = none := e02.free hdA
    have e3 : Same H2 (upd H2 dA (oT P w dA (putAllX [] X))) := same_upd hdA
    have hF3 : FAt P w (upd H2 dA (oT P w dA (putAllX [] X))) dA (things ns) (far0 ns) := by
      refine ⟨_, upd_same, (putAllX_keys X [] (fun q hq => by cases hq) hKX).same e3, nd_putAllX X [] .nil, fun k hk => ?_, fun x y => ?_⟩
      · rw [keys_putAllX, hX1] at hk
        rcases hk with hk | hk
        · cases hk
        · obtain ⟨t, ht, rfl⟩ := List.mem_map.mp hk
          exact List.mem_flatMap.mpr ⟨t, ht, List.mem_map.mpr ⟨t, ht, rfl⟩⟩
      · rw [at_putAllX X [] (kP x y) hX2, hX1]
        unfold far0
        by_cases c : x = y ∧ x ∈ things ns
        · rw [if_pos c, if_pos (List.mem_map.mpr ⟨x, c.2, by rw [← c.1]⟩)]
          rfl
        · rw [if_neg c, if_neg fun z => by
            obtain ⟨t, ht, e⟩ := List.mem_map.mp z
            obtain ⟨h1, h2⟩ := kP_inj e
            subst h1
            exact c ⟨h2, ht⟩]
          rfl
    have hT3 : (upd H2 dA (oT P w dA (putAllX [] X))) tA = some (.lst ((things ns).map vT)) := e3 _ _ (e2 _ _ hT1)
    have e03 : Same H (upd H2 dA (oT P w dA (putAllX [] X))) := e02.trans e3
    show L2.Ends.nx _ _ (upd H2 dA (oT P w dA (putAllX [] X)))
    refine nx_of ?_
    have ndt : tA ≠ dA := fun z => by rw [← z, e2 _ _ hT1] at hdA; cases hdA
    have nda : a ≠ dA := fun z => by rw [← z, ha] at d0; cases d0
    have ndg : g ≠ dA := fun z => by rw [← z, hg] at d0; cases d0
    generalize upd H2 dA (oT P w dA (putAllX [] X)) = H3 at hF3 hT3 e03 ⊢
    clear hTs hKX hX1 hX2 hdA e3 hD2 e2 e02
    refine ⟨_, rfl, g, rfl, ⟨_, SqL.of (e03 _ _ hg)⟩, ?_⟩
    have fewT : (things ns).length ≤ 100 := by omega
    have hdT : ∀ {H : Hp} {F : PP Str}, FAt P w H dA (things ns) F → ∀ vs, H dA ≠ some (.tup vs) := fun h vs z => by
      obtain ⟨xs, h1, _⟩ := h
      rw [z] at h1
      cases h1
    refine for_list (K := K) (a := g) (xs := refs L) (fun i σ H' => ∃ u4 u5 u6 : Option V, σ = [some (.ref a), some (.ref g), some (.ref tA), some (.ref dA), u4, u5, u6, none, none, none, none] ∧ But dA H3 H' ∧ FAt P w H' dA (things ns) (far1 (gapsOf (L.take i)) (far0 ns)))
      ⟨none, none, none, rfl, But.refl _ _, hF3⟩ (fun i σ H' _ ⟨_, _, _, _, e, _⟩ => SqL.of (e _ _ ndg (e03 _ _ hg))) ?_ ?_
    · rintro i y σ H4 hi ⟨u4, u5, u6, rfl, e4, hF4⟩
      obtain ⟨q, hq, rfl⟩ := refs_get hi
      have hm : q ∈ L := List.mem_of_getElem? hq
      have hmg : q.2 ∈ gapsOf L := List.mem_map.mpr ⟨q, hm, rfl⟩
      have nq : q.1 ≠ dA := fun z => by
        have : H q.1 = _ := hR q hm
        rw [z, d0] at this
        cases this
      have hp : RuleAt H4 q.1 q.2 := e4 _ _ nq (e03 _ _ (hR q hm))
      refine ⟨q.1, _, rfl, SqT.of hp, rfl, _, _, rfl, _, _, rfl, _, _, rfl, ⟨rfl, ?_⟩⟩
      show sXPut P w (tVar 3) (tKey 4 5) (tCB rMx (tCons (tVar 6) (tCons (tXGet2 P w (tVar 3) (tKey 4 5) (tVar 6)) tNil))) _ _ _
      refine far_put (d := dA) (F := far1 (gapsOf (L.take i)) (far0 ns)) rfl rfl rfl rfl hF4 fewT (lo_in wi hmg) (hi_in wi hmg) fun H5 e5 hF5 => ?_
      refine ⟨_, _, _, rfl, e4.trans e5, ?_⟩
      rw [take_snoc hq]
      unfold gapsOf far1
      rw [List.map_append, List.foldl_append]
      exact hF5
    · rintro σ H4 ⟨u4, u5, u6, rfl, e4, hF4⟩
      have hall : L.take (refs L).length = L := by unfold refs; rw [List.length_map, List.take_length]
      rw [hall] at hF4
      show L2.Ends.nx _ _ H4
      refine nx_of ?_
      have hT4 := e4 _ _ ndt hT3
      refine ⟨_, rfl, tA, rfl, ⟨_, SqL.of hT4⟩, ?_⟩
      refine for_list (K := K) (a := tA) (xs := (things ns).map vT) (fun i σ H' => ∃ u4 u5 u6 u7 u8 : Option V, σ = [some (.ref a), some (.ref g), some (.ref tA), some (.ref dA), u4, u5, u6, u7, u8, none, none] ∧ But dA H4 H' ∧ FAt P w H' dA (things ns) (far2 (things ns) ((things ns).take i) (far1 (gapsOf L) (far0 ns))))
        ⟨_, _, _, _, _, rfl, But.refl _ _, hF4⟩ (fun i σ H' _ ⟨_, _, _, _, _, _, e, _⟩ => SqL.of (e _ _ ndt hT4)) ?_ ?_
      · rintro i y σ H5 hi ⟨u4, u5, u6, u7, u8, rfl, e5, hF5⟩
        obtain ⟨mid, hmid, rfl⟩ : ∃ t, (things ns)[i]? = some t ∧ y = vT t := by
          rw [List.getElem?_map] at hi
          cases e : (things ns)[i]? with
          | none => rw [e] at hi; cases hi
          | some t => rw [e] at hi; exact ⟨t, rfl, (Option.some.inj hi).symm⟩
        rw [take_snoc hmid]
        unfold far2
        rw [List.foldl_append]
        have hml : mid ∈ things ns := List.mem_of_getElem? hmid
        show ∃ _, _
        have hF5 : FAt P w H5 dA (things ns) (far2 (things ns) ((things ns).take i) (far1 (gapsOf L) (far0 ns))) := hF5
        unfold far2 at hF5
        generalize List.foldl (fun F mid => phase (things ns) mid F) (far1 (gapsOf L) (far0 ns)) ((things ns).take i) = F5 at hF5 ⊢
        have nx1 : ∀ {H' : Hp} {D1 : Addr} {F : PP Str}, FAt P w H' dA (things ns) F → H' D1 = none → dA ≠ D1 := fun h h2 z => by
          obtain ⟨xs, h1, _⟩ := h
          rw [z, h2] at h1
          cases h1
        refine ⟨_, rfl, tA, rfl, ⟨_, SqL.of (e5 _ _ ndt hT4)⟩, fun D1 hD1 => ?_⟩
        refine lcl_val (SqL.of (e5 _ _ ndt hT4)) hD1 (by rw [List.length_map]; omega) (fun x => (F5 (unT x) mid).isSome) (fun x => x) ?_ (fun x H' Qe _ _ _ q => ⟨_, rfl, q H' (Same.refl _)⟩) ?_
        · intro x H6 Qt hx e6 q
          obtain ⟨t, ht, rfl⟩ := List.mem_map.mp hx
          refine ⟨_, rfl, _, rfl, le2, fun t1 ht1 => ⟨_, rfl, dA, _, rfl, ((hF5.same e6).same (same_upd ht1)).get (b := t1) (x := t) (y := mid) upd_same, _, rfl, ?_⟩⟩
          have q := q _ (same_upd (o := .tup [vT t, vT mid]) ht1)
          simp only [unT_vT] at q
          have eS : (Option.map V.int (F5 t mid)).isSome = (F5 t mid).isSome := by cases F5 t mid <;> rfl
          rw [eS]
          exact q
        intro H6 e6 hD6
        have flt : ∀ G : Option Str → Bool, (((things ns).map vT).filter fun x => G (unT x)).map (fun x => x) = ((things ns).filter G).map vT := fun G => by
          rw [List.map_id', List.filter_map]
          congr 1
          refine List.filter_congr fun t _ => ?_
          show G (unT (vT t)) = G t
          rw [unT_vT]
        rw [flt fun t => (F5 t mid).isSome] at hD6
        have nD1 := nx1 hF5 hD1
        have hF6 := hF5.same e6
        refine ⟨D1, rfl, ⟨_, SqL.of hD6⟩, ?_⟩
        show ∃ _, _
        refine for_list (K := K) (a := D1) (xs := ((things ns).filter fun a => (F5 a mid).isSome).map vT) (fun j σ H' => ∃ u4 u5 u8 : Option V, σ = [some (.ref a), some (.ref g), some (.ref tA), some (.ref dA), u4, u5, u6, some (vT mid), u8, none, none] ∧ But dA H6 H' ∧ FAt P w H' dA (things ns) (outer (things ns) mid (((things ns).filter fun a => (F5 a mid).isSome).take j) F5))
          ⟨_, _, _, rfl, But.refl _ _, hF6⟩ (fun i σ H' _ ⟨_, _, _, _, e, _⟩ => SqL.of (e _ _ nD1.symm hD6)) ?_ ?_
        · rintro j y σ H7 hj ⟨u4, u5, u8, rfl, e7, hF7⟩
          obtain ⟨s1, hs1, rfl⟩ : ∃ t, ((things ns).filter fun a => (F5 a mid).isSome)[j]? = some t ∧ y = vT t := by
            rw [List.getElem?_map] at hj
            cases e : ((things ns).filter fun a => (F5 a mid).isSome)[j]? with
            | none => rw [e] at hj; cases hj
            | some t => rw [e] at hj; exact ⟨t, rfl, (Option.some.inj hj).symm⟩
          obtain ⟨hm1, hm2⟩ := List.mem_filter.mp (List.mem_of_getElem? hs1)
          have hsome := outer_up (T := things ns) (mid := mid) (((things ns).filter fun a => (F5 a mid).isSome).take j) F5 hm2
          rw [take_snoc hs1]
          unfold outer
          rw [List.foldl_append]
          unfold outer at hF7 hsome
          generalize List.foldl (fun F a => inner mid a (List.filter (fun c => (F mid c).isSome) (things ns)) F) F5 (((things ns).filter fun a => (F5 a mid).isSome).take j) = F7 at hF7 hsome ⊢
          have hT7 : H7 tA = some (.lst ((things ns).map vT)) := e7 _ _ ndt (e6 _ _ (e5 _ _ ndt hT4))
          refine ⟨_, rfl, tA, rfl, ⟨_, SqL.of hT7⟩, fun D2 hD2 => ?_⟩
          refine lcl_val (SqL.of hT7) hD2 (by rw [List.length_map]; omega) (fun x => (F7 mid (unT x)).isSome) (fun x => x) ?_ (fun x H' Qe _ _ _ q => ⟨_, rfl, q H' (Same.refl _)⟩) ?_
          · intro x H8 Qt hx e8 q
            obtain ⟨t, ht, rfl⟩ := List.mem_map.mp hx
            refine ⟨_, rfl, _, rfl, le2, fun t1 ht1 => ⟨_, rfl, dA, _, rfl, ((hF7.same e8).same (same_upd ht1)).get (b := t1) (x := mid) (y := t) upd_same, _, rfl, ?_⟩⟩
            have q := q _ (same_upd (o := .tup [vT mid, vT t]) ht1)
            simp only [unT_vT] at q
            have eS : (Option.map V.int (F7 mid t)).isSome = (F7 mid t).isSome := by cases F7 mid t <;> rfl
            rw [eS]
            exact q
          intro H8 e8 hD8
          rw [flt fun t => (F7 mid t).isSome] at hD8
          have nD2 := nx1 hF7 hD2
          have hF8 := hF7.same e8
          refine ⟨D2, rfl, ⟨_, SqL.of hD8⟩, ?_⟩
          refine for_list (K := K) (a := D2) (xs := ((things ns).filter fun c => (F7 mid c).isSome).map vT) (fun j σ H' => ∃ u5 u8 : Option V, σ = [some (.ref a), some (.ref g), some (.ref tA), some (.ref dA), some (vT s1), u5, u6, some (vT mid), u8, none, none] ∧ But dA H8 H' ∧ FAt P w H' dA (things ns) (inner mid s1 (((things ns).filter fun c => (F7 mid c).isSome).take j) F7))
            ⟨_, _, rfl, But.refl _ _, hF8⟩ (fun i σ H' _ ⟨_, _, _, e, _⟩ => SqL.of (e _ _ nD2.symm hD8)) ?_ ?_
          · rintro l y σ H9 hl ⟨u5, u8, rfl, e9, hF9⟩
            obtain ⟨s2, hs2, rfl⟩ : ∃ t, ((things ns).filter fun c => (F7 mid c).isSome)[l]? = some t ∧ y = vT t := by
              rw [List.getElem?_map] at hl
              cases e : ((things ns).filter fun c => (F7 mid c).isSome)[l]? with
              | none => rw [e] at hl; cases hl
              | some t => rw [e] at hl; exact ⟨t, rfl, (Option.some.inj hl).symm⟩
            obtain ⟨hn1, hn2⟩ := List.mem_filter.mp (List.mem_of_getElem? hs2)
            have hq1 := inner_up (mid := mid) (a := s1) (((things ns).filter fun c => (F7 mid c).isSome).take l) F7 hsome
            have hq2 := inner_up (mid := mid) (a := s1) (((things ns).filter fun c => (F7 mid c).isSome).take l) F7 hn2
            rw [take_snoc hs2]
            unfold inner
            rw [List.foldl_append]
            unfold inner at hF9 hq1 hq2
            generalize List.foldl (fun F c => putMax F s1 c ((F s1 mid).getD 0 + (F mid c).getD 0)) F7 (((things ns).filter fun c => (F7 mid c).isSome).take l) = F9 at hF9 hq1 hq2 ⊢
            obtain ⟨z1, hz1⟩ := Option.isSome_iff_exists.mp hq1
            obtain ⟨z2, hz2⟩ := Option.isSome_iff_exists.mp hq2
            refine ⟨_, rfl, _, rfl, _, rfl, le2, fun t1 ht1 => ⟨dA, .int z1, rfl, by have := (hF9.same (same_upd ht1)).get (b := t1) (x := s1) (y := mid) upd_same; rw [hz1] at this; exact this, ?_⟩⟩
            have hF10 := hF9.same (same_upd (o := .tup [vT s1, vT mid]) ht1)
            have e10 : Same H9 (upd H9 t1 (.tup [vT s1, vT mid])) := same_upd ht1
            generalize upd H9 t1 (.tup [vT s1, vT mid]) = H10 at hF10 e10 ⊢
            refine ⟨_, rfl, _, rfl, _, rfl, le2, fun t2 ht2 => ⟨dA, .int z2, rfl, by have := (hF10.same (same_upd ht2)).get (b := t2) (x := mid) (y := s2) upd_same; rw [hz2] at this; exact this, _, _, rfl, rfl, ?_⟩⟩
            have hF11 := hF10.same (same_upd (o := .tup [vT mid, vT s2]) ht2)
            have e11 : Same H9 (upd H10 t2 (.tup [vT mid, vT s2])) := e10.trans (same_upd ht2)
            generalize upd H10 t2 (.tup [vT mid, vT s2]) = H11 at hF11 e11 ⊢
            show sXPut P w (tVar 3) (tKey 4 5) (tCB rMx (tCons (tVar 8) (tCons (tXGet2 P w (tVar 3) (tKey 4 5) (tVar 8)) tNil))) _ _ _
            refine far_put (d := dA) (F := F9) rfl rfl rfl rfl hF11 fewT hm1 hn1 fun H12 e12 hF12 => ?_
            refine ⟨_, _, rfl, (e9.trans (Same.but e11 dA)).trans e12, ?_⟩
            show FAt P w H12 dA (things ns) (putMax F9 s1 s2 ((F9 s1 mid).getD 0 + (F9 mid s2).getD 0))
            rw [hz1, hz2]
            exact hF12
          · rintro σ H9 ⟨u5, u8, rfl, e9, hF9⟩
            rw [List.length_map, List.take_length] at hF9
            exact ⟨_, _, _, rfl, (e7.trans (Same.but e8 dA)).trans e9, hF9⟩
        · rintro σ H7 ⟨u4, u5, u8, rfl, e7, hF7⟩
          rw [List.length_map, List.take_length] at hF7
          exact ⟨_, _, _, _, _, rfl, (e5.trans (Same.but e6 dA)).trans e7, hF7⟩
      · rintro σ H5 ⟨u4, u5, u6, u7, u8, rfl, e5, hF5⟩
        have hall : (things ns).take ((things ns).map vT).length = things ns := by rw [List.length_map, List.take_length]
        rw [hall] at hF5
        refine ⟨_, rfl, k H5 dA ?_ d0 hF5⟩
        exact fun b o e => (e4.trans e5) b o (fun z => by rw [z, d0] at e; cases e) (e03 b o e)
end
end K73
set_option maxHeartbeats 200000
namespace K73
open PySem PySem.Spec PyProof.Rows L2
section
variable {P : Program} {w : World} {K : PySem.W.Frag} {mg : Str → Option Value} {base : Heap} {H H' : Hp} {d : Addr} {ts : List (Option Str)} {F : PP Str}
theorem joined_mate {G : List Rul} {ns : List Str} {f : Str → Int} (wi : Within G ns) (ad : Adm G f) (nd : ns.Nodup) {a b : Option Str} (ha : a ∈ things ns) (hb : b ∈ things ns) : joinedB (farAll G ns) a b = true ↔ Mate G a b := by
  unfold joinedB
  constructor
  · intro h
    cases e1 : farAll G ns a b with
    | none => rw [e1] at h; cases h
    | some x =>
      cases e2 : farAll G ns b a with
      | none => rw [e1, e2] at h; cases h
      | some y =>
        rw [e1, e2] at h
        have h : x + y = 0 := of_decide_eq_true h
        have t1 := (far_tight wi ad nd ha).mp e1
        have t2 := (far_tight wi ad nd hb).mp e2
        exact ⟨x, t1.1, t2.1.cast (by omega)⟩
  · intro h
    have t1 := (far_tight wi ad nd ha).mpr (mate_tight h ad)
    have t2 := (far_tight wi ad nd hb).mpr (mate_tight h.symm ad)
    rw [t1, t2]
    exact decide_eq_true (by omega)
theorem letters_low : letters.cps.toList.all (fun c => decide (c < 0x110000)) = true := by decide +kernel
theorem okName_strOk {z : Str} (h : OkName z) : PyData.strOk z = true := by
  unfold PyData.strOk
  rw [← Array.all_toList, List.all_eq_true]
  intro c hc
  exact List.all_eq_true.mp letters_low c (h.2.2 c hc)
theorem shaped1 {z : Str} (h : OkName z) : SeqAt.shaped (.list [.str z]) = true := by
  unfold SeqAt.shaped
  simp [PyData.canLay0, PyData.canLayAll0, PyData.depth, PyData.depthAll, okName_strOk h]
open Classical in
theorem heads_pd {G : List Rul} {S : List Str} : heads G S = S.filter fun n => @decide (¬ Mate G none (some n) ∧ (blkOf G S n).head? = some n) (Classical.propDecidable _) := by
  unfold heads
  exact List.filter_congr fun n _ => decide_eq_decide.mpr Iff.rfl
theorem cut1 (m : V) (r : List V) : cutV (m :: r) none (some 1) = [m] := by
  unfold cutV
  have h1 : HT.sIx (m :: r).length 0 none = 0 := rfl
  have h2 : HT.sIx (m :: r).length (m :: r).length (some 1) = 1 := by
    have := HT.sIx_nat (r.length + 1) (r.length + 1) 1
    refine this.trans ?_
    omega
  rw [h1, h2]
  rfl
def spLBlocks (P : Program) (w : World) : Sp := fun vs H Q _ => ∃ (a d : Addr) (ns S : List Str) (G : List Rul) (F : PP Str), vs = [.ref a, .ref d] ∧ H a = some (.lst (ns.map V.str)) ∧ FAt P w H d (things ns) F ∧ S.Perm ns ∧ S.Pairwise sLt ∧ ns.length < 64 ∧ (∀ n ∈ S, OkName n) ∧
  (∀ a ∈ things ns, ∀ b ∈ things ns, joinedB F a b = true ↔ Mate G a b) ∧
  ∀ (H' : Hp) (r : Addr) (bs : List Addr), Same H H' → H r = none → H' r = some (.lst (bs.map V.ref)) → BlksAt H' G S bs → Q (.ref r) H'
theorem Tp.lBlocks (Z : Tp K mg) : FnOk P w K mg base CX0 2 Z.gLBlocks Z.dLBlocks ["_law_nyms_here", "_law_far_here"] (spLBlocks P w) := by
  have T := Z.nm
  have G1 := Z.lJoined (P := P) (w := w) (base := base)
  refine Z.LBlocks.fn.ok cLBlocks (fun vs H Q E h => ?_) (fun cdv A ou s H vs Q E hr h => ?_)
  · obtain ⟨a, d, ns, S, G, F, rfl, _⟩ := h
    rfl
  · obtain ⟨a, d, ns, S, G, F, rfl, ha, hF, pm, ord, few, okn, hj, k⟩ := h
    have nd := cLBlocks.nd
    have hu := hu_of hr
    have hu64 := hr.units
    have big : (1000000 : Nat) < sizeLine := by decide
    refine ⟨_, pss_cons (ps_set (i := 2) nd rfl (Or.inl rfl) (pe_lst pa_nil))
      (pss_cons (ps_for PassesOwn.never rfl (pi_list (pe_callB cr_sortedS (by rfl) T.sorted boot_sorted (pa_cons (pv 0) pa_nil))) (pg_name (i := 3) nd rfl (Or.inr rfl))
        (pss_cons (ps_setLc (i := 4) (own := [("_law_one", 5)]) (g := gName 5) rfl nd rfl rfl (sw_true rfl rfl rfl (by decide +kernel)) (pi_list (pe_callB cr_sortedS (by rfl) T.sorted boot_sorted (pa_cons (pv 0) pa_nil))) (blkOk_by (N := nLBlocks) (sc := defScope sLBlocks) (by decide +kernel))
            (fun _ _ _ _ _ => pg_name (i := 5) nd rfl (Or.inl rfl)) (fun _ _ _ _ _ => pts_one (ptv (pe_d Z.LJoined G1 hr rfl (pa_cons (pv 1) (pa_cons (pv 3) (pa_cons (pv 5) pa_nil)))))) (fun _ _ _ _ _ => pv 5))
        (pss_one (ps_if (PW.pt (pw_and (pt_not (ptv (pe_d Z.LJoined G1 hr rfl (pa_cons (pv 1) (pa_cons pe_non (pa_cons (pv 3) pa_nil)))))) (pw_and1 (pt_cmpR (op_eqD hu64) (pe_slice sl_list (pv 4) po_none (po_some pe_int)) (pe_lst (pa_cons (pv 3) pa_nil)) (nomark _)))))
          (pss_one (ps_expr (pe_bm PySem.F.plainAttrs_list PySem.F.slot_list_append PySem.F.type_list_append mt_append (pv 2) (pa_cons (pv 4) pa_nil)))) pss_nil))))
      (pss_one (ps_ret (pv 2)))), ?_⟩
    refine ⟨Nat.zero_le _, fun r nr => ?_⟩
    refine nx_of ?_
    have e1 : Same H (upd H r (.lst [])) := same_upd nr
    have hr1 : (upd H r (.lst [])) r = some (.lst []) := upd_same
    generalize upd H r (.lst []) = H1 at e1 hr1 ⊢
    refine ⟨_, rfl, a, ns, rfl, SqL.of (e1 _ _ ha), few, fun ys p1 pm1 so1 hp1 => ?_⟩
    obtain rfl : ys = S := sorted_is (pm1.trans pm.symm) so1 ord
    have e2 : Same H (upd H1 p1 (.lst (ys.map V.str))) := e1.trans (same_upd hp1)
    have hr2 : (upd H1 p1 (.lst (ys.map V.str))) r = some (.lst []) := (same_upd hp1) _ _ hr1
    have hp2 : (upd H1 p1 (.lst (ys.map V.str))) p1 = some (.lst (ys.map V.str)) := upd_same
    generalize upd H1 p1 (.lst (ys.map V.str)) = H2 at e2 hr2 hp2 ⊢
    have np : p1 ≠ r := fun z => by rw [z, hr1] at hp1; cases hp1
    have nar : a ≠ r := fun z => by rw [z, nr] at ha; cases ha
    have ndr : d ≠ r := fun z => by
      obtain ⟨xs, h1, _⟩ := hF
      rw [z, nr] at h1
      cases h1
    have hF2 := hF.same e2
    have ha2 := e2 _ _ ha
    have hlen : ys.length = ns.length := pm.length_eq
    have hin : ∀ n, n ∈ ys ↔ n ∈ ns := fun n => pm.mem_iff
    have hTh : ∀ n, n ∈ ys → some n ∈ things ns := fun n hn => mem_things.mpr fun x e => by cases e; exact (hin n).mp hn
    have hTn : none ∈ things ns := mem_things.mpr fun x e => by cases e
    let Pd : Str → Bool := fun n => @decide (¬ Mate G none (some n) ∧ (blkOf G ys n).head? = some n) (Classical.propDecidable _)
    have hheads : heads G ys = ys.filter Pd := heads_pd
    refine ⟨p1, rfl, ⟨_, SqL.of hp2⟩, ?_⟩
    refine for_list (K := K) (a := p1) (xs := ys.map V.str) (fun i σ H' => ∃ (u3 u4 : Option V) (bs : List Addr), σ = [some (.ref a), some (.ref d), some (.ref r), u3, u4, none] ∧ But r H2 H' ∧ H' r = some (.lst (bs.map V.ref)) ∧ Paired (fun n b => b ≠ r ∧ H' b = some (.lst ((blkOf G ys n).map V.str))) ((ys.take i).filter Pd) bs ∧ bs.length ≤ i)
      ⟨none, none, [], rfl, But.refl _ _, hr2, .nil, Nat.le_refl _⟩ (fun i σ H' _ ⟨_, _, _, _, e, _⟩ => SqL.of (e _ _ np hp2)) ?_ ?_
    · rintro i y σ H3 hi ⟨u3, u4, bs, rfl, e3, hr3, hbs, hbl⟩
      obtain ⟨n, hn, rfl⟩ := str_get hi
      have hm : n ∈ ys := List.mem_of_getElem? hn
      have hil : i < ys.length := (List.getElem?_eq_some_iff.mp hn).1
      have hF3 : FAt P w H3 d (things ns) F := hF2.but e3 ndr fun vs z => by rw [hr2] at z; cases z
      refine ⟨_, rfl, a, ns, rfl, SqL.of (e3 _ _ nar ha2), few, fun zs p3 pm3 so3 hp3 => ?_⟩
      obtain rfl : zs = ys := sorted_is (pm3.trans pm.symm) so3 ord
      refine ⟨p3, rfl, ⟨_, SqL.of upd_same⟩, fun D hD => ?_⟩
      have e4 : Same H3 (upd H3 p3 (.lst (zs.map V.str))) := same_upd hp3
      have hp4 : (upd H3 p3 (.lst (zs.map V.str))) p3 = some (.lst (zs.map V.str)) := upd_same
      generalize upd H3 p3 (.lst (zs.map V.str)) = H4 at e4 hp4 hD ⊢
      refine lcl_val (SqL.of hp4) hD (by rw [List.length_map]; omega) (fun x => @decide (Mate G (some n) (some (unS x))) (Classical.propDecidable _)) (fun x => x) ?_ (fun x H' Qe _ _ _ q => ⟨_, rfl, q H' (Same.refl _)⟩) ?_
      · intro x H5 Qt hx e5 q
        obtain ⟨m, hm', rfl⟩ := List.mem_map.mp hx
        refine ⟨_, rfl, _, rfl, _, rfl, d, things ns, F, some n, some m, rfl, (hF3.same e4).same e5, fun H6 e6 => ⟨_, rfl, ?_⟩⟩
        have q := q H6 e6
        have : joinedB F (some n) (some m) = @decide (Mate G (some n) (some (unS (V.str m)))) (Classical.propDecidable _) := by
          rw [Bool.eq_iff_iff, cdec]
          exact hj _ (hTh n hm) _ (hTh m hm')
        rw [this]
        exact q
      intro H5 e5 hD5
      have hD5 : H5 D = some (.lst ((blkOf G zs n).map V.str)) := by
        rw [hD5, List.map_id', List.filter_map]
        unfold blkOf
        congr 3
      show L2.Ends.nx _ _ H5
      refine nx_of ?_
      have hF5 := (hF3.same e4).same e5
      have e35 : But r H2 H5 := (e3.trans (Same.but e4 r)).trans (Same.but e5 r)
      have hr5 : H5 r = some (.lst (bs.map V.ref)) := e5 _ _ (e4 _ _ hr3)
      have hDr : D ≠ r := fun z => by rw [z, e4 _ _ hr3] at hD; cases hD
      have htk : zs.take (i + 1) = zs.take i ++ [n] := take_snoc hn
      have hb5 : Paired (fun n b => b ≠ r ∧ H5 b = some (.lst ((blkOf G zs n).map V.str))) ((zs.take i).filter Pd) bs := paired_mono (fun _ _ q => ⟨q.1, e5 _ _ (e4 _ _ q.2)⟩) hbs
      have hjn := hj _ hTn _ (hTh n hm)
      refine ⟨_, rfl, _, rfl, d, things ns, F, none, some n, rfl, hF5, fun H6 e6 => ⟨_, rfl, ?_⟩⟩
      have hD6 := e6 _ _ hD5
      have hr6 := e6 _ _ hr5
      have e26 : But r H2 H6 := e35.trans (Same.but e6 r)
      have hb6 : Paired (fun n b => b ≠ r ∧ H6 b = some (.lst ((blkOf G zs n).map V.str))) ((zs.take i).filter Pd) bs := paired_mono (fun _ _ q => ⟨q.1, e6 _ _ q.2⟩) hb5
      have pdn : Pd n = true ↔ ¬ Mate G none (some n) ∧ (blkOf G zs n).head? = some n := cdec
      by_cases hg : Mate G none (some n)
      · rw [hjn.mpr hg]
        refine iteF (iteF ⟨_, _, bs, rfl, e26, hr6, ?_, by omega⟩)
        rw [htk, List.filter_append, List.filter_cons, if_neg (fun z => (pdn.mp z).1 hg), List.filter_nil, List.append_nil]
        exact hb6
      · have : joinedB F none (some n) = false := by
          cases e : joinedB F none (some n) with
          | false => rfl
          | true => exact absurd (hjn.mp e) hg
        rw [this]
        obtain ⟨m, rest, hblk⟩ : ∃ m rest, blkOf G zs n = m :: rest := by
          have hmem : n ∈ blkOf G zs n := mem_blk.mpr ⟨hm, .refl _⟩
          cases e : blkOf G zs n with
          | nil => rw [e] at hmem; cases hmem
          | cons m rest => exact ⟨m, rest, rfl⟩
        rw [hblk, List.map_cons] at hD6
        refine iteT ⟨_, rfl, _, rfl, D, _, rfl, SqL.of hD6, fun c hc => ⟨_, rfl, (by show 1 ≤ sizeLine; decide), fun l hl => ?_⟩⟩
        rw [cut1] at hl ⊢
        have hcl : c ≠ l := fun z => by rw [← z, upd_same] at hl; cases hl
        have e67 : Same H6 (upd (upd H6 c (.lst [.str m])) l (.lst [.str n])) := (same_upd hc).trans (same_upd hl)
        have hc7 : (upd (upd H6 c (.lst [.str m])) l (.lst [.str n])) c = some (.lst [.str m]) := by rw [upd_ne hcl, upd_same]
        have hl7 : (upd (upd H6 c (.lst [.str m])) l (.lst [.str n])) l = some (.lst [.str n]) := upd_same
        generalize upd (upd H6 c (.lst [.str m])) l (.lst [.str n]) = H7 at e67 hc7 hl7 ⊢
        refine ⟨.list [.str m], .list [.str n], .lst (SqL.of hc7) (.cons (.str m) .nil), .lst (SqL.of hl7) (.cons (.str n) .nil), shaped1 (okn m (mem_blk.mp (by rw [hblk]; exact .head _)).1), shaped1 (okn n hm), ?_⟩
        have hr7 := e67 _ _ hr6
        have hb7 : Paired (fun n b => b ≠ r ∧ H7 b = some (.lst ((blkOf G zs n).map V.str))) ((zs.take i).filter Pd) bs := paired_mono (fun _ _ q => ⟨q.1, e67 _ _ q.2⟩) hb6
        have hD7 : H7 D = some (.lst ((blkOf G zs n).map V.str)) := by rw [hblk, List.map_cons]; exact e67 _ _ hD6
        have e27 : But r H2 H7 := e26.trans (Same.but e67 r)
        by_cases hmn : m = n
        · have : PyData.eqv (.list [.str m]) (.list [.str n]) = true := by simp [PyData.eqv, PyData.eqvAll, hmn]
          rw [this]
          refine ⟨_, rfl, iteT ⟨_, rfl, .inl ⟨rfl, _, SqL.of hr7⟩, _, rfl, r, _, _, rfl, rfl, hr7, ?_, ?_⟩⟩
          · rw [List.length_map]
            omega
          · refine ⟨_, _, bs ++ [D], rfl, e27.trans (But.upd _), ?_, ?_, by rw [List.length_append, List.length_singleton]; omega⟩
            · rw [upd_same, List.map_append]
              rfl
            · rw [htk, List.filter_append, List.filter_cons, if_pos (pdn.mpr ⟨hg, by rw [hblk, hmn]; rfl⟩), List.filter_nil]
              exact paired_snoc (paired_mono (fun _ _ q => ⟨q.1, by rw [upd_ne q.1]; exact q.2⟩) hb7) ⟨hDr, by rw [upd_ne hDr]; exact hD7⟩
        · have : PyData.eqv (.list [.str m]) (.list [.str n]) = false := by simp [PyData.eqv, PyData.eqvAll, hmn]
          rw [this]
          refine ⟨_, rfl, iteF ⟨_, _, bs, rfl, e27, hr7, ?_, by omega⟩⟩
          rw [htk, List.filter_append, List.filter_cons, if_neg (fun z => hmn (by have := (pdn.mp z).2; rw [hblk] at this; exact Option.some.inj this)), List.filter_nil, List.append_nil]
          exact hb7
    · rintro σ H3 ⟨u3, u4, bs, rfl, e3, hr3, hbs, hbl⟩
      rw [List.length_map, List.take_length, ← hheads] at hbs
      refine ⟨_, rfl, k H3 r bs (fun b o e => e3 b o (fun z => by rw [z, nr] at e; cases e) (e2 b o e)) nr hr3 (paired_mono (fun _ _ q => q.2) hbs)⟩
end
end K73
set_option maxHeartbeats 200000
namespace K73
open PySem PySem.Spec PyProof.Rows L2
section
variable {P : Program} {w : World} {K : PySem.W.Frag} {mg : Str → Option Value} {base : Heap} {H H' : Hp} {d : Addr}
def spLAfter : Sp := fun vs H Q _ => ∃ (d b : Addr) (c : Int) (ns B : List Str) (f : Str → Int), vs = [.ref d, .ref b, .int c] ∧ (c = 1 ∨ c = -1) ∧ PtAt H d ns f ∧ H b = some (.lst (B.map V.str)) ∧ ns.Pairwise sLt ∧ ns.length ≤ 60 ∧ ∀ H' p, Same H H' → H p = none → PtAt H' p ns (shift f B c) → Q (.ref p) H'
theorem Tp.lAfter (Z : Tp K mg) : FnOk P w K mg base CX0 1 Z.gLAfter Z.dLAfter ["_law_held", "_law_some_here", "_law_change"] spLAfter := by
  have T := Z.nm
  refine Z.LAfter.fn.ok cLAfter (fun vs H Q E h => ?_) (fun cdv A outer s H vs Q E hr h => ?_)
  · obtain ⟨d, b, c, ns, B, f, rfl, _⟩ := h
    rfl
  · obtain ⟨d, b, c, ns, B, f, rfl, hc1, hd, hb, ord, few, k⟩ := h
    have hu := hu_of hr
    have nd := cLAfter.nd
    have big : (100000 : Nat) < sizeLine := by decide
    have hcm : ∀ k : Bool, CMul c (if k = true then 1 else 0) := fun _ => .inl (by rcases hc1 with rfl | rfl <;> (constructor <;> decide))
    refine ⟨_, pss_one (ps_ret (pe_callTy (call_dictP rfl) (by rfl) T.dict boot_dict (pa_cons (pe_lc (own := [("_law_nym", 3)]) (g := gName 3) (tt := tYes) rfl nd (pi_list (pe_callB (call_sortedD rfl) rfl T.sorted boot_sorted (pa_cons (pv 0) pa_nil))) (blkOk_by (N := nLAfter) (sc := defScope sLAfter) (by decide +kernel))
        (fun _ _ _ _ _ => pg_name (i := 3) nd rfl (Or.inl rfl)) (fun _ _ _ _ _ => pts_nil)
        (fun _ _ _ _ _ => pe_tup (pa_cons (pv 3) (pa_cons (pe_op op_add (pe_dget hu (pv 0) (pv 3) (fun _ _ => rfl)) (pe_op op_mul (pv 2) (pe_callTy call_int1 (by rfl) T.int boot_int (pa_cons (pe_cmpR (op_inB K) (pv 3) (pv 1) (by rfl)) pa_nil)))) pa_nil)))) pa_nil))), ?_⟩
    refine ⟨_, rfl, d, _, ns, rfl, .inl hd, pt_keys, by omega, fun ys p hp hs np => ?_⟩
    have ey := sorted_is hp hs ord
    subst ey
    have e1 : Same H (upd H p (.lst (ys.map V.str))) := same_upd np
    have hl : SqL K (upd H p (.lst (ys.map V.str))) p (ys.map V.str) := SqL.of upd_same
    generalize upd H p (.lst (ys.map V.str)) = H1 at e1 hl ⊢
    refine ⟨p, rfl, ⟨_, hl⟩, fun D hD => ?_⟩
    refine lc_rel walk_list hD (ys.map V.str) rfl (by rw [List.length_map]; omega) (fun H' e => e.seq hl) (fun i H x H' _ y => y) (fun _ => true)
      (fun x y H' => ∃ T, y = .ref T ∧ H' T = some (.tup [x, .int (shift f B c (unS x))])) (fun x y H H' e ⟨T, h1, h2⟩ => ⟨T, h1, e _ _ h2⟩) (fun x H' Qt _ _ q => q H' (Same.refl _)) ?_ ?_
    · rintro x H' Qe hx _ e2 ⟨uD, hDu⟩ q
      obtain ⟨n, hn, rfl⟩ := List.mem_map.mp hx
      have hd' := hd.same (e1.trans e2)
      have fin : ∀ T, H' T = none → Qe (.ref T) (upd H' T (.tup [.str n, .int (shift f B c n)])) := fun T hT =>
        q _ _ (same_upd hT) fun H5 e5 => ⟨T, rfl, e5 _ _ (fun z => by rw [z, hDu] at hT; cases hT) upd_same⟩
      refine ⟨_, rfl, _, rfl, _, rfl, d, _, rfl, hd'.get hn, _, rfl, _, rfl, _, rfl, b, _, rfl, .inl (SqL.of ((e1.trans e2) _ _ hb)), rfl, flat_strs B, .inr ⟨_, rfl, ?_⟩⟩
      rw [if_neg Bool.false_ne_true, inV_strs]
      refine ⟨_, _, rfl, rfl, hcm _, ⟨_, _, rfl, rfl, (by show 2 ≤ sizeLine; decide), fun T hT => ?_⟩⟩
      have e0 : f n + c * (if decide (n ∈ B) = true then 1 else 0) = shift f B c n := by
        by_cases hB : n ∈ B
        · rw [if_pos (decide_eq_true hB), shift_in hB, Int.mul_one]
        · rw [if_neg (fun z => hB (of_decide_eq_true z)), shift_out hB, Int.mul_zero, Int.add_zero]
      have := fin T hT
      rw [← e0] at this
      exact this
    · intro H2 ys2 e2 hD2 hp2
      rw [List.filter_eq_self.mpr fun _ _ => rfl] at hp2
      obtain ⟨ts, rfl, hts⟩ : ∃ ts : List Addr, ys2 = ts.map V.ref ∧ Paired (fun t nym => H2 t = some (.tup [.str nym, .int (shift f B c nym)])) ts ys := by
        clear hD2 ord hs hp few k hd hl
        induction ys generalizing ys2 with
        | nil =>
          cases hp2
          exact ⟨[], rfl, .nil⟩
        | cons n r ih =>
          cases hp2 with
          | cons h1 h2 =>
            obtain ⟨T, rfl, h3⟩ := h1
            obtain ⟨ts, rfl, h4⟩ := ih _ h2
            exact ⟨T :: ts, rfl, .cons h3 h4⟩
      refine ⟨D, ts, pt ys (shift f B c), rfl, SqL.of hD2, pairs_pt hts, fun r hr' => ?_⟩
      rw [merge_pt (lt_nodup ord)]
      exact k _ r ((e1.trans e2).trans (same_upd hr')) ((e1.trans e2).free hr') upd_same
end
end K73
set_option maxHeartbeats 200000
namespace K73
open PySem PySem.Spec PyProof.Rows L2
theorem call_dictPB {X : Cx} (K : PySem.W.Frag) (hcalm : X.calm = true) (hK : X.K = K := by rfl) : CallR X (.type "dict") (fun xs H Q => ∃ (a : Addr) (ps : List Addr) (kvs : List (Key × V)), xs = [.ref a] ∧ SqL K H a (ps.map V.ref) ∧ Paired (fun p kv => SqT K H p [kV kv.1, kv.2]) ps kvs ∧
    ∀ p, H p = none → Q (.ref p) (upd H p (.dK (mergeK [] kvs)))) := by
  subst hK
  exact call_dictP hcalm
section
variable {P : Program} {w : World} {K : PySem.W.Frag} {mg : Str → Option Value} {base : Heap} {H H' : Hp} {d : Addr}
def unR : V → Addr
  | .ref a => a
  | _ => default
/-- [(.., .., ..) for nym in nyms]: asks -/
theorem lc_rules {a : Addr} {ns : List Str} {te : TE} {j : Nat} {σ : L2.St} {H1 : Hp} {D : Addr} {Qd : Hp → Prop} (hl : SqL K H1 a (ns.map V.str)) (hD : H1 D = none) (few : ns.length ≤ 1000) (mk : Str → Rul)
    (he : ∀ n H' (Qe : VK), n ∈ ns → Same H1 H' → (∀ T, H' T = none → Qe (.ref T) (upd H' T (.tup [vT (mk n).lo, vT (mk n).hi, .int (mk n).gap]))) → te (σ.set j (some (.str n))) H' Qe)
    (hd : ∀ H' (L : List (Addr × Rul)), Same H1 H' → H' D = some (.lst (refs L)) → Rules H' L → gapsOf L = ns.map mk → Qd H') :
    ∃ W : Nat → Nat → Hp → Prop, (∃ m, W 0 m (upd H1 D (.lst []))) ∧ ∀ i m H, W i m H →
      ((Itl K a).stop i H ∧ Qd H) ∨ ((Itl K a).go i H ∧ ∃ Nx : Hp → Prop, (∀ H', Nx H' → ∃ m', m' < m ∧ W (i + 1) m' H') ∧ ∀ x H', (Itl K a).yld i H x H' → gName j x (wipe σ [j]) H' fun σ2 H2 => wipe σ2 [j] = wipe σ [j] ∧ tYes σ2 H2 fun b H3 =>
        if b = true then te σ2 H3 fun y H4 => ∃ acc, H4 D = some (.lst acc) ∧ acc.length < sizeLine ∧ Nx (upd H4 D (.lst (acc ++ [y]))) else Nx H3) := by
  have big : (1000000 : Nat) < sizeLine := by decide
  refine lc_rel walk_list hD (ns.map V.str) rfl (by rw [List.length_map]; omega) (fun H' e => e.seq hl) (fun i H x H' _ y => y) (fun _ => true)
    (fun x y H' => ∃ T, y = .ref T ∧ RuleAt H' T (mk (unS x))) (fun x y H H' e ⟨T, h1, h2⟩ => ⟨T, h1, e _ _ h2⟩) (fun x H' Qt _ _ q => q H' (Same.refl _)) ?_ ?_
  · rintro x H' Qe hx _ e2 ⟨uD, hDu⟩ q
    obtain ⟨n, hn, rfl⟩ := List.mem_map.mp hx
    exact he n H' Qe hn e2 fun T hT => q _ _ (same_upd hT) fun H5 e5 => ⟨T, rfl, e5 _ _ (fun z => by rw [z, hDu] at hT; cases hT) upd_same⟩
  · intro H2 ys e2 hD2 hp
    rw [List.filter_eq_self.mpr fun _ _ => rfl] at hp
    obtain ⟨L, rfl, hL, hm⟩ : ∃ L : List (Addr × Rul), ys = refs L ∧ Rules H2 L ∧ gapsOf L = ns.map mk := by
      clear hD2 few he hd hl
      induction ns generalizing ys with
      | nil =>
        cases hp
        exact ⟨[], rfl, (fun q hq => by cases hq), rfl⟩
      | cons n r ih =>
        cases hp with
        | cons h1 h2 =>
          obtain ⟨T, rfl, h3⟩ := h1
          obtain ⟨L, rfl, h4, h5⟩ := ih _ h2
          refine ⟨(T, mk n) :: L, rfl, fun q hq => ?_, ?_⟩
          · cases hq with
            | head => exact h3
            | tail _ hq => exact h4 q hq
          · show mk n :: gapsOf L = _
            rw [h5]
            rfl
    exact hd H2 L e2 hD2 hL hm
theorem PtAt.inj {S : List Str} {f g : Str → Int} (h1 : PtAt H d S f) (h2 : PtAt H d S g) : ∀ n ∈ S, f n = g n := by
  have h : pt S f = pt S g := by
    have := h1.symm.trans h2
    injection this with this
    injection this
  intro n hn
  unfold pt at h
  have := List.map_inj_left.mp h n hn
  injection this with _ this
  injection this
theorem adm_congr {G : List Rul} {S : List Str} {f g : Str → Int} (wi : Within G S) (h : ∀ n ∈ S, f n = g n) (ad : Adm G f) : Adm G g := fun r hr => by
  have v : ∀ t ∈ things S, valAt g t = valAt f t := fun t ht => by
    cases t with
    | none => rfl
    | some x => exact (h x (mem_things.mp ht x rfl)).symm
  have := ad r hr
  unfold Holds at this ⊢
  rw [v _ (lo_in wi hr), v _ (hi_in wi hr)]
  exact this
theorem merge_one {T : List Str} {g : Str → Int} {n : Str} {z : Int} (nd : (T ++ [n]).Nodup) : mergeK [] (pt T g ++ [(Sum.inr n, V.int z)]) = pt (T ++ [n]) (fun x => if x = n then z else g x) := by
  have hn : n ∉ T := fun h => (List.nodup_append.mp nd).2.2 _ h _ (List.mem_singleton.mpr rfl) rfl
  have e : pt T g ++ [(Sum.inr n, V.int z)] = pt (T ++ [n]) (fun x => if x = n then z else g x) := by
    have h1 : pt T g = pt T (fun x => if x = n then z else g x) := pt_congr fun x hx => by
      show g x = if x = n then z else g x
      rw [if_neg fun w => hn (by rw [← w]; exact hx)]
    rw [h1]
    unfold pt
    rw [List.map_append, List.map_cons, List.map_nil]
    show _ = _ ++ [(Sum.inr n, V.int (if n = n then z else g n))]
    rw [if_pos rfl]
  rw [e, merge_pt nd]
theorem ps_pt {T : List Str} {g : Str → Int} : ∀ {ts : List Addr}, Paired (fun (t : Addr) (q : Key × V) => H t = some (.tup [kV q.1, q.2])) ts (pt T g) → Paired (fun p (kv : Key × V) => SqT K H p [kV kv.1, kv.2]) ts (pt T g) := fun h => paired_mono (fun _ _ q => SqT.of q) h
theorem news_of {T : List Str} {F : Nat → Str → Int} : ∀ {xs : List Nat} {ys : List V}, Paired (fun (x : Nat) (y : V) => ∃ b, y = .ref b ∧ PtAt H b T (F x)) xs ys → ∃ news : List (Addr × (Str → Int)), ys = news.map (fun q => V.ref q.1) ∧ Paired (fun x q => q.2 = F x ∧ PtAt H q.1 T q.2) xs news
  | _, _, .nil => ⟨[], rfl, .nil⟩
  | x :: xs, _, .cons h t => by
    obtain ⟨b, rfl, h1⟩ := h
    obtain ⟨news, rfl, h2⟩ := news_of t
    exact ⟨(b, F x) :: news, rfl, .cons ⟨rfl, h1⟩ h2⟩
theorem paired_unmap {α β γ : Type} {g : α → β} {F : β → γ → Prop} : ∀ {xs : List α} {ys : List γ}, Paired F (xs.map g) ys → Paired (fun x y => F (g x) y) xs ys
  | [], _, .nil => .nil
  | _ :: _, _, .cons a t => .cons a (paired_unmap t)
def unI : V → Int
  | .int i => i
  | _ => 0
/-- what the law's box holds -/
structure BoxAt (H : Hp) (a g e : Addr) (ns S : List Str) (L : List (Addr × Rul)) (E : List (Addr × (Str → Int))) : Prop where
  nyms : H a = some (.lst (ns.map V.str))
  ok : OkNyms ns
  perm : S.Perm ns
  ord : S.Pairwise sLt
  gaps : H g = some (.lst (refs L))
  rules : Rules H L
  fewL : L.length ≤ 16
  wi : Within (gapsOf L) ns
  okR : ∀ q ∈ L, OkRule q.2
  every : H e = some (.lst (E.map fun q => V.ref q.1))
  pts : ∀ q ∈ E, PtAt H q.1 S q.2 ∧ Adm (gapsOf L) q.2 ∧ ∀ n ∈ S, -950 ≤ q.2 n ∧ q.2 n ≤ 950
  all : ∀ m : Str → Int, Adm (gapsOf L) m → ∃ q ∈ E, ∀ n ∈ S, q.2 n = m n
  fewE : E.length ≤ 125
  some : E ≠ []
def spLBox : Sp := fun vs H Q _ => ∃ (p c : Addr) (n : Nat), vs = [.ref p] ∧ PenB H p c n ∧ n < 2 ^ 47 ∧
  ∀ (H' : Hp) (r a g e : Addr) (ns S : List Str) (L : List (Addr × Rul)) (E : List (Addr × (Str → Int))), But p H H' → H r = none → PenB H' p c (n + 60) → H' r = some (.tup [.ref a, .ref g, .ref e]) → BoxAt H' a g e ns S L E → a ≠ p → g ≠ p → e ≠ p → Q (.ref r) H'
theorem Tp.lBox (Z : Tp K mg) : FnOk P w K mg base CX0 5 Z.gLBox Z.dLBox ["_law_pen_here"] spLBox := by
  have T := Z.nm
  have GN := Z.lNyms (P := P) (w := w) (base := base)
  have GD := Z.lDraw (P := P) (w := w) (base := base)
  have GG := Z.lGoal (P := P) (w := w) (base := base)
  have GA := Z.lGaps (P := P) (w := w) (base := base)
  have GB := Z.lBroken (P := P) (w := w) (base := base)
  refine Z.LBox.fn.ok cLBox (fun vs H Q E h => ?_) (fun cdv A outer s H vs Q E hr h => ?_)
  · obtain ⟨p, c, n, rfl, _⟩ := h
    rfl
  · obtain ⟨p, c, n, rfl, hP, hn, k⟩ := h
    have hu := hu_of hr
    have hu0 := Nat.lt_of_succ_lt hu
    have nd := cLBox.nd
    have big : (1000000 : Nat) < sizeLine := by decide
    refine ⟨_, pss_cons (ps_set (i := 1) nd rfl (Or.inl rfl) (pe_d Z.LNyms GN (hr.mono (by decide)) rfl (pa_cons (pv 0) (pa_cons pe_int pa_nil))))
      (pss_cons (ps_set (i := 2) nd rfl (Or.inr rfl) (pe_ix ix_list (pe_lst (pa_cons pe_int (pa_cons pe_int (pa_cons pe_int pa_nil)))) (pe_d Z.LDraw GD (hr.mono (by decide)) rfl (pa_cons (pv 0) (pa_cons pe_int pa_nil))) (fun _ _ => rfl)))
      (pss_cons (ps_set (i := 3) nd rfl (Or.inr rfl) (pe_d Z.LGoal GG (hr.mono (by decide)) rfl (pa_cons (pv 0) (pa_cons (pv 1) pa_nil))))
      (pss_cons (ps_set (i := 5) nd rfl (Or.inr rfl) (pe_lc (own := [("_law_nym", 4)]) (g := gName 4) (tt := tYes) rfl nd (pi_list (pv 1)) (blkOk_by (N := nLBox) (sc := defScope sLBox) (by decide +kernel))
          (fun _ _ _ _ _ => pg_name (i := 4) nd rfl (Or.inl rfl)) (fun _ _ _ _ _ => pts_nil)
          (fun _ _ _ _ _ => pe_tup (pa_cons pe_non (pa_cons (pv 4) (pa_cons (pe_callB (call_max2 rfl) (by rfl) T.max boot_max (pa_cons (pe_un un_neg pe_int) (pa_cons (pe_dget hu (pv 3) (pv 4) (fun _ _ => rfl)) pa_nil))) pa_nil))))))
      (pss_cons (ps_set (i := 5) nd rfl (Or.inr rfl) (pe_op op_cat (pv 5) (pe_lc (own := [("_law_nym", 4)]) (g := gName 4) (tt := tYes) rfl nd (pi_list (pv 1)) (blkOk_by (N := nLBox) (sc := defScope sLBox) (by decide +kernel))
          (fun _ _ _ _ _ => pg_name (i := 4) nd rfl (Or.inl rfl)) (fun _ _ _ _ _ => pts_nil)
          (fun _ _ _ _ _ => pe_tup (pa_cons (pv 4) (pa_cons pe_non (pa_cons (pe_callB (call_max2 rfl) (by rfl) T.max boot_max (pa_cons (pe_un un_neg pe_int) (pa_cons (pe_op op_sub (pe_op op_sub pe_int (pv 2)) (pe_dget hu (pv 3) (pv 4) (fun _ _ => rfl))) pa_nil))) pa_nil)))))))
      (pss_cons (ps_set (i := 6) nd rfl (Or.inl rfl) (pe_callTy (call_dictP rfl) (by rfl) T.dict boot_dict (pa_cons (pe_lc (own := [("_law_nym", 4)]) (g := gName 4) (tt := tYes) rfl nd (pi_list (pv 1)) (blkOk_by (N := nLBox) (sc := defScope sLBox) (by decide +kernel))
          (fun _ _ _ _ _ => pg_name (i := 4) nd rfl (Or.inl rfl)) (fun _ _ _ _ _ => pts_nil)
          (fun _ _ _ _ _ => pe_tup (pa_cons (pv 4) (pa_cons (pe_op op_add (pe_dget hu (pv 3) (pv 4) (fun _ _ => rfl)) (pe_d Z.LDraw GD (hr.mono (by decide)) rfl (pa_cons (pv 0) (pa_cons (pv 2) pa_nil)))) pa_nil)))) pa_nil)))
      (pss_cons (ps_set (i := 7) nd rfl (Or.inl rfl) (pe_callTy (call_dictP rfl) (by rfl) T.dict boot_dict (pa_cons (pe_lc (own := [("_law_nym", 4)]) (g := gName 4) (tt := tYes) rfl nd (pi_list (pv 1)) (blkOk_by (N := nLBox) (sc := defScope sLBox) (by decide +kernel))
          (fun _ _ _ _ _ => pg_name (i := 4) nd rfl (Or.inl rfl)) (fun _ _ _ _ _ => pts_nil)
          (fun _ _ _ _ _ => pe_tup (pa_cons (pv 4) (pa_cons (pe_op op_add (pe_dget hu (pv 3) (pv 4) (fun _ _ => rfl)) (pe_d Z.LDraw GD (hr.mono (by decide)) rfl (pa_cons (pv 0) (pa_cons (pv 2) pa_nil)))) pa_nil)))) pa_nil)))
      (pss_cons (ps_set (i := 5) nd rfl (Or.inr rfl) (pe_op op_cat (pv 5) (pe_d Z.LGaps GA (hr.mono (by decide)) rfl (pa_cons (pv 0) (pa_cons (pv 1) (pa_cons (pe_lst (pa_cons (pv 6) (pa_cons (pv 7) pa_nil))) (pa_cons pe_int pa_nil)))))))
      (pss_cons (ps_set (i := 8) nd rfl (Or.inl rfl) (pe_lst (pa_cons pe_dnewK pa_nil)))
      (pss_cons (ps_for PassesOwn.never rfl (pi_list (pe_callB cr_sortedS (by rfl) T.sorted boot_sorted (pa_cons (pv 1) pa_nil))) (pg_name (i := 4) nd rfl (Or.inr rfl))
        (pss_cons (ps_set (i := 9) nd rfl (Or.inl rfl) (pe_lst pa_nil))
        (pss_cons (ps_for PassesOwn.never rfl (pi_list (pv 8)) (pg_name (i := 10) nd rfl (Or.inr rfl))
          (pss_one (ps_set (i := 9) nd rfl (Or.inl rfl) (pe_op op_cat (pv 9) (pe_lc (own := [("_law_k", 11)]) (g := gName 11) (tt := tYes) rfl nd (pi_range1 rfl T.range (pa_cons (pv 2) pa_nil)) (blkOk_by (N := nLBox) (sc := defScope sLBox) (by decide +kernel))
            (fun _ _ _ _ _ => pg_name (i := 11) nd rfl (Or.inl rfl)) (fun _ _ _ _ _ => pts_nil)
            (fun _ _ _ _ _ => pe_callTy (call_dictPB K rfl) (by rfl) T.dict boot_dict (pa_cons (pe_op op_cat (LiI.pe_listItems rfl (pv 10) (by rfl) T.list boot_list) (pe_lst (pa_cons (pe_tup (pa_cons (pv 4) (pa_cons (pe_op op_add (pe_dget hu (pv 3) (pv 4) (fun _ _ => rfl)) (pv 11)) pa_nil))) pa_nil))) pa_nil)))))))
        (pss_one (ps_set (i := 8) nd rfl (Or.inl rfl) (pv 9))))))
      (pss_one (ps_ret (pe_tup (pa_cons (pv 1) (pa_cons (pv 5) (pa_cons (pe_lc (own := [("_law_held", 10)]) (g := gName 10) rfl nd (pi_list (pv 8)) (blkOk_by (N := nLBox) (sc := defScope sLBox) (by decide +kernel))
          (fun _ _ _ _ _ => pg_name (i := 10) nd rfl (Or.inl rfl)) (fun _ _ _ _ _ => pts_one (pt_cmpR (op_eqNilB K hu0) (pe_d Z.LBroken GB (hr.mono (by decide)) rfl (pa_cons (pv 5) (pa_cons (pv 10) pa_nil))) (pe_lst pa_nil) (by rfl))) (fun _ _ _ _ _ => pv 10)) pa_nil))))))))))))))), ?_⟩
    refine ⟨_, rfl, p, c, n, rfl, hP, by omega, fun H1 a ns eB1 a0 hP1 ha1 ok => ?_⟩
    refine nx_of ?_
    have nap : a ≠ p := hP.apart a0
    have fw := ok.few
    refine ⟨(by show 3 ≤ sizeLine; decide), fun q hq => ?_⟩
    have hq1 : (upd H1 q (.lst [.int 2, .int 3, .int 5])) q = some (.lst [.int 2, .int 3, .int 5]) := upd_same
    have nqp := hP1.apart hq
    refine ⟨_, rfl, p, c, n + 4, 3, rfl, hP1.same (same_upd hq), by omega, by decide, by decide, fun H2 d0 d0a d0b eB2 hP2 => ?_⟩
    have ha2 := eB2 _ _ nap ((same_upd (o := .lst [.int 2, .int 3, .int 5]) hq) _ _ ha1)
    have eB12 : But p H1 H2 := (Same.but (same_upd hq) p).trans eB2
    have hq2 := eB2 _ _ nqp hq1
    obtain ⟨j, rfl⟩ := Int.eq_ofNat_of_zero_le d0a
    obtain ⟨sz, hsz, sz1, sz2⟩ : ∃ sz : Nat, ([.int 2, .int 3, .int 5] : List V)[j]? = some (.int (sz : Int)) ∧ 2 ≤ sz ∧ sz ≤ 5 := by
      have hj : j < 3 := by omega
      match j, hj with
      | 0, _ => exact ⟨2, rfl, by decide, by decide⟩
      | 1, _ => exact ⟨3, rfl, by decide, by decide⟩
      | 2, _ => exact ⟨5, rfl, by decide, by decide⟩
    refine ⟨q, _, _, _, rfl, rfl, SqL.of hq2, atI_nat hsz, ?_⟩
    refine nx_of ?_
    refine ⟨_, rfl, _, rfl, p, c, a, n + 4 + 1, ns, rfl, hP2, by omega, ha2, nap, ok, fun H3 d f eB3 dn hP3 hd3 hf => ?_⟩
    refine nx_of ?_
    have ha3 := eB3 _ _ nap ha2
    have ndp : d ≠ p := hP2.apart dn
    have eB03 : But p H H3 := (eB1.trans eB12).trans eB3
    clear eB12 hq hq1 hq2 nqp hsz eB1 eB2 ha1 ha2 hP1 hP2 a0 dn eB3 d0b
    -- the asks of the box
    refine ⟨_, rfl, a, rfl, ⟨_, SqL.of ha3⟩, fun D1 hD1 => ?_⟩
    refine lc_rules (SqL.of ha3) hD1 (by omega) (fun x => ⟨none, some x, f x⟩) ?_ ?_
    · intro x H' Qe hx e q
      refine ⟨_, rfl, _, rfl, _, rfl, _, rfl, d, _, rfl, (hd3.same e).get hx, -999, f x, rfl, (by show 3 ≤ sizeLine; decide), fun T hT => ?_⟩
      have := q T hT
      have := hf x hx
      rw [if_pos (by omega)]
      exact q T hT
    intro H4 L1 e4 hD4 hR4 hG4
    refine nx_of ?_
    have hP4 := hP3.same e4
    have ha4 := e4 _ _ ha3
    have hd4 := hd3.same e4
    refine ⟨_, rfl, _, rfl, a, rfl, ⟨_, SqL.of ha4⟩, fun D2 hD2 => ?_⟩
    refine lc_rules (SqL.of ha4) hD2 (by omega) (fun x => ⟨some x, none, 1 - sz - f x⟩) ?_ ?_
    · intro x H' Qe hx e q
      refine ⟨_, rfl, _, rfl, _, rfl, _, _, rfl, rfl, _, rfl, _, rfl, d, _, rfl, (hd4.same e).get hx, _, _, rfl, rfl, -999, 1 - sz - f x, rfl, (by show 3 ≤ sizeLine; decide), fun T hT => ?_⟩
      have := hf x hx
      rw [if_pos (by omega)]
      exact q T hT
    intro H5 L2 e5 hD5 hR5 hG5
    have hl1 : L1.length = ns.length := by have := congrArg List.length hG4; rw [List.length_map, List.length_map] at this; exact this
    have hl2 : L2.length = ns.length := by have := congrArg List.length hG5; rw [List.length_map, List.length_map] at this; exact this
    refine ⟨D1, D2, _, _, rfl, rfl, e5 _ _ hD4, hD5, by unfold refs; rw [List.length_map, List.length_map]; omega, fun r1 hr1 => ?_⟩
    refine nx_of ?_
    have e36 : Same H3 (upd H5 r1 (.lst (refs L1 ++ refs L2))) := (e4.trans e5).trans (same_upd hr1)
    have hg6 : (upd H5 r1 (.lst (refs L1 ++ refs L2))) r1 = some (.lst (refs (L1 ++ L2))) := by
      rw [upd_same]
      unfold refs
      rw [List.map_append]
    have hR6 : Rules (upd H5 r1 (.lst (refs L1 ++ refs L2))) (L1 ++ L2) := fun q hq => by
      rcases List.mem_append.mp hq with hq | hq
      · exact (same_upd hr1) _ _ (e5 _ _ (hR4 q hq))
      · exact (same_upd hr1) _ _ (hR5 q hq)
    have nr1p : r1 ≠ p := hP4.apart (e5.free hr1)
    generalize upd H5 r1 (.lst (refs L1 ++ refs L2)) = H6 at e36 hg6 hR6 ⊢
    have hP6 := hP3.same e36
    have ha6 := e36 _ _ ha3
    have hd6 := hd3.same e36
    have eB06 : But p H H6 := eB03.trans (Same.but e36 p)
    clear hr1 hD5 hR5 hD2 hD4 hR4 hD1 e5 e4 hP4 ha4 hd4 hP3 e36 eB03 hd3 ha3
    -- two points of the box
    refine ⟨_, rfl, a, rfl, ⟨_, SqL.of ha6⟩, fun D3 hD3 => ?_⟩
    refine lc_draws (SqL.of ha6) nap hD3 hP6 ok.nd (by omega) (fun x v => f x ≤ v ∧ v ≤ f x + (sz - 1)) ?_ ?_
    · intro i x H' Qe hi eB hP' q
      have hx : x ∈ ns := List.mem_of_getElem? hi
      have hil := (List.getElem?_eq_some_iff.mp hi).1
      refine ⟨_, rfl, _, rfl, _, rfl, d, _, rfl, PtAt.get (eB _ _ ndp hd6) hx, _, rfl, _, rfl, p, c, n + 4 + 1 + 4 + i, sz, rfl, hP', by omega, by omega, by omega, fun H'' v v0 v1 eB' hP'' => ⟨_, _, rfl, rfl, (by show 2 ≤ sizeLine; decide), fun t ht => ?_⟩⟩
      exact q H'' _ eB' hP'' (by omega) t ht
    intro H7 ts3 f3 eB7 hP7 hD7 hp3 hf3
    refine ⟨D3, ts3, pt ns f3, rfl, SqL.of hD7, pairs_pt hp3, fun d3 hd3 => ?_⟩
    rw [merge_pt ok.nd]
    refine nx_of ?_
    have hd3a : PtAt (upd H7 d3 (.dK (pt ns f3))) d3 ns f3 := upd_same
    have eB08 : But p H6 (upd H7 d3 (.dK (pt ns f3))) := eB7.trans (Same.but (same_upd hd3) p)
    have hP8 := hP7.same (same_upd (o := .dK (pt ns f3)) hd3)
    have nd3p : d3 ≠ p := hP7.apart hd3
    generalize upd H7 d3 (.dK (pt ns f3)) = H8 at hd3a eB08 hP8 ⊢
    have ha8 := eB08 _ _ nap ha6
    have hd8 : PtAt H8 d ns f := eB08 _ _ ndp hd6
    refine ⟨_, rfl, a, rfl, ⟨_, SqL.of ha8⟩, fun D4 hD4 => ?_⟩
    refine lc_draws (SqL.of ha8) nap hD4 hP8 ok.nd (by omega) (fun x v => f x ≤ v ∧ v ≤ f x + (sz - 1)) ?_ ?_
    · intro i x H' Qe hi eB hP' q
      have hx : x ∈ ns := List.mem_of_getElem? hi
      have hil := (List.getElem?_eq_some_iff.mp hi).1
      refine ⟨_, rfl, _, rfl, _, rfl, d, _, rfl, PtAt.get (eB _ _ ndp hd8) hx, _, rfl, _, rfl, p, c, n + 4 + 1 + 4 + ns.length + i, sz, rfl, hP', by omega, by omega, by omega, fun H'' v v0 v1 eB' hP'' => ⟨_, _, rfl, rfl, (by show 2 ≤ sizeLine; decide), fun t ht => ?_⟩⟩
      exact q H'' _ eB' hP'' (by omega) t ht
    intro H9 ts4 f4 eB9 hP9 hD9 hp4 hf4
    refine ⟨D4, ts4, pt ns f4, rfl, SqL.of hD9, pairs_pt hp4, fun d4 hd4 => ?_⟩
    rw [merge_pt ok.nd]
    refine nx_of ?_
    have hd4a : PtAt (upd H9 d4 (.dK (pt ns f4))) d4 ns f4 := upd_same
    have eB09 : But p H8 (upd H9 d4 (.dK (pt ns f4))) := eB9.trans (Same.but (same_upd hd4) p)
    have hP10 := hP9.same (same_upd (o := .dK (pt ns f4)) hd4)
    have nd4p : d4 ≠ p := hP9.apart hd4
    have nd34 : d3 ≠ d4 := fun z => by
      have : H9 d3 = some (.dK (pt ns f3)) := eB9 _ _ nd3p hd3a
      rw [z, hd4] at this
      cases this
    generalize upd H9 d4 (.dK (pt ns f4)) = H10 at hd4a eB09 hP10 ⊢
    have eB610 : But p H6 H10 := eB08.trans eB09
    have ha10 := eB610 _ _ nap ha6
    have hd10 : PtAt H10 d ns f := eB610 _ _ ndp hd6
    have hg10 := eB610 _ _ nr1p hg6
    have hR10 := hR6.but hP6 eB610
    have hd3b : PtAt H10 d3 ns f3 := eB09 _ _ nd3p hd3a
    have eB010 : But p H H10 := eB06.trans eB610
    clear eB7 eB9 hP7 hP8 hP9 hd3 hd4 hD3 hD4 hD7 hD9 hp3 hp4 hd3a ha6 ha8 hd6 hd8 hg6 hR6 eB06 eB08 eB09 hP6 eB610
    refine ⟨_, rfl, _, rfl, _, rfl, _, rfl, _, rfl, (by show 2 ≤ sizeLine; decide), fun gA hgA => ?_⟩
    have ngp : gA ≠ p := hP10.apart hgA
    refine ⟨p, c, a, gA, d3, d4, n + 4 + 1 + 4 + ns.length + ns.length, ns, f3, f4, rfl, hP10.same (same_upd hgA), by omega, (same_upd hgA) _ _ ha10, nap, ok, upd_same, ngp, (same_upd hgA) _ _ hd3b, (same_upd hgA) _ _ hd4a, nd34, fun H11 r2 L3 eB11 r20 hP11 hr2 hR3 hl3 good => ?_⟩
    have eB1011 : But p H10 H11 := (Same.but (same_upd hgA) p).trans eB11
    have hg11 := eB1011 _ _ nr1p hg10
    refine ⟨r1, r2, _, _, rfl, rfl, hg11, hr2, by unfold refs; rw [List.length_map, List.length_map, List.length_append]; omega, fun r3 hr3 => ?_⟩
    refine nx_of ?_
    have e12 : Same H11 (upd H11 r3 (.lst (refs (L1 ++ L2) ++ refs L3))) := same_upd hr3
    have hg12 : (upd H11 r3 (.lst (refs (L1 ++ L2) ++ refs L3))) r3 = some (.lst (refs (L1 ++ L2 ++ L3))) := by
      rw [upd_same]
      unfold refs
      simp only [List.map_append]
    have nr3p : r3 ≠ p := hP11.apart hr3
    have hR12 : Rules (upd H11 r3 (.lst (refs (L1 ++ L2) ++ refs L3))) (L1 ++ L2 ++ L3) := fun q hq => by
      rcases List.mem_append.mp hq with hq | hq
      · exact e12 _ _ ((hR10.but hP10 eB1011) q hq)
      · exact e12 _ _ (hR3 q hq)
    generalize upd H11 r3 (.lst (refs (L1 ++ L2) ++ refs L3)) = H12 at e12 hg12 hR12 ⊢
    have eB012 : But p H H12 := (eB010.trans eB1011).trans (Same.but e12 p)
    have ha12 := e12 _ _ (eB1011 _ _ nap ha10)
    have hd12 : PtAt H12 d ns f := e12 _ _ (eB1011 _ _ ndp hd10)
    have hP12 := hP11.same e12
    clear hr3 hg10 hg11 hr2 hR3 hR10 eB010 eB1011 e12 eB11 hP11 hP10 hgA hd3b hd4a ha10 hd10
    -- all points of the box
    refine fun z0 hz0 => ⟨(by show 1 ≤ sizeLine; decide), fun fA hfA => ?_⟩
    refine nx_of ?_
    have e13 : Same H12 (upd (upd H12 z0 (.dK [])) fA (.lst [.ref z0])) := (same_upd hz0).trans (same_upd hfA)
    have hz13 : (upd (upd H12 z0 (.dK [])) fA (.lst [.ref z0])) z0 = some (.dK []) := (same_upd hfA) _ _ upd_same
    have hf13 : (upd (upd H12 z0 (.dK [])) fA (.lst [.ref z0])) fA = some (.lst [.ref z0]) := upd_same
    generalize upd (upd H12 z0 (.dK [])) fA (.lst [.ref z0]) = H13 at e13 hz13 hf13 ⊢
    refine ⟨_, rfl, a, ns, rfl, SqL.of (e13 _ _ ha12), by omega, fun S pS pm so hpS => ?_⟩
    have e14 : Same H12 (upd H13 pS (.lst (S.map V.str))) := e13.trans (same_upd hpS)
    have hp14 : (upd H13 pS (.lst (S.map V.str))) pS = some (.lst (S.map V.str)) := upd_same
    have hz14 := (same_upd (o := .lst (S.map V.str)) hpS) _ _ hz13
    have hf14 := (same_upd (o := .lst (S.map V.str)) hpS) _ _ hf13
    generalize upd H13 pS (.lst (S.map V.str)) = H14 at e14 hp14 hz14 hf14 ⊢
    have Snd : S.Nodup := pm.nodup_iff.mpr ok.nd
    have Sord : S.Pairwise sLt := sorted_lt so Snd
    have Slen : S.length = ns.length := pm.length_eq
    have Smem : ∀ x, x ∈ S ↔ x ∈ ns := fun x => pm.mem_iff
    have hd14 := hd12.same e14
    clear e13 hpS hz13 hf13
    refine ⟨pS, rfl, ⟨_, SqL.of hp14⟩, ?_⟩
    refine for_list (K := K) (a := pS) (xs := S.map V.str) (fun i σ H' => ∃ (u4 u9 u10 : Option V) (fA : Addr) (Es : List (Addr × (Str → Int))), σ = [some (.ref p), some (.ref a), some (.int sz), some (.ref d), u4, some (.ref r3), some (.ref d3), some (.ref d4), some (.ref fA), u9, u10, none] ∧ Same H14 H' ∧ H' fA = some (.lst (Es.map fun q => V.ref q.1)) ∧
        (∀ q ∈ Es, PtAt H' q.1 (S.take i) q.2 ∧ ∀ x ∈ S.take i, f x ≤ q.2 x ∧ q.2 x ≤ f x + (sz - 1)) ∧ (∀ m : Str → Int, (∀ x ∈ S.take i, f x ≤ m x ∧ m x ≤ f x + (sz - 1)) → ∃ q ∈ Es, ∀ x ∈ S.take i, q.2 x = m x) ∧ Es.length ≤ 5 ^ i)
      ⟨none, none, none, fA, [(z0, fun _ => 0)], rfl, Same.refl _, hf14, ?_, ?_, Nat.le_refl _⟩ (fun i σ H' _ ⟨_, _, _, _, _, _, e, _⟩ => SqL.of (e _ _ hp14)) ?_ ?_
    · intro q hq
      rw [List.mem_singleton.mp hq]
      exact ⟨hz14, fun x hx => by simp at hx⟩
    · intro m _
      exact ⟨_, .head _, fun x hx => by simp at hx⟩
    · rintro i y σ H15 hi ⟨u4, u9, u10, fB, Es, rfl, e15, hf15, hE1, hE2, hE3⟩
      obtain ⟨nym, hn, rfl⟩ := str_get hi
      have hmS : nym ∈ S := List.mem_of_getElem? hn
      have hil : i < S.length := (List.getElem?_eq_some_iff.mp hn).1
      have htk : S.take (i + 1) = S.take i ++ [nym] := take_snoc hn
      have hnd1 : (S.take i ++ [nym]).Nodup := by rw [← htk]; exact Snd.sublist (List.take_sublist _ _)
      have hnin : nym ∉ S.take i := nd_take Snd hn
      have E3b : Es.length ≤ 25 := by
        have : i ≤ 2 := by omega
        match i, this with
        | 0, _ => exact Nat.le_trans hE3 (by decide)
        | 1, _ => exact Nat.le_trans hE3 (by decide)
        | 2, _ => exact hE3
      refine ⟨Nat.zero_le _, fun gA hgA => ?_⟩
      refine nx_of ?_
      have e16 : Same H15 (upd H15 gA (.lst [])) := same_upd hgA
      have hg16 : (upd H15 gA (.lst [])) gA = some (.lst []) := upd_same
      generalize upd H15 gA (.lst []) = H16 at e16 hg16 ⊢
      have hf16 := e16 _ _ hf15
      have e1416 : Same H14 H16 := e15.trans e16
      refine ⟨_, rfl, fB, rfl, ⟨_, SqL.of hf16⟩, ?_⟩
      refine for_list (K := K) (a := fB) (xs := Es.map fun q => V.ref q.1) (fun j σ H' => ∃ (gB : Addr) (u10 : Option V) (Fs : List (Addr × (Str → Int))), σ = [some (.ref p), some (.ref a), some (.int sz), some (.ref d), some (.str nym), some (.ref r3), some (.ref d3), some (.ref d4), some (.ref fB), some (.ref gB), u10, none] ∧ Same H16 H' ∧ H' gB = some (.lst (Fs.map fun q => V.ref q.1)) ∧
          (∀ q ∈ Fs, PtAt H' q.1 (S.take i ++ [nym]) q.2 ∧ ∀ x ∈ S.take i ++ [nym], f x ≤ q.2 x ∧ q.2 x ≤ f x + (sz - 1)) ∧ (∀ q0 ∈ Es.take j, ∀ l : Nat, l < sz → ∃ q ∈ Fs, (∀ x ∈ S.take i, q.2 x = q0.2 x) ∧ q.2 nym = f nym + l) ∧ Fs.length ≤ sz * j)
        ⟨gA, u10, [], rfl, Same.refl _, hg16, (fun q hq => by cases hq), (fun q hq => by simp at hq), Nat.zero_le _⟩ (fun i σ H' _ ⟨_, _, _, _, e, _⟩ => SqL.of (e _ _ hf16)) ?_ ?_
      · rintro j y σ H17 hj ⟨gB, u10, Fs, rfl, e17, hg17, hF1, hF2, hF3⟩
        obtain ⟨q0, hq0, rfl⟩ : ∃ q, Es[j]? = some q ∧ y = V.ref q.1 := by
          rw [List.getElem?_map] at hj
          cases e : Es[j]? with
          | none => rw [e] at hj; cases hj
          | some q => rw [e] at hj; exact ⟨q, rfl, (Option.some.inj hj).symm⟩
        have hqm : q0 ∈ Es := List.mem_of_getElem? hq0
        have hjl : j < Es.length := (List.getElem?_eq_some_iff.mp hq0).1
        have hpt0 : PtAt H17 q0.1 (S.take i) q0.2 := ((hE1 q0 hqm).1.same e16).same e17
        have hd17 := (hd14.same e1416).same e17
        have hszj : sz * j ≤ 5 * 25 := Nat.mul_le_mul sz2 (by omega)
        refine ⟨_, rfl, _, rfl, (sz : Int), rfl, by omega, by omega, fun D hD => ?_⟩
        have etn : (sz : Int).toNat = sz := Int.toNat_natCast sz
        rw [etn]
        refine lc_rel walk_range hD ((List.range sz).map fun l : Nat => V.int (0 + (l : Int))) (by rw [List.length_map, List.length_range]) (by omega) (fun H' e => trivial) (fun l H x H' hl y => ⟨y.1, by rw [List.getElem?_map, List.getElem?_range hl]; exact congrArg some y.2.symm⟩) (fun _ => true)
          (fun x y H' => ∃ b, y = .ref b ∧ PtAt H' b (S.take i ++ [nym]) (fun x' => if x' = nym then f nym + unI x else q0.2 x')) (fun x y H H' e ⟨b, h1, h2⟩ => ⟨b, h1, h2.same e⟩) (fun x H' Qt _ _ q => q H' (Same.refl _)) ?_ ?_
        · rintro x H18 Qe hx _ e18 ⟨uD, hDu⟩ q
          obtain ⟨l, hl, rfl⟩ := List.mem_map.mp hx
          refine ⟨_, rfl, q0.1, _, rfl, hpt0.same e18, fun H19 p1 ts e19 p10 ts0 pts hp1 hts => ?_⟩
          have e19 : Same H18 H19 := e19
          refine ⟨_, rfl, _, rfl, _, rfl, d, _, rfl, ((hd17.same e18).same e19).get ((Smem nym).mp hmS), _, rfl, _, _, rfl, rfl, (by show 2 ≤ sizeLine; decide), fun T hT => ⟨(by show 1 ≤ sizeLine; decide), fun L0 hL0 => ?_⟩⟩
          have e20 : Same H19 (upd (upd H19 T (.tup [.str nym, .int (f nym + (0 + (l : Int)))])) L0 (.lst [.ref T])) := (same_upd hT).trans (same_upd hL0)
          have hT20 : (upd (upd H19 T (.tup [.str nym, .int (f nym + (0 + (l : Int)))])) L0 (.lst [.ref T])) T = some (.tup [.str nym, .int (f nym + (0 + (l : Int)))]) := (same_upd hL0) _ _ upd_same
          have hL20 : (upd (upd H19 T (.tup [.str nym, .int (f nym + (0 + (l : Int)))])) L0 (.lst [.ref T])) L0 = some (.lst [.ref T]) := upd_same
          generalize upd (upd H19 T (.tup [.str nym, .int (f nym + (0 + (l : Int)))])) L0 (.lst [.ref T]) = H20 at e20 hT20 hL20 ⊢
          have htl : ts.length = (S.take i).length := by rw [paired_len hts, pt_length]
          have hti : (S.take i).length ≤ 3 := by rw [List.length_take]; omega
          refine ⟨p1, L0, ts.map V.ref, [.ref T], rfl, rfl, e20 _ _ hp1, hL20, by rw [List.length_map, List.length_singleton]; omega, fun R0 hR0 => ?_⟩
          have e21 : Same H19 (upd H20 R0 (.lst (ts.map V.ref ++ [.ref T]))) := e20.trans (same_upd hR0)
          have hT21 := (same_upd (o := .lst (ts.map V.ref ++ [.ref T])) hR0) _ _ hT20
          have hR21 : (upd H20 R0 (.lst (ts.map V.ref ++ [.ref T]))) R0 = some (.lst ((ts ++ [T]).map V.ref)) := by rw [upd_same, List.map_append]; rfl
          generalize upd H20 R0 (.lst (ts.map V.ref ++ [.ref T])) = H21 at e21 hT21 hR21 ⊢
          have hS21 : SqT K H21 T [kV ((Sum.inr nym, V.int (f nym + (0 + (l : Int)))) : Key × V).1, ((Sum.inr nym, V.int (f nym + (0 + (l : Int)))) : Key × V).2] := SqT.of hT21
          refine ⟨R0, ts ++ [T], pt (S.take i) q0.2 ++ [(Sum.inr nym, .int (f nym + (0 + (l : Int))))], rfl, SqL.of hR21, paired_snoc (ps_pt (paired_mono (fun _ _ z => e21 _ _ z) hts)) hS21, fun b hb => ?_⟩
          rw [merge_one hnd1]
          have e22 : Same H18 (upd H21 b (.dK (pt (S.take i ++ [nym]) fun x => if x = nym then f nym + (0 + (l : Int)) else q0.2 x))) := (e19.trans e21).trans (same_upd hb)
          have hb0 := (e19.trans e21).free hb
          exact q _ _ e22 fun H5 e5 => ⟨b, rfl, e5 _ _ (fun z => by rw [z, hDu] at hb0; cases hb0) upd_same⟩
        · intro H18 ys e18 hD18 hp18
          rw [List.filter_eq_self.mpr fun _ _ => rfl] at hp18
          obtain ⟨news, rfl, hnw⟩ := news_of (F := fun l x' => if x' = nym then f nym + (0 + (l : Int)) else q0.2 x') (paired_unmap hp18)
          have hnl : news.length = sz := by rw [← paired_len hnw, List.length_range]
          have hq0b := hE1 q0 hqm
          refine ⟨gB, D, _, _, rfl, rfl, e18 _ _ hg17, hD18, by rw [List.length_map, List.length_map, hnl]; omega, fun G2 hG2 => ?_⟩
          have e23 : Same H16 (upd H18 G2 (.lst (Fs.map (fun q => V.ref q.1) ++ news.map fun q => V.ref q.1))) := (e17.trans e18).trans (same_upd hG2)
          refine ⟨G2, _, Fs ++ news, rfl, e23, ?_, ?_, ?_, ?_⟩
          · rw [upd_same, List.map_append]
          · intro q hq
            rcases List.mem_append.mp hq with hq | hq
            · exact ⟨((hF1 q hq).1.same e18).same (same_upd hG2), (hF1 q hq).2⟩
            · obtain ⟨l, x, hx1, hx2, h1, h2⟩ := paired_ix hnw hq
              have hxr : x < sz := List.mem_range.mp (List.mem_of_getElem? hx1)
              refine ⟨h2.same (same_upd hG2), fun y hy => ?_⟩
              rw [h1]
              show f y ≤ (if y = nym then f nym + (0 + (x : Int)) else q0.2 y) ∧ (if y = nym then f nym + (0 + (x : Int)) else q0.2 y) ≤ f y + (sz - 1)
              by_cases e : y = nym
              · rw [if_pos e, e]
                omega
              · rw [if_neg e]
                rcases List.mem_append.mp hy with hy | hy
                · exact hq0b.2 y hy
                · exact absurd (List.mem_singleton.mp hy) e
          · intro q1 hq1 l hl
            rw [take_snoc hq0] at hq1
            rcases List.mem_append.mp hq1 with hq1 | hq1
            · obtain ⟨q, hq, h1, h2⟩ := hF2 q1 hq1 l hl
              exact ⟨q, List.mem_append.mpr (.inl hq), h1, h2⟩
            · rw [List.mem_singleton.mp hq1]
              obtain ⟨q, hq, h1, h2⟩ := paired_of_mem hnw (List.mem_range.mpr hl)
              refine ⟨q, List.mem_append.mpr (.inr hq), fun x hx => ?_, ?_⟩
              · rw [h1]
                show (if x = nym then f nym + (0 + (l : Int)) else q0.2 x) = q0.2 x
                rw [if_neg fun z => hnin (by rw [← z]; exact hx)]
              · rw [h1]
                show (if nym = nym then f nym + (0 + (l : Int)) else q0.2 nym) = _
                rw [if_pos rfl]
                omega
          · rw [List.length_append, hnl, Nat.mul_succ]
            omega
      · rintro σ H17 ⟨gB, u10, Fs, rfl, e17, hg17, hF1, hF2, hF3⟩
        rw [List.length_map] at hF2 hF3
        rw [List.take_length] at hF2
        refine nx_of ?_
        refine ⟨_, rfl, ?_⟩
        refine ⟨_, _, _, gB, Fs, rfl, e1416.trans e17, hg17, ?_, ?_, ?_⟩
        · rw [htk]
          exact hF1
        · rw [htk]
          intro m hm
          obtain ⟨q0, hq0, h0⟩ := hE2 m fun x hx => hm x (List.mem_append.mpr (.inl hx))
          have hmn := hm nym (List.mem_append.mpr (.inr (.head _)))
          obtain ⟨l, hl⟩ := Int.eq_ofNat_of_zero_le (show 0 ≤ m nym - f nym by omega)
          obtain ⟨q, hq, h1, h2⟩ := hF2 q0 hq0 l (by omega)
          refine ⟨q, hq, fun x hx => ?_⟩
          rcases List.mem_append.mp hx with hx | hx
          · rw [h1 x hx, h0 x hx]
          · rw [List.mem_singleton.mp hx, h2]
            omega
        · have h5 : sz * Es.length ≤ 5 * 5 ^ i := Nat.mul_le_mul sz2 hE3
          rw [Nat.pow_succ, Nat.mul_comm]
          omega
    · rintro σ H15 ⟨u4, u9, u10, fB, Es, rfl, e15, hf15, hE1, hE2, hE3⟩
      rw [List.length_map] at hE1 hE2 hE3
      rw [List.take_length] at hE1 hE2
      have hWn : ∀ (r : Rul), r ∈ gapsOf (L1 ++ L2 ++ L3) → (∃ x ∈ ns, r = ⟨none, some x, f x⟩) ∨ (∃ x ∈ ns, r = ⟨some x, none, 1 - sz - f x⟩) ∨ GoodR ns f3 f4 r := fun r hr => by
        obtain ⟨q, hq, rfl⟩ := List.mem_map.mp hr
        rcases List.mem_append.mp hq with hq | hq
        · rcases List.mem_append.mp hq with hq | hq
          · have : q.2 ∈ gapsOf L1 := List.mem_map.mpr ⟨q, hq, rfl⟩
            rw [hG4] at this
            obtain ⟨x, hx, e⟩ := List.mem_map.mp this
            exact .inl ⟨x, hx, e.symm⟩
          · have : q.2 ∈ gapsOf L2 := List.mem_map.mpr ⟨q, hq, rfl⟩
            rw [hG5] at this
            obtain ⟨x, hx, e⟩ := List.mem_map.mp this
            exact .inr (.inl ⟨x, hx, e.symm⟩)
        · exact .inr (.inr (good q hq))
      have hin1 : ∀ x ∈ ns, (⟨none, some x, f x⟩ : Rul) ∈ gapsOf (L1 ++ L2 ++ L3) := fun x hx => by
        unfold gapsOf
        rw [List.map_append, List.map_append]
        exact List.mem_append.mpr (.inl (List.mem_append.mpr (.inl (by show _ ∈ gapsOf L1; rw [hG4]; exact List.mem_map.mpr ⟨x, hx, rfl⟩))))
      have hin2 : ∀ x ∈ ns, (⟨some x, none, 1 - sz - f x⟩ : Rul) ∈ gapsOf (L1 ++ L2 ++ L3) := fun x hx => by
        unfold gapsOf
        rw [List.map_append, List.map_append]
        exact List.mem_append.mpr (.inl (List.mem_append.mpr (.inr (by show _ ∈ gapsOf L2; rw [hG5]; exact List.mem_map.mpr ⟨x, hx, rfl⟩))))
      have wi : Within (gapsOf (L1 ++ L2 ++ L3)) ns := fun r hr => by
        rcases hWn r hr with ⟨x, hx, rfl⟩ | ⟨x, hx, rfl⟩ | g
        · exact ⟨(fun y e => by cases e), (fun y e => by cases e; exact hx)⟩
        · exact ⟨(fun y e => by cases e; exact hx), (fun y e => by cases e)⟩
        · exact ⟨mem_things.mp g.lo, mem_things.mp g.hi⟩
      have wiS : Within (gapsOf (L1 ++ L2 ++ L3)) S := fun r hr => ⟨fun y e => (Smem y).mpr ((wi r hr).1 y e), fun y e => (Smem y).mpr ((wi r hr).2 y e)⟩
      have okR : ∀ q ∈ L1 ++ L2 ++ L3, OkRule q.2 := fun q hq => by
        have hq' : q.2 ∈ gapsOf (L1 ++ L2 ++ L3) := List.mem_map.mpr ⟨q, hq, rfl⟩
        rcases hWn _ hq' with ⟨x, hx, e⟩ | ⟨x, hx, e⟩ | g
        · rw [e]
          have := hf x hx
          exact ⟨(fun z e => by cases e), (fun z e => by cases e; exact ok.ok x hx), (fun z => by cases z), by show -999 ≤ f x; omega, by show f x ≤ 999; omega⟩
        · rw [e]
          have := hf x hx
          exact ⟨(fun z e => by cases e; exact ok.ok x hx), (fun z e => by cases e), (fun z => by cases z), by show -999 ≤ 1 - (sz : Int) - f x; omega, by show 1 - (sz : Int) - f x ≤ 999; omega⟩
        · exact ⟨fun z e => ok.ok z (mem_things.mp g.lo z e), fun z e => ok.ok z (mem_things.mp g.hi z e), g.ne, g.least, g.most⟩
      have okL : OkL (L1 ++ L2 ++ L3) := fun q hq => ⟨(okR q hq).lo, (okR q hq).hi⟩
      have box : ∀ m : Str → Int, Adm (gapsOf (L1 ++ L2 ++ L3)) m → ∀ x ∈ S, f x ≤ m x ∧ m x ≤ f x + (sz - 1) := fun m hm x hx => by
        have h1 : (0 : Int) + f x ≤ m x := hm _ (hin1 x ((Smem x).mp hx))
        have h2 : m x + (1 - sz - f x) ≤ 0 := hm _ (hin2 x ((Smem x).mp hx))
        omega
      have ad3 : Adm (gapsOf (L1 ++ L2 ++ L3)) f3 := fun r hr => by
        rcases hWn r hr with ⟨x, hx, rfl⟩ | ⟨x, hx, rfl⟩ | g
        · show (0 : Int) + f x ≤ f3 x
          have := hf3 x hx
          omega
        · show f3 x + (1 - sz - f x) ≤ 0
          have := hf3 x hx
          omega
        · exact g.one
      have few16 : (L1 ++ L2 ++ L3).length ≤ 16 := by
        rw [List.length_append, List.length_append]
        omega
      have few125 : Es.length ≤ 125 := by
        have : S.length ≤ 3 := by omega
        generalize S.length = l at hE3 this
        match l, this with
        | 0, _ => exact Nat.le_trans hE3 (by decide)
        | 1, _ => exact Nat.le_trans hE3 (by decide)
        | 2, _ => exact Nat.le_trans hE3 (by decide)
        | 3, _ => exact Nat.le_trans hE3 (by decide)
      have e1215 : Same H12 H15 := e14.trans e15
      have hg15 := e1215 _ _ hg12
      have hR15 := hR12.same e1215
      refine ⟨_, rfl, _, rfl, ?_⟩
      refine ⟨_, rfl, fB, rfl, ⟨_, SqL.of hf15⟩, fun D hD => ?_⟩
      have hkeep : ∀ q ∈ Es, (@decide (∃ b m, V.ref q.1 = .ref b ∧ PtAt H15 b S m ∧ Adm (gapsOf (L1 ++ L2 ++ L3)) m) (Classical.propDecidable _)) = true ↔ Adm (gapsOf (L1 ++ L2 ++ L3)) q.2 := fun q hq => by
        rw [cdec]
        constructor
        · rintro ⟨b, m, e, h1, h2⟩
          injection e with e
          subst e
          exact adm_congr wiS (fun x hx => PtAt.inj h1 (hE1 q hq).1 x hx) h2
        · intro h
          exact ⟨q.1, q.2, rfl, (hE1 q hq).1, h⟩
      refine lcl_val (SqL.of hf15) hD (by rw [List.length_map]; omega) (fun x => @decide (∃ b m, x = .ref b ∧ PtAt H15 b S m ∧ Adm (gapsOf (L1 ++ L2 ++ L3)) m) (Classical.propDecidable _)) (fun x => x) ?_ (fun x H' Qe _ _ _ q => ⟨_, rfl, q H' (Same.refl _)⟩) ?_
      · intro x H16 Qt hx e16 q
        obtain ⟨q0, hq0, rfl⟩ := List.mem_map.mp hx
        have hp0 := (hE1 q0 hq0).1
        refine ⟨_, rfl, _, rfl, r3, q0.1, L1 ++ L2 ++ L3, S, q0.2, rfl, e16 _ _ hg15, hR15.same e16, okL, by omega, hp0.same e16, wiS, fun H17 b B e17 b0 hb hB => ?_⟩
        refine ⟨Nat.zero_le _, fun m hm => ⟨b, m, _, rfl, rfl, SqL.of ((same_upd hm) _ _ hb), SqL.of upd_same, _, rfl, ?_⟩⟩
        have q := q _ (e17.trans (same_upd (o := .lst []) hm))
        have e0 : (refs B).isEmpty = @decide (∃ b m, V.ref q0.1 = .ref b ∧ PtAt H15 b S m ∧ Adm (gapsOf (L1 ++ L2 ++ L3)) m) (Classical.propDecidable _) := by
          rw [Bool.eq_iff_iff, hkeep q0 hq0, ← hB, List.isEmpty_iff]
          unfold refs
          exact List.map_eq_nil_iff
        show Qt (refs B).isEmpty _
        rw [e0]
        exact q
      · intro H16 e16 hD16
        rw [List.map_id'] at hD16
        refine ⟨(by show 3 ≤ sizeLine; decide), fun r hr => ?_⟩
        have e17 : Same H16 (upd H16 r (.tup [.ref a, .ref r3, .ref D])) := same_upd hr
        have e1217 : Same H12 (upd H16 r (.tup [.ref a, .ref r3, .ref D])) := (e1215.trans e16).trans e17
        have nrp : r ≠ p := (hP12.same (e1215.trans e16)).apart hr
        have nDp : D ≠ p := (hP12.same e1215).apart hD
        have hD17 := e17 _ _ hD16
        have hr17 : (upd H16 r (.tup [.ref a, .ref r3, .ref D])) r = some (.tup [.ref a, .ref r3, .ref D]) := upd_same
        have hr0 : H r = none := eB012.free nrp ((e1215.trans e16).free hr)
        generalize upd H16 r (.tup [.ref a, .ref r3, .ref D]) = H17 at e17 e1217 hD17 hr17 ⊢
        refine k H17 r a r3 D ns S (L1 ++ L2 ++ L3) (Es.filter fun q => @decide (∃ b m, V.ref q.1 = .ref b ∧ PtAt H15 b S m ∧ Adm (gapsOf (L1 ++ L2 ++ L3)) m) (Classical.propDecidable _)) (eB012.trans (Same.but e1217 p)) hr0 ((hP12.same e1217).le (by omega)) hr17 ?_ nap nr3p nDp
        have hall : ∀ m : Str → Int, Adm (gapsOf (L1 ++ L2 ++ L3)) m → ∃ q ∈ Es.filter fun q => @decide (∃ b m, V.ref q.1 = .ref b ∧ PtAt H15 b S m ∧ Adm (gapsOf (L1 ++ L2 ++ L3)) m) (Classical.propDecidable _), ∀ x ∈ S, q.2 x = m x := fun m hm => by
          obtain ⟨q, hq, h⟩ := hE2 m (box m hm)
          exact ⟨q, List.mem_filter.mpr ⟨hq, (hkeep q hq).mpr (adm_congr wiS (fun x hx => (h x hx).symm) hm)⟩, h⟩
        refine ⟨e1217 _ _ ha12, ok, pm, Sord, e1217 _ _ hg12, hR12.same e1217, few16, wi, okR, ?_, fun q hq => ?_, hall, Nat.le_trans (List.length_filter_le _ _) few125, fun z => ?_⟩
        · rw [hD17, List.filter_map]
          rfl
        · obtain ⟨h1, h2⟩ := List.mem_filter.mp hq
          refine ⟨((hE1 q h1).1.same e16).same e17, (hkeep q h1).mp h2, fun x hx => ?_⟩
          have h3 := (hE1 q h1).2 x hx
          have h4 := hf x ((Smem x).mp hx)
          omega
        · obtain ⟨q, hq, _⟩ := hall f3 ad3
          rw [z] at hq
          cases hq
end
end K73
set_option maxHeartbeats 200000
/-! repr of numbers. -/
namespace K73
open PySem PySem.Spec PyProof.Rows L2
def dat (S : List Str) (f : Str → Int) : List (PyData × PyData) := S.map fun n => (.str n, .int (f n))
def shownOf (S : List Str) (f : Str → Int) : Str := (PyData.dict (dat S f)).shown
theorem reads_pairs {P : Program} {w : World} {h : Heap} {f : Str → Int} : ∀ {S : List Str} {es : List DictEntry} {vs : List (Key × Value)}, Pairs (mixKind P w) es vs → KV (pt S f) vs →
    ReadsAll h (es.map (·.key)) ((dat S f).map (·.1)) [] ∧ ReadsAll h (es.map (·.val)) ((dat S f).map (·.2)) []
  | [], es, vs, hp, kv => by
    cases kv
    cases hp
    exact ⟨.nil, .nil⟩
  | n :: S, es, vs, hp, kv => by
    cases kv with
    | cons h1 h2 =>
      cases hp with
      | cons g1 g2 g3 =>
        obtain ⟨r1, r2⟩ := reads_pairs (h := h) (S := S) g3 h2
        rename_i b _ e _
        obtain ⟨k, u⟩ := b
        obtain ⟨h3, t, h4⟩ := h1
        have h3 : Sum.inr n = k := h3
        subst h3
        have h4 : u = .int (f n) t := h4
        subst h4
        obtain ⟨t2, ek⟩ := Value.isStrOf_shape (x := n) (v := e.key) g1
        have r3 := ReadsAll.cons (h := h) (Reads.str n t2) r1
        have r4 := ReadsAll.cons (h := h) (Reads.int (f n) t) r2
        rw [← ek] at r3
        have g2 : e.val = .int (f n) t := g2
        rw [← g2] at r4
        exact ⟨r3, r4⟩
theorem reads_pt {X : Cx} {pins : List (Addr × Obj)} {σ : L2.St} {H : Hp} {s : Shared} {a : Addr} {S : List Str} {f : Str → Int} (I : Inv X pins σ H s) (h : PtAt H a S f) : (a == sysModules) = false ∧ Reads s.heap (.ref a) (.dict (dat S f)) [a] := by
  obtain ⟨z, lo, vs, rel, dd⟩ := dk_rd I.hok (.inl h)
  obtain ⟨o, es, ep, ho, hx, hd, _, hp, _⟩ := dd
  obtain ⟨r1, r2⟩ := reads_pairs (h := s.heap) hp rel
  exact ⟨lo, Reads.dict ho hx.1 hd r1 r2⟩
theorem dat_showable {f : Str → Int} : ∀ {S : List Str}, (∀ n ∈ S, -1000000 ≤ f n ∧ f n ≤ 1000000) → PyData.showableKv (dat S f) = true
  | [], _ => by simp [dat, PyData.showableKv]
  | n :: S, h => by
    have ih := dat_showable (S := S) fun x hx => h x (.tail _ hx)
    have h1 := h n (.head _)
    have h2 : (f n).natAbs < 2 ^ 20 := by omega
    have h3 : (f n).natAbs.log2 < 1920 := by
      by_cases z : (f n).natAbs = 0
      · rw [z]
        decide
      · exact Nat.lt_trans ((Nat.log2_lt z).mpr h2) (by decide)
    show PyData.showableKv ((PyData.str n, PyData.int (f n)) :: dat S f) = true
    simp [PyData.showableKv, PyData.showable, ih, h3]
theorem dat_depth {f : Str → Int} : ∀ {S : List Str}, PyData.depthKv (dat S f) = 0
  | [] => by simp [dat, PyData.depthKv]
  | n :: S => by
    have ih := dat_depth (f := f) (S := S)
    show PyData.depthKv ((PyData.str n, PyData.int (f n)) :: dat S f) = 0
    simp [PyData.depthKv, PyData.depth, ih]
theorem call_reprPt {X : Cx} (hgd : X.A.guards = some []) (hu : X.A.units + 64 < cLine) : CallR X (.builtin "repr") (fun xs H Q => ∃ (a : Addr) (S : List Str) (f : Str → Int), xs = [.ref a] ∧ PtAt H a S f ∧ (∀ n ∈ S, -1000000 ≤ f n ∧ f n ≤ 1000000) ∧ (shownOf S f).length ≤ sizeLine ∧ Q (.str (shownOf S f)) H) := by
  intro pins s σ H xs us Q I r q
  obtain ⟨a, S, f, rfl, ha, hf, hz, q⟩ := q
  obtain ⟨u, rfl, ru⟩ := vals1 r
  obtain rfl : u = Value.ref a := ru
  obtain ⟨lo, hr⟩ := reads_pt I ha
  refine repr_of_reads' (h₀ := s.heap) hr (by simp only [PyData.showable]; exact dat_showable hf) (fun _ hm => ?_) hgd ?_ (fun _ _ e => e) (fun h' u tk hk => ?_) hz
  · rw [List.mem_singleton.mp hm] at lo
    simp at lo
  · have : (PyData.dict (dat S f)).depth = 1 := by simp [PyData.depth, dat_depth]
    rw [this]
    omega
  · exact ⟨.str (shownOf S f), H, I.kept hk, ⟨u, rfl⟩, q⟩
end K73
set_option maxHeartbeats 200000
namespace K73
open PySem
def txtI (i : Int) : List Nat := (Str.ofString (toString i)).cps.toList
def digV : Int → List Nat → Int
  | a, [] => a
  | a, c :: r => digV (10 * a + ((c : Int) - 48)) r
def decI : List Nat → Int
  | 45 :: r => - digV 0 r
  | r => digV 0 r
def goodT (l : List Nat) : Bool := l.all fun c => decide (c ≠ 44) && decide (c ≠ 125)
theorem txt_ok0 : ∀ k : Nat, k < 2001 → decI (txtI ((k : Int) - 1000)) = (k : Int) - 1000 ∧ goodT (txtI ((k : Int) - 1000)) = true ∧ (txtI ((k : Int) - 1000)).length ≤ 8 := by decide +kernel
end K73
set_option maxHeartbeats 200000
namespace K73
open PySem
theorem txt_ok {i : Int} (h : -1000 ≤ i ∧ i ≤ 1000) : decI (txtI i) = i ∧ goodT (txtI i) = true ∧ (txtI i).length ≤ 8 := by
  obtain ⟨k, hk⟩ := Int.eq_ofNat_of_zero_le (show 0 ≤ i + 1000 by omega)
  have := txt_ok0 k (by omega)
  rw [show (k : Int) - 1000 = i by omega] at this
  exact this
theorem split_at {c : Nat} : ∀ {a b x y : List Nat}, c ∉ a → c ∉ b → a ++ c :: x = b ++ c :: y → a = b ∧ x = y
  | [], [], _, _, _, _, h => ⟨rfl, by injection h⟩
  | [], d :: b, _, _, _, hb, h => by
    injection h with h1 h2
    exact absurd (by rw [h1]; exact .head _) hb
  | d :: a, [], _, _, ha, _, h => by
    injection h with h1 h2
    exact absurd (by rw [← h1]; exact .head _) ha
  | d :: a, e :: b, x, y, ha, hb, h => by
    injection h with h1 h2
    obtain ⟨h3, h4⟩ := split_at (fun z => ha (.tail _ z)) (fun z => hb (.tail _ z)) h2
    exact ⟨by rw [h1, h3], h4⟩
theorem tl_app (x y : Str) : (x ++ y).cps.toList = x.cps.toList ++ y.cps.toList := by
  show (x.cps ++ y.cps).toList = _
  exact Array.toList_append
def preT (n : Str) : Str := reprText n ++ ": "
def entT (n : Str) (f : Str → Int) : Str := preT n ++ Str.ofString (toString (f n))
theorem entT_tl (n : Str) (f : Str → Int) : (entT n f).cps.toList = (preT n).cps.toList ++ txtI (f n) := tl_app _ _
theorem shownKv_dat (f : Str → Int) : ∀ S : List Str, PyData.shownKv (dat S f) = S.map fun n => entT n f
  | [] => by simp [dat, PyData.shownKv]
  | n :: S => by
    have ih := shownKv_dat f S
    show PyData.shownKv ((PyData.str n, PyData.int (f n)) :: dat S f) = _
    simp only [PyData.shownKv, PyData.shown, ih, List.map_cons]
    rfl
theorem good_no {l : List Nat} (h : goodT l = true) : 44 ∉ l ∧ 125 ∉ l := by
  unfold goodT at h
  rw [List.all_eq_true] at h
  exact ⟨fun z => by have := h _ z; simp at this, fun z => by have := h _ z; simp at this⟩
theorem join_inj {f g : Str → Int} : ∀ {S : List Str}, (∀ n ∈ S, (-1000 ≤ f n ∧ f n ≤ 1000) ∧ -1000 ≤ g n ∧ g n ≤ 1000) → (Str.join ", " (S.map fun n => entT n f)).cps.toList ++ [125] = (Str.join ", " (S.map fun n => entT n g)).cps.toList ++ [125] → ∀ n ∈ S, f n = g n
  | [], _, _ => fun _ h => by cases h
  | [n], h, e => by
    have hn := h n (.head _)
    obtain ⟨f1, f2, _⟩ := txt_ok hn.1
    obtain ⟨g1, g2, _⟩ := txt_ok hn.2
    have e : (entT n f).cps.toList ++ [125] = (entT n g).cps.toList ++ [125] := e
    rw [entT_tl, entT_tl, List.append_assoc, List.append_assoc] at e
    have e := List.append_cancel_left e
    have := (split_at (good_no f2).2 (good_no g2).2 e).1
    intro m hm
    rw [List.mem_singleton.mp hm]
    have := congrArg decI this
    rw [f1, g1] at this
    exact this
  | n :: m :: r, h, e => by
    have hn := h n (.head _)
    obtain ⟨f1, f2, _⟩ := txt_ok hn.1
    obtain ⟨g1, g2, _⟩ := txt_ok hn.2
    have e : ((entT n f ++ ", ") ++ Str.join ", " ((m :: r).map fun n => entT n f)).cps.toList ++ [125] = ((entT n g ++ ", ") ++ Str.join ", " ((m :: r).map fun n => entT n g)).cps.toList ++ [125] := e
    have hc : ((", " : Str)).cps.toList = [44, 32] := by decide +kernel
    rw [tl_app, tl_app, tl_app, tl_app, hc, entT_tl, entT_tl] at e
    simp only [List.append_assoc, List.cons_append, List.nil_append] at e
    have e := List.append_cancel_left e
    obtain ⟨e1, e2⟩ := split_at (good_no f2).1 (good_no g2).1 e
    injection e2 with _ e2
    have ih := join_inj (S := m :: r) (fun x hx => h x (.tail _ hx)) e2
    intro x hx
    cases hx with
    | head =>
      have := congrArg decI e1
      rw [f1, g1] at this
      exact this
    | tail _ hx => exact ih x hx
theorem shown_inj {S : List Str} {f g : Str → Int} (h : ∀ n ∈ S, (-1000 ≤ f n ∧ f n ≤ 1000) ∧ -1000 ≤ g n ∧ g n ≤ 1000) (e : shownOf S f = shownOf S g) : ∀ n ∈ S, f n = g n := by
  have e1 : ∀ f, (shownOf S f).cps.toList = [123] ++ (Str.join ", " (S.map fun n => entT n f)).cps.toList ++ [125] := fun f => by
    unfold shownOf
    show (dictText (PyData.shownKv (dat S f))).cps.toList = _
    rw [shownKv_dat]
    unfold dictText
    rw [tl_app, tl_app]
    have h1 : (("{" : Str)).cps.toList = [123] := by decide +kernel
    have h2 : (("}" : Str)).cps.toList = [125] := by decide +kernel
    rw [h1, h2]
  have e2 := congrArg (fun x : Str => x.cps.toList) e
  simp only [e1] at e2
  rw [List.append_assoc, List.append_assoc] at e2
  exact join_inj h (List.append_cancel_left e2)
theorem shown_congr {S : List Str} {f g : Str → Int} (h : ∀ n ∈ S, f n = g n) : shownOf S f = shownOf S g := by
  unfold shownOf dat
  rw [List.map_congr_left fun n hn => by rw [h n hn]]
theorem slen (x : Str) : x.length = x.cps.toList.length := (Array.length_toList).symm
theorem letter_repr : letters.cps.toList.all (fun c => decide ((Builtin.Str.reprChar 39 c).length ≤ 1) && decide ((Builtin.Str.reprChar 34 c).length ≤ 1)) = true := by decide +kernel
theorem fold_le1 {q : Nat} : ∀ (l : List Nat) (n : Nat), (∀ c ∈ l, (Builtin.Str.reprChar q c).length ≤ 1) → l.foldl (fun n c => n + (Builtin.Str.reprChar q c).length) n ≤ n + l.length
  | [], n, _ => by simp
  | c :: r, n, h => by
    have h1 := h c (.head _)
    have ih := fold_le1 r (n + (Builtin.Str.reprChar q c).length) fun x hx => h x (.tail _ hx)
    rw [List.foldl_cons, List.length_cons]
    omega
theorem name_repr {z : Str} (h : OkName z) : (reprText z).length ≤ 10 := by
  rw [← reprLen_eq, ← Array.foldl_toList]
  have hq : reprQuote z = 39 ∨ reprQuote z = 34 := by
    unfold reprQuote
    split <;> simp
  have hl : ∀ c ∈ z.cps.toList, (Builtin.Str.reprChar (reprQuote z) c).length ≤ 1 := fun c hc => by
    have := List.all_eq_true.mp letter_repr c (h.2.2 c hc)
    simp only [Bool.and_eq_true, decide_eq_true_eq] at this
    rcases hq with e | e
    · rw [e]
      exact this.1
    · rw [e]
      exact this.2
  have h8 : z.cps.toList.length ≤ 8 := by
    rw [← slen]
    exact h.2.1
  have := fold_le1 z.cps.toList 2 hl
  omega
theorem join_len {f : Str → Int} : ∀ {S : List Str}, (∀ n ∈ S, OkName n ∧ -1000 ≤ f n ∧ f n ≤ 1000) → (Str.join ", " (S.map fun n => entT n f)).cps.toList.length ≤ 30 * S.length
  | [], _ => Nat.le_refl 0
  | [n], h => by
    show (entT n f).cps.toList.length ≤ _
    have h1 := name_repr (h n (.head _)).1
    have h2 := (txt_ok (h n (.head _)).2).2.2
    have h3 : (preT n).cps.toList.length = (reprText n).cps.toList.length + 2 := by
      unfold preT
      rw [tl_app, List.length_append]
      rfl
    rw [slen] at h1
    rw [entT_tl, List.length_append]
    simp only [List.length_cons, List.length_nil]
    omega
  | n :: m :: r, h => by
    have ih := join_len (f := f) (S := m :: r) fun x hx => h x (.tail _ hx)
    show ((entT n f ++ ", ") ++ Str.join ", " ((m :: r).map fun n => entT n f)).cps.toList.length ≤ _
    have h1 := name_repr (h n (.head _)).1
    have h2 := (txt_ok (h n (.head _)).2).2.2
    have h3 : (preT n).cps.toList.length = (reprText n).cps.toList.length + 2 := by
      unfold preT
      rw [tl_app, List.length_append]
      rfl
    have hc : ((", " : Str)).cps.toList = [44, 32] := by decide +kernel
    rw [slen] at h1
    rw [tl_app, tl_app, hc, entT_tl, List.length_append, List.length_append, List.length_append]
    simp only [List.length_cons, List.length_nil] at ih ⊢
    omega
theorem shown_fits {S : List Str} {f : Str → Int} (few : S.length ≤ 60) (h : ∀ n ∈ S, OkName n ∧ -1000 ≤ f n ∧ f n ≤ 1000) : (shownOf S f).length ≤ sizeLine := by
  have big : (1000000 : Nat) < sizeLine := by decide
  have j := join_len h
  have e1 : (shownOf S f).cps.toList = [123] ++ (Str.join ", " (S.map fun n => entT n f)).cps.toList ++ [125] := by
    unfold shownOf
    show (dictText (PyData.shownKv (dat S f))).cps.toList = _
    rw [shownKv_dat]
    unfold dictText
    rw [tl_app, tl_app]
    have h1 : (("{" : Str)).cps.toList = [123] := by decide +kernel
    have h2 : (("}" : Str)).cps.toList = [125] := by decide +kernel
    rw [h1, h2]
  rw [slen, e1, List.length_append, List.length_append]
  simp only [List.length_cons, List.length_nil]
  omega
end K73
set_option maxHeartbeats 200000
/-! Breadth first. Plain Lean. -/
namespace K73
section
variable {α : Type}
/-- points, the good ones, how far each is from s, which lie side by side -/
structure Net (good : α → Prop) (dist : α → Nat) (adj : α → α → Prop) (s : α) : Prop where
  start : good s
  zero : dist s = 0
  zero' : ∀ x, good x → dist x = 0 → x = s
  side : ∀ x y, adj x y → good x → good y → dist y = dist x + 1 ∨ dist x = dist y + 1
  back : ∀ y e, good y → dist y = e + 1 → ∃ x, good x ∧ dist x = e ∧ adj x y
/-- done: their sides are found; qu: still to do -/
structure Bfs (good : α → Prop) (dist : α → Nat) (adj : α → α → Prop) (s : α) (done qu : List α) : Prop where
  gd : ∀ x ∈ done ++ qu, good x
  has : s ∈ done ++ qu
  nd : (done ++ qu).Nodup
  sides : ∀ x ∈ done, ∀ y, good y → adj x y → y ∈ done ++ qu
  ord : qu.Pairwise fun x y => dist x ≤ dist y
  low : ∀ x ∈ done, ∀ y ∈ qu, dist x ≤ dist y
  near : ∀ x ∈ qu, ∀ y ∈ qu, dist y ≤ dist x + 1
variable {good : α → Prop} {dist : α → Nat} {adj : α → α → Prop} {s : α}
theorem Bfs.start (n : Net good dist adj s) : Bfs good dist adj s [] [s] where
  gd := fun x hx => by rw [List.mem_singleton.mp hx]; exact n.start
  has := .head _
  nd := by simp
  sides := fun x hx => by cases hx
  ord := by simp
  low := fun x hx => by cases hx
  near := fun x hx y hy => by rw [List.mem_singleton.mp hx, List.mem_singleton.mp hy]; omega
/-- all good points that are no farther than the first of the queue are found -/
theorem Bfs.below (n : Net good dist adj s) {done qu : List α} {x : α} (b : Bfs good dist adj s done (x :: qu)) : ∀ (e : Nat) (y : α), good y → dist y = e → e ≤ dist x → y ∈ done ++ x :: qu
  | 0, y, gy, hy, _ => by
    rw [n.zero' y gy hy]
    exact b.has
  | e + 1, y, gy, hy, hx => by
    obtain ⟨z, gz, hz, az⟩ := n.back y e gy hy
    have hzm := b.below n e z gz hz (by omega)
    rcases List.mem_append.mp hzm with h | h
    · exact b.sides z h y gy az
    · exfalso
      rcases List.mem_cons.mp h with h | h
      · rw [h] at hz
        omega
      · have := (List.pairwise_cons.mp b.ord).1 z h
        omega
/-- .. and, in the end, all -/
theorem Bfs.all (n : Net good dist adj s) {done : List α} (b : Bfs good dist adj s done []) : ∀ (e : Nat) (y : α), good y → dist y = e → y ∈ done
  | 0, y, gy, hy => by
    rw [n.zero' y gy hy]
    have := b.has
    rwa [List.append_nil] at this
  | e + 1, y, gy, hy => by
    obtain ⟨z, gz, hz, az⟩ := n.back y e gy hy
    have := b.sides z (b.all n e z gz hz) y gy az
    rwa [List.append_nil] at this
/-- the first of the queue is at work: new are those found from it -/
structure Work (good : α → Prop) (dist : α → Nat) (adj : α → α → Prop) (s : α) (done : List α) (x : α) (qu new : List α) : Prop where
  base : Bfs good dist adj s done (x :: qu)
  newG : ∀ y ∈ new, good y ∧ dist y = dist x + 1
  nd : (done ++ x :: qu ++ new).Nodup
theorem Work.start {done qu : List α} {x : α} (b : Bfs good dist adj s done (x :: qu)) : Work good dist adj s done x qu [] := ⟨b, (fun y hy => by cases hy), by rw [List.append_nil]; exact b.nd⟩
theorem Work.add (n : Net good dist adj s) {done qu new : List α} {x y : α} (w : Work good dist adj s done x qu new) (gy : good y) (ay : adj x y) (hy : y ∉ done ++ x :: qu ++ new) : dist y = dist x + 1 ∧ Work good dist adj s done x qu (new ++ [y]) := by
  have gx : good x := w.base.gd x (List.mem_append.mpr (.inr (.head _)))
  have hd : dist y = dist x + 1 := by
    rcases n.side x y ay gx gy with h | h
    · exact h
    · exact absurd (List.mem_append.mpr (.inl (w.base.below n _ y gy rfl (by omega)))) hy
  refine ⟨hd, w.base, fun z hz => ?_, ?_⟩
  · rcases List.mem_append.mp hz with hz | hz
    · exact w.newG z hz
    · rw [List.mem_singleton.mp hz]
      exact ⟨gy, hd⟩
  · rw [← List.append_assoc]
    exact List.nodup_append.mpr ⟨w.nd, by simp, fun a ha b hb e => hy (by rw [← List.mem_singleton.mp hb, ← e]; exact ha)⟩
theorem Work.done {done qu new : List α} {x : α} (w : Work good dist adj s done x qu new) (all : ∀ y, good y → adj x y → y ∈ done ++ x :: qu ++ new) : Bfs good dist adj s (done ++ [x]) (qu ++ new) := by
  have b := w.base
  have e : done ++ [x] ++ (qu ++ new) = done ++ x :: qu ++ new := by simp
  obtain ⟨o1, o2⟩ := List.pairwise_cons.mp b.ord
  have hq : ∀ y ∈ qu, dist y ≤ dist x + 1 := fun y hy => b.near x (.head _) y (.tail _ hy)
  refine ⟨fun z hz => ?_, ?_, ?_, fun z hz y gy az => ?_, ?_, fun z hz y hy => ?_, fun z hz y hy => ?_⟩
  · rw [e] at hz
    rcases List.mem_append.mp hz with hz | hz
    · exact b.gd z hz
    · exact (w.newG z hz).1
  · rw [e]
    exact List.mem_append.mpr (.inl b.has)
  · rw [e]
    exact w.nd
  · rw [e]
    rcases List.mem_append.mp hz with hz | hz
    · exact List.mem_append.mpr (.inl (b.sides z hz y gy az))
    · rw [List.mem_singleton.mp hz] at az
      exact all y gy az
  · refine List.pairwise_append.mpr ⟨o2, ?_, fun a ha c hc => ?_⟩
    · have : ∀ l : List α, (∀ y ∈ l, dist y = dist x + 1) → l.Pairwise fun x y => dist x ≤ dist y := fun l => by
        induction l with
        | nil => exact fun _ => .nil
        | cons a t ih => exact fun h => List.pairwise_cons.mpr ⟨fun c hc => by rw [h a (.head _), h c (.tail _ hc)]; exact Nat.le_refl _, ih fun y hy => h y (.tail _ hy)⟩
      exact this new fun y hy => (w.newG y hy).2
    · have h1 := hq a ha
      have h2 := (w.newG c hc).2
      omega
  · have hy1 : dist x ≤ dist y := by
      rcases List.mem_append.mp hy with hy | hy
      · exact o1 y hy
      · have := (w.newG y hy).2
        omega
    rcases List.mem_append.mp hz with hz | hz
    · have := b.low z hz x (.head _)
      omega
    · rw [List.mem_singleton.mp hz]
      exact hy1
  · have hz1 : dist x ≤ dist z := by
      rcases List.mem_append.mp hz with hz | hz
      · exact o1 z hz
      · have := (w.newG z hz).2
        omega
    have hy1 : dist y ≤ dist x + 1 := by
      rcases List.mem_append.mp hy with hy | hy
      · exact hq y hy
      · have := (w.newG y hy).2
        omega
    omega
end
end K73
set_option maxHeartbeats 200000
/-! The law's points lie in a net. Plain Lean. -/
namespace K73
section
variable {N : Type} [DecidableEq N] {G : List (Rl N)} {ns : List N} {s : N → Int}
/-- nothing but at the names -/
def nrm (ns : List N) (m : N → Int) : N → Int := fun x => if x ∈ ns then m x else 0
theorem nrm_in {m : N → Int} {x : N} (h : x ∈ ns) : nrm ns m x = m x := if_pos h
theorem nrm_eq {m v : N → Int} (h : ∀ x ∈ ns, m x = v x) : nrm ns m = nrm ns v := by
  funext x
  unfold nrm
  split
  · rename_i hx
    exact h x hx
  · rfl
theorem nrm_nrm (m : N → Int) : nrm ns (nrm ns m) = nrm ns m := nrm_eq fun _ hx => nrm_in hx
def GoodP (G : List (Rl N)) (ns : List N) (x : N → Int) : Prop := Adm G x ∧ nrm ns x = x
def Adj (G : List (Rl N)) (ns : List N) (x y : N → Int) : Prop := ∃ h ∈ heads G ns, ∃ c : Int, (c = 1 ∨ c = -1) ∧ y = shift x (blkOf G ns h) c
theorem good_eq {x y : N → Int} (hx : nrm ns x = x) (hy : nrm ns y = y) (h : ∀ z ∈ ns, x z = y z) : x = y := by
  rw [← hx, ← hy]
  exact nrm_eq h
theorem blk_in {h x : N} (hx : x ∈ blkOf G ns h) : x ∈ ns := (mem_blk.mp hx).1
theorem shift_nrm {m : N → Int} {h : N} {c : Int} (hm : nrm ns m = m) : nrm ns (shift m (blkOf G ns h) c) = shift m (blkOf G ns h) c := by
  funext x
  unfold nrm
  split
  · rfl
  · rename_i hx
    rw [shift_out fun z => hx (blk_in z), ← hm]
    exact (if_neg hx).symm
theorem shift_back {m : N → Int} {B : List N} {c : Int} : shift (shift m B c) B (-c) = m := by
  funext x
  by_cases h : x ∈ B
  · rw [shift_in h, shift_in h]
    omega
  · rw [shift_out h, shift_out h]
theorem way_one (m v : N → Int) (h : N) : way m v h = 1 ∨ way m v h = -1 := by
  unfold way
  split
  · exact .inl rfl
  · exact .inr rfl
theorem net (wi : Within G ns) (nd : ns.Nodup) (gs : GoodP G ns s) : Net (GoodP G ns) (fun x => dist (heads G ns) s x) (Adj G ns) s where
  start := gs
  zero := dist_zero.mpr fun _ _ => rfl
  zero' := fun x gx h => good_eq gx.2 gs.2 fun z hz => (same_of_heads gs.1 gx.1 (dist_zero.mp h) z hz).symm
  side := fun x y ⟨h, hh, c, hc, e⟩ gx gy => by
    subst e
    have := dist_step (m := x) (v := s) nd hh hc
    show dist _ s _ = dist _ s x + 1 ∨ dist _ s x = dist _ s _ + 1
    rw [dist_comm _ s, dist_comm _ s x]
    rcases this with q | q
    · exact .inl q
    · exact .inr q.symm
  back := fun y e gy h => by
    have h : dist (heads G ns) s y = e + 1 := h
    obtain ⟨h0, hh0, ne0⟩ : ∃ h0 ∈ heads G ns, y h0 ≠ s h0 := Classical.byContradiction fun w => by
      have : dist (heads G ns) s y = 0 := dist_zero.mpr fun k hk => Classical.byContradiction fun q => w ⟨k, hk, fun z => q z.symm⟩
      omega
    obtain ⟨k, hk, ne, ad⟩ := step_on (m := y) (v := s) wi gy.1 gs.1 hh0 ne0
    have d := dist_on (m := y) (v := s) nd hk ne
    refine ⟨shift y (blkOf G ns k) (way y s k), ⟨ad, shift_nrm gy.2⟩, ?_, k, hk, -(way y s k), ?_, shift_back.symm⟩
    · show dist _ s _ = e
      rw [dist_comm] at h ⊢
      omega
    · rcases way_one y s k with q | q
      · rw [q]
        exact .inr rfl
      · rw [q]
        exact .inl rfl
end
end K73
set_option maxHeartbeats 200000
namespace K73
open PySem PySem.Spec PyProof.Rows L2
theorem boot_reprK : bootBuiltins ("repr" : Str) = some (.builtin "repr") := by decide +kernel
section
variable {P : Program} {w : World} {K : PySem.W.Frag} {mg : Str → Option Value} {base : Heap} {H H' : Hp} {d : Addr}
/-- the points of a queue -/
abbrev ptsOf (Qs : List (Addr × (Str → Int))) : List (Str → Int) := Qs.map (·.2)
/-- what dist says at the points that are found -/
def FoundAt (P : Program) (w : World) (H : Hp) (a : Addr) (S hs : List Str) (s : Str → Int) (fnd : List (Str → Int)) : Prop := ∃ m, NAt P w H a (fnd.map fun x => some (shownOf S x)) m ∧ ∀ x ∈ fnd, m (some (shownOf S x)) = some (.int (dist hs s x : Nat))
/-- the good texts -/
def GoodAt (H : Hp) (a : Addr) (G : List Rul) (S : List Str) : Prop := ∃ kvs, H a = some (.dK kvs) ∧ ∀ m : Str → Int, (∀ n ∈ S, -1000 ≤ m n ∧ m n ≤ 1000) → ((valV kvs (.inr (shownOf S m))).isSome = true ↔ Adm G m)
def spLDistances (P : Program) (w : World) : Sp := fun vs H Q _ => ∃ (gd pa d1 : Addr) (S : List Str) (G : List Rul) (f : Str → Int) (bs : List Addr), vs = [.ref gd, .ref pa, .ref d1] ∧ GoodAt H gd G S ∧ H pa = some (.lst (bs.map V.ref)) ∧ BlksAt H G S bs ∧ PtAt H d1 S f ∧ Adm G f ∧
  S.Pairwise sLt ∧ S.length ≤ 3 ∧ (∀ n ∈ S, OkName n) ∧ Within G S ∧ (∀ m : Str → Int, Adm G m → ∀ n ∈ S, -950 ≤ m n ∧ m n ≤ 950) ∧ (∃ E : List (Str → Int), E.length ≤ 125 ∧ ∀ m, Adm G m → ∃ q ∈ E, ∀ n ∈ S, q n = m n) ∧
  ∀ (H' : Hp) (r : Addr) (fnd : List (Str → Int)), Same H H' → H r = none → FoundAt P w H' r S (heads G S) f fnd → (∀ m, Adm G m → ∃ x ∈ fnd, ∀ n ∈ S, x n = m n) → Q (.ref r) H'
/-- while the first of the queue is at work -/
def MidAt (P : Program) (w : World) (H H' : Hp) (fA eA : Addr) (S : List Str) (G : List Rul) (s : Str → Int) (done : List (Str → Int)) (q : Addr × (Str → Int)) (Qt new : List (Addr × (Str → Int))) : Prop :=
  Same H H' ∧ FoundAt P w H' fA S (heads G S) s (done ++ q.2 :: ptsOf Qt ++ ptsOf new) ∧ H' eA = some (.lst ((Qt ++ new).map fun q => V.ref q.1)) ∧ (∀ r ∈ q :: Qt ++ new, PtAt H' r.1 S r.2) ∧ Work (GoodP G S) (fun x => dist (heads G S) s x) (Adj G S) s done q.2 (ptsOf Qt) (ptsOf new)
def Cov (G : List Rul) (S : List Str) (x : Str → Int) (h : Str) (c : Int) (l : List (Str → Int)) : Prop := GoodP G S (shift x (blkOf G S h) c) → shift x (blkOf G S h) c ∈ l
theorem Tp.lDistances (Z : Tp K mg) : FnG P w K mg base 2 Z.gLDistances Z.dLDistances ["_law_good", "_law_parts", "_law_one"] (spLDistances P w) := by
  have T := Z.nm
  have GA := Z.lAfter (P := P) (w := w) (base := base)
  refine Fun_okG Z.LDistances.fn cLDistances (fun vs H Q E h => ?_) (fun cdv A outer s H vs Q E hr hgd h => ?_)
  · obtain ⟨gd, pa, d1, S, G, f, bs, rfl, _⟩ := h
    rfl
  · obtain ⟨gd, pa, d1, S, G, f, bs, rfl, hG, hpa, hbs, hd1, ad1, ord, few, okn, wi, bd, ⟨E0, hE1, hE2⟩, k⟩ := h
    have nd := cLDistances.nd
    have hu := hu_of hr
    have hu0 := Nat.lt_of_succ_lt hu
    have hu64 := hr.units
    refine ⟨_, pss_cons (ps_set (i := 3) nd rfl (Or.inl rfl) (pe_oneN (pe_callB (call_reprPt hgd hu64) (by rfl) T.repr boot_reprK (pa_cons (pv 2) pa_nil)) pe_int))
      (pss_cons (ps_set (i := 4) nd rfl (Or.inl rfl) (pe_lst (pa_cons (pv 2) pa_nil)))
      (pss_cons (ps_while PassesOwn.never (pt_cmpR (op_neNil hu0) (pv 4) (pe_lst pa_nil) (nomark _))
        (pss_cons (ps_set (i := 5) nd rfl (Or.inl rfl) (pe_bm PySem.F.plainAttrs_list PySem.F.slot_list_pop PySem.F.type_list_pop mt_popAt (pv 4) (pa_cons pe_int pa_nil)))
        (pss_one (ps_for PassesOwn.never rfl (pi_list (pv 1)) (pg_name (i := 6) nd rfl (Or.inl rfl))
          (pss_one (ps_for PassesOwn.never rfl (pi_tup (pe_tup (pa_cons pe_int (pa_cons (pe_un un_neg pe_int) pa_nil)))) (pg_name (i := 7) nd rfl (Or.inl rfl))
            (pss_cons (ps_set (i := 8) nd rfl (Or.inl rfl) (pe_d Z.LAfter GA hr rfl (pa_cons (pv 5) (pa_cons (pv 6) (pa_cons (pv 7) pa_nil)))))
            (pss_one (ps_if (PW.pt (pw_and (pt_cmp (pc_din hu (pe_callB (call_reprPt hgd hu64) (by rfl) T.repr boot_reprK (pa_cons (pv 8) pa_nil)) (pv 0))) (pw_and1 (pt_cmp (pc_xnotin hu (pe_callB (call_reprPt hgd hu64) (by rfl) T.repr boot_reprK (pa_cons (pv 8) pa_nil)) (pv 3))))))
              (pss_cons (ps_xput hu (pv 3) (pe_callB (call_reprPt hgd hu64) (by rfl) T.repr boot_reprK (pa_cons (pv 8) pa_nil)) (pe_op op_add (pe_xget hu (pv 3) (pe_callB (call_reprPt hgd hu64) (by rfl) T.repr boot_reprK (pa_cons (pv 5) pa_nil)) (fun _ _ => rfl)) pe_int))
              (pss_one (ps_expr (pe_bm PySem.F.plainAttrs_list PySem.F.slot_list_append PySem.F.type_list_append mt_append (pv 4) (pa_cons (pv 8) pa_nil))))) pss_nil)))))))))
      (pss_one (ps_ret (pv 3))))), ?_⟩
    have big : (1000000 : Nat) < sizeLine := by decide
    have Snd : S.Nodup := lt_nodup ord
    let s0 : Str → Int := nrm S f
    have hs0 : ∀ n ∈ S, s0 n = f n := fun n hn => nrm_in hn
    have pc : ∀ {H : Hp} {d : Addr} {g h : Str → Int}, PtAt H d S g → (∀ n ∈ S, g n = h n) → PtAt H d S h := fun h e => by
      unfold PtAt at h ⊢
      rw [← pt_congr e]
      exact h
    have gs0 : GoodP G S s0 := ⟨adm_congr wi (fun n hn => (hs0 n hn).symm) ad1, nrm_nrm f⟩
    have N0 := net wi Snd gs0
    have fits : ∀ m : Str → Int, (∀ n ∈ S, -1000 ≤ m n ∧ m n ≤ 1000) → (shownOf S m).length ≤ sizeLine := fun m hm => shown_fits (by omega) fun n hn => ⟨okn n hn, hm n hn⟩
    have bd0 : ∀ m : Str → Int, Adm G m → ∀ n ∈ S, -1000 ≤ m n ∧ m n ≤ 1000 := fun m hm n hn => by have := bd m hm n hn; omega
    have mil : ∀ m : Str → Int, (∀ n ∈ S, -1000 ≤ m n ∧ m n ≤ 1000) → ∀ n ∈ S, -1000000 ≤ m n ∧ m n ≤ 1000000 := fun m hm n hn => by have := hm n hn; omega
    have hd1' : PtAt H d1 S s0 := pc hd1 fun n hn => (hs0 n hn).symm
    have b0 := bd0 s0 gs0.1
    refine fun fA hfA => ⟨_, rfl, d1, S, s0, rfl, hd1'.same (same_upd hfA), mil _ b0, fits _ b0, lT (some (shownOf S s0)), upd_same, rfl, ?_⟩
    show L2.Ends.nx _ _ (upd (upd H fA (oN P w fA [])) fA (oN P w fA [(lT (some (shownOf S s0)), .int 0)]))
    refine nx_of ?_
    have e1 : Same H (upd (upd H fA (oN P w fA [])) fA (oN P w fA [(lT (some (shownOf S s0)), .int 0)])) := by
      rw [upd_upd]
      exact same_upd hfA
    have hF1 : FoundAt P w (upd (upd H fA (oN P w fA [])) fA (oN P w fA [(lT (some (shownOf S s0)), .int 0)])) fA S (heads G S) s0 [s0] := by
      refine ⟨_, ⟨_, upd_same, Maps.nil.put (some (shownOf S s0)) (.int 0)⟩, fun x hx => ?_⟩
      rw [List.mem_singleton.mp hx, dist_zero.mpr fun _ _ => rfl]
      unfold setM
      rw [if_pos rfl]
      rfl
    generalize upd (upd H fA (oN P w fA [])) fA (oN P w fA [(lT (some (shownOf S s0)), .int 0)]) = H1 at e1 hF1 ⊢
    refine ⟨_, rfl, (by show 1 ≤ sizeLine; decide), fun eA heA => ?_⟩
    refine nx_of ?_
    have e0 : H eA = none := e1.free heA
    have nfe : fA ≠ eA := fun z => by
      obtain ⟨_, ⟨_, h1, _⟩, _⟩ := hF1
      rw [z, heA] at h1
      cases h1
    have few125 : ∀ l : List (Str → Int), l.Nodup → (∀ x ∈ l, GoodP G S x) → l.length ≤ 125 := fun l hl hx => by
      classical
      have := nd_len hl (ys := E0.map (nrm S)) fun x h => by
        obtain ⟨q, hq, e⟩ := hE2 x (hx x h).1
        refine List.mem_map.mpr ⟨q, hq, ?_⟩
        rw [nrm_eq e]
        exact (hx x h).2
      rw [List.length_map] at this
      omega
    refine ⟨fun m σ H' => ∃ (u5 u6 u7 u8 : Option V) (done : List (Str → Int)) (Qs : List (Addr × (Str → Int))), σ = [some (.ref gd), some (.ref pa), some (.ref d1), some (.ref fA), some (.ref eA), u5, u6, u7, u8] ∧ Same H H' ∧ FoundAt P w H' fA S (heads G S) s0 (done ++ ptsOf Qs) ∧
        H' eA = some (.lst (Qs.map fun q => V.ref q.1)) ∧ (∀ q ∈ Qs, PtAt H' q.1 S q.2) ∧ Bfs (GoodP G S) (fun x => dist (heads G S) s0 x) (Adj G S) s0 done (ptsOf Qs) ∧ m = 2 * (125 - (done ++ ptsOf Qs).length) + Qs.length,
      ⟨_, none, none, none, none, [], [(d1, s0)], rfl, e1.trans (same_upd heA), ?_, upd_same, ?_, Bfs.start N0, rfl⟩, ?_⟩
    · obtain ⟨m, hm1, hm2⟩ := hF1
      exact ⟨m, hm1.other nfe, hm2⟩
    · intro q hq
      rw [List.mem_singleton.mp hq]
      exact (hd1'.same e1).same (same_upd heA)
    rintro m σ H2 ⟨u5, u6, u7, u8, done, Qs, rfl, e2, hF2, hE, hQ, hB, rfl⟩
    refine ⟨_, rfl, Nat.zero_le _, fun z hz => ?_⟩
    refine ⟨eA, z, _, rfl, rfl, SqL.of ((same_upd hz) _ _ hE), SqL.of upd_same, _, rfl, ?_⟩
    have e3 : Same H (upd H2 z (.lst [])) := e2.trans (same_upd hz)
    have hF3 : FoundAt P w (upd H2 z (.lst [])) fA S (heads G S) s0 (done ++ ptsOf Qs) := by
      obtain ⟨m, hm1, hm2⟩ := hF2
      exact ⟨m, hm1.same (same_upd hz), hm2⟩
    have hE3 := (same_upd (o := .lst []) hz) _ _ hE
    have hQ3 : ∀ q ∈ Qs, PtAt (upd H2 z (.lst [])) q.1 S q.2 := fun q hq => (hQ q hq).same (same_upd hz)
    generalize upd H2 z (.lst []) = H3 at e3 hF3 hE3 hQ3 ⊢
    cases Qs with
    | nil =>
      refine iteF ⟨_, rfl, k H3 fA done e3 hfA ?_ fun m hm => ?_⟩
      · have hF3 : FoundAt P w H3 fA S (heads G S) s0 (done ++ []) := hF3
        rw [List.append_nil] at hF3
        obtain ⟨m, hm1, hm2⟩ := hF3
        refine ⟨m, hm1, fun x hx => ?_⟩
        rw [hm2 x hx]
        have : dist (heads G S) s0 x = dist (heads G S) f x := by
          unfold dist
          rw [List.map_congr_left fun h hh => by rw [hs0 h (mem_heads.mp hh).1]]
        rw [this]
      · have hg : GoodP G S (nrm S m) := ⟨adm_congr wi (fun n hn => (nrm_in hn).symm) hm, nrm_nrm m⟩
        exact ⟨_, hB.all N0 _ _ hg rfl, fun n hn => nrm_in hn⟩
    | cons q Qt =>
      refine iteT ⟨_, fun σ' H' z => z, ?_⟩
      have sq0 : ∀ n, seqIndex? (0 : Int) (n + 1) = some 0 := fun n => by
        unfold seqIndex?
        simp
      refine ⟨_, rfl, .inl ⟨rfl, _, SqL.of hE3⟩, eA, _, 0, 0, _, rfl, rfl, hE3, by decide, by decide, sq0 _, rfl, ?_⟩
      refine nx_of ?_
      have ne : ∀ {b : Addr} {m : Str → Int}, PtAt H3 b S m → b ≠ eA := fun h z => by
        have h : H3 _ = _ := h
        rw [z, hE3] at h
        cases h
      have hM : MidAt P w H (upd H3 eA (.lst ((((q :: Qt).map fun q => V.ref q.1)).eraseIdx 0))) fA eA S G s0 done q Qt [] := by
        refine ⟨fun b o h => ?_, ?_, ?_, fun r hr' => ?_, Work.start hB⟩
        · rw [upd_ne fun z => by rw [z, e0] at h; cases h]
          exact e3 b o h
        · obtain ⟨m, hm1, hm2⟩ := hF3
          have : done ++ q.2 :: ptsOf Qt ++ ptsOf [] = done ++ ptsOf (q :: Qt) := by simp [ptsOf]
          rw [this]
          exact ⟨m, hm1.other nfe, hm2⟩
        · rw [upd_same, List.append_nil]
          rfl
        · rw [List.append_nil] at hr'
          have := hQ3 r hr'
          unfold PtAt
          rw [upd_ne (ne this)]
          exact this
      generalize upd H3 eA (.lst ((((q :: Qt).map fun q => V.ref q.1)).eraseIdx 0)) = H4 at hM ⊢
      clear hQ3 hE3 hF3 e3 hQ hE hF2 e2 hz ne
      have gx : GoodP G S q.2 := hB.gd _ (List.mem_append.mpr (.inr (.head _)))
      have hlen0 : (done ++ ptsOf (q :: Qt)).length = done.length + 1 + Qt.length := by
        rw [List.length_append, List.length_map, List.length_cons]
        omega
      rw [hlen0]
      refine ⟨_, rfl, pa, rfl, ⟨_, SqL.of (hM.1 _ _ hpa)⟩, ?_⟩
      refine for_list (K := K) (a := pa) (xs := bs.map V.ref) (fun i σ H' => ∃ (u6 u7 u8 : Option V) (new : List (Addr × (Str → Int))), σ = [some (.ref gd), some (.ref pa), some (.ref d1), some (.ref fA), some (.ref eA), some (.ref q.1), u6, u7, u8] ∧ MidAt P w H H' fA eA S G s0 done q Qt new ∧
          ∀ h ∈ (heads G S).take i, ∀ c : Int, (c = 1 ∨ c = -1) → Cov G S q.2 h c (done ++ q.2 :: ptsOf Qt ++ ptsOf new))
        ⟨_, _, _, [], rfl, hM, fun h hh => by simp at hh⟩ (fun i σ H' _ ⟨_, _, _, _, _, e, _⟩ => SqL.of (e.1 _ _ hpa)) ?_ ?_
      · rintro i y σ H5 hi ⟨u6, u7, u8, new, rfl, hM5, hC5⟩
        obtain ⟨b, hb, rfl⟩ := ref_get hi
        obtain ⟨h, hh⟩ : ∃ h, (heads G S)[i]? = some h := by
          have := (List.getElem?_eq_some_iff.mp hb).1
          rw [← paired_len hbs] at this
          exact ⟨_, List.getElem?_eq_getElem this⟩
        obtain ⟨b', hb', hbB⟩ := paired_nth hbs hh
        obtain rfl : b' = b := Option.some.inj (hb'.symm.trans hb)
        have hhm : h ∈ heads G S := List.mem_of_getElem? hh
        refine ⟨_, rfl, (by show 2 ≤ sizeLine; decide), fun t ht => ?_⟩
        have hM6 : MidAt P w H (upd H5 t (.tup [.int 1, .int (-1)])) fA eA S G s0 done q Qt new := by
          obtain ⟨g1, ⟨m, g2, g2'⟩, g3, g4, g5⟩ := hM5
          exact ⟨g1.trans (same_upd ht), ⟨m, g2.same (same_upd ht), g2'⟩, (same_upd ht) _ _ g3, fun r hr' => (g4 r hr').same (same_upd ht), g5⟩
        have ht6 : (upd H5 t (.tup [.int 1, .int (-1)])) t = some (.tup [.int 1, .int (-1)]) := upd_same
        have tE : t ≠ eA := fun z => by rw [z, hM5.2.2.1] at ht; cases ht
        have tF : t ≠ fA := fun z => by
          obtain ⟨_, ⟨_, g, _⟩, _⟩ := hM5.2.1
          rw [z, g] at ht
          cases ht
        generalize upd H5 t (.tup [.int 1, .int (-1)]) = H6 at hM6 ht6 ⊢
        refine ⟨t, rfl, ⟨_, SqT.of ht6⟩, ?_⟩
        refine for_tup (K := K) (a := t) (xs := [.int 1, .int (-1)]) (fun j σ H' => ∃ (u7 u8 : Option V) (new : List (Addr × (Str → Int))), σ = [some (.ref gd), some (.ref pa), some (.ref d1), some (.ref fA), some (.ref eA), some (.ref q.1), some (.ref b'), u7, u8] ∧ MidAt P w H H' fA eA S G s0 done q Qt new ∧ H' t = some (.tup [.int 1, .int (-1)]) ∧
            (∀ h ∈ (heads G S).take i, ∀ c : Int, (c = 1 ∨ c = -1) → Cov G S q.2 h c (done ++ q.2 :: ptsOf Qt ++ ptsOf new)) ∧ ∀ c ∈ ([1, -1] : List Int).take j, Cov G S q.2 h c (done ++ q.2 :: ptsOf Qt ++ ptsOf new))
          ⟨_, _, new, rfl, hM6, ht6, hC5, fun c hc => by simp at hc⟩ (fun j σ H' _ ⟨_, _, _, _, _, e, _⟩ => SqT.of e) ?_ ?_
        · rintro j y σ H7 hj ⟨u7, u8, new, rfl, hM7, ht7, hC7, hD7⟩
          obtain ⟨c, hc, rfl, hcj⟩ : ∃ c : Int, (c = 1 ∨ c = -1) ∧ y = .int c ∧ ([1, -1] : List Int)[j]? = some c := by
            match j, hj with
            | 0, hj => exact ⟨1, .inl rfl, (Option.some.inj hj).symm, rfl⟩
            | 1, hj => exact ⟨-1, .inr rfl, (Option.some.inj hj).symm, rfl⟩
          obtain ⟨g1, g2, g3, g4, g5⟩ := hM7
          refine ⟨_, rfl, _, rfl, _, rfl, q.1, b', c, S, blkOf G S h, q.2, rfl, hc, g4 q (.head _), g1 _ _ hbB, ord, by omega, fun H8 t8 e8 t80 hp8 => ?_⟩
          refine nx_of ?_
          have bl : ∀ n ∈ S, -1000 ≤ shift q.2 (blkOf G S h) c n ∧ shift q.2 (blkOf G S h) c n ≤ 1000 := fun n hn => by
            have := bd _ gx.1 n hn
            unfold shift
            split <;> omega
          have nl : nrm S (shift q.2 (blkOf G S h) c) = shift q.2 (blkOf G S h) c := shift_nrm gx.2
          generalize hlt : shift q.2 (blkOf G S h) c = later at hp8 bl nl ⊢
          have g18 := g1.trans e8
          have hM8 : MidAt P w H H8 fA eA S G s0 done q Qt new := by
            obtain ⟨m, g2a, g2b⟩ := g2
            exact ⟨g18, ⟨m, g2a.same e8, g2b⟩, e8 _ _ g3, fun r hr' => (g4 r hr').same e8, g5⟩
          have ht8 := e8 _ _ ht7
          obtain ⟨kg, hg1, hg2⟩ := hG
          have hgd8 := g18 _ _ hg1
          have hiff := hg2 later bl
          have cov : ∀ new' : List (Addr × (Str → Int)), (∀ x ∈ done ++ q.2 :: ptsOf Qt ++ ptsOf new, x ∈ done ++ q.2 :: ptsOf Qt ++ ptsOf new') → (GoodP G S later → later ∈ done ++ q.2 :: ptsOf Qt ++ ptsOf new') →
              (∀ h ∈ (heads G S).take i, ∀ c : Int, (c = 1 ∨ c = -1) → Cov G S q.2 h c (done ++ q.2 :: ptsOf Qt ++ ptsOf new')) ∧ ∀ c ∈ ([1, -1] : List Int).take (j + 1), Cov G S q.2 h c (done ++ q.2 :: ptsOf Qt ++ ptsOf new') := fun new' sub has => by
            refine ⟨fun h' hh' c' hc' gg => sub _ (hC7 h' hh' c' hc' gg), fun c' hc' => ?_⟩
            rw [take_snoc hcj] at hc'
            rcases List.mem_append.mp hc' with hc' | hc'
            · exact fun gg => sub _ (hD7 c' hc' gg)
            · rw [List.mem_singleton.mp hc']
              intro gg
              rw [hlt] at gg ⊢
              exact has gg
          have stay : (GoodP G S later → later ∈ done ++ q.2 :: ptsOf Qt ++ ptsOf new) → ∃ (u7 u8 : Option V) (new : List (Addr × (Str → Int))), ([some (.ref gd), some (.ref pa), some (.ref d1), some (.ref fA), some (.ref eA), some (.ref q.1), some (.ref b'), some (.int c), some (.ref t8)] : L2.St) = [some (.ref gd), some (.ref pa), some (.ref d1), some (.ref fA), some (.ref eA), some (.ref q.1), some (.ref b'), u7, u8] ∧ MidAt P w H H8 fA eA S G s0 done q Qt new ∧ H8 t = some (.tup [.int 1, .int (-1)]) ∧
              (∀ h ∈ (heads G S).take i, ∀ c : Int, (c = 1 ∨ c = -1) → Cov G S q.2 h c (done ++ q.2 :: ptsOf Qt ++ ptsOf new)) ∧ ∀ c ∈ ([1, -1] : List Int).take (j + 1), Cov G S q.2 h c (done ++ q.2 :: ptsOf Qt ++ ptsOf new) := fun has =>
            ⟨_, _, new, rfl, hM8, ht8, cov new (fun _ h => h) has⟩
          refine ⟨_, rfl, t8, S, later, rfl, hp8, mil _ bl, fits _ bl, _, rfl, gd, _, rfl, DGet.k (k := Sum.inr (shownOf S later)) hgd8, _, rfl, ?_⟩
          cases hin : (valV kg (.inr (shownOf S later))).isSome with
          | false =>
            refine iteF (stay fun gg => ?_)
            rw [hiff.mpr gg.1] at hin
            cases hin
          | true =>
            have gl : GoodP G S later := ⟨hiff.mp hin, nl⟩
            obtain ⟨m, g2a, g2b⟩ := hM8.2.1
            refine iteT ⟨_, rfl, t8, S, later, rfl, hp8, mil _ bl, fits _ bl, _, rfl, fA, _, rfl, g2a.get (some (shownOf S later)), _, rfl, ?_⟩
            have hmem : ∀ x ∈ done ++ q.2 :: ptsOf Qt ++ ptsOf new, GoodP G S x := fun x hx => by
              rcases List.mem_append.mp hx with hx | hx
              · exact g5.base.gd x hx
              · exact (g5.newG x hx).1
            have key : ∀ x ∈ done ++ q.2 :: ptsOf Qt ++ ptsOf new, shownOf S x = shownOf S later → x = later := fun x hx e =>
              good_eq (hmem x hx).2 nl (shown_inj (fun n hn => ⟨bd0 _ (hmem x hx).1 n hn, bl n hn⟩) e)
            cases hfd : m (some (shownOf S later)) with
            | some v =>
              refine iteF (stay fun _ => ?_)
              have hk : some (shownOf S later) ∈ (done ++ q.2 :: ptsOf Qt ++ ptsOf new).map fun x => some (shownOf S x) := by
                obtain ⟨kvs, _, hM⟩ := g2a
                exact hM.mem.mpr (by rw [hfd]; rfl)
              obtain ⟨x, hx, e⟩ := List.mem_map.mp hk
              rw [← key x hx (Option.some.inj e)]
              exact hx
            | none =>
              have hnot : later ∉ done ++ q.2 :: ptsOf Qt ++ ptsOf new := fun hx => by
                have := g2b later hx
                rw [hfd] at this
                cases this
              obtain ⟨hdist, hw'⟩ := g5.add N0 gl ⟨h, hhm, c, hc, hlt.symm⟩ hnot
              have hlen : ((done ++ q.2 :: ptsOf Qt ++ ptsOf new).map fun x => some (shownOf S x)).length < sizeLine := by
                rw [List.length_map]
                have := few125 _ g5.nd hmem
                omega
              have hqx := g2a.get (some (shownOf S q.2))
              rw [g2b q.2 (List.mem_append.mpr (.inl (List.mem_append.mpr (.inr (.head _)))))] at hqx
              obtain ⟨u, hu1, hN⟩ := g2a.put hlen (some (shownOf S later)) (.int ((dist (heads G S) s0 q.2 : Nat) + 1 : Int))
              have bq := bd0 _ gx.1
              have t8F : t8 ≠ fA := fun z => by
                obtain ⟨kvs, g, _⟩ := g2a
                have hp8 : H8 t8 = _ := hp8
                rw [z, g] at hp8
                cases hp8
              have eF : eA ≠ fA := nfe.symm
              refine iteT ⟨_, rfl, _, rfl, q.1, S, q.2, rfl, hM8.2.2.2.1 q (.head _), mil _ bq, fits _ bq, fA, _, rfl, hqx, _, _, rfl, rfl, _, rfl, _, rfl, t8, S, later, rfl, hp8, mil _ bl, fits _ bl, fA, _, rfl, hu1, ?_⟩
              have hE9 : (upd H8 fA u) eA = some (.lst ((Qt ++ new).map fun q => V.ref q.1)) := by
                rw [upd_ne eF]
                exact hM8.2.2.1
              have hgrow : ((Qt ++ new).map fun q => V.ref q.1).length < sizeLine := by
                have := few125 _ g5.nd hmem
                simp only [List.length_map, List.length_append, List.length_cons] at this ⊢
                omega
              refine ⟨_, rfl, .inl ⟨rfl, _, SqL.of hE9⟩, _, rfl, eA, _, _, rfl, rfl, hE9, hgrow, ?_⟩
              have hnk : some (shownOf S later) ∉ (done ++ q.2 :: ptsOf Qt ++ ptsOf new).map fun x => some (shownOf S x) := fun hk => by
                obtain ⟨x, hx, e⟩ := List.mem_map.mp hk
                exact hnot (key x hx (Option.some.inj e) ▸ hx)
              rw [if_neg hnk] at hN
              have kp9 : ∀ b o, b ≠ fA → b ≠ eA → H8 b = some o → (upd (upd H8 fA u) eA (.lst ((Qt ++ new).map (fun q => V.ref q.1) ++ [.ref t8]))) b = some o := fun b o h1 h2 e => by
                rw [upd_ne h2, upd_ne h1]
                exact e
              have eqL : done ++ q.2 :: ptsOf Qt ++ ptsOf (new ++ [(t8, later)]) = (done ++ q.2 :: ptsOf Qt ++ ptsOf new) ++ [later] := by simp [ptsOf]
              have pAt : ∀ {a : Addr} {m0 : Str → Int}, PtAt H8 a S m0 → a ≠ fA ∧ a ≠ eA := fun {a m0} ha => by
                have ha : H8 a = some (.dK (pt S m0)) := ha
                obtain ⟨kvs, g, _⟩ := g2a
                exact ⟨fun z => (by rw [z, g] at ha; cases ha), fun z => (by rw [z, hM8.2.2.1] at ha; cases ha)⟩
              refine ⟨_, _, new ++ [(t8, later)], rfl, ⟨fun b o hb => kp9 b o (fun z => by rw [z, hfA] at hb; cases hb) (fun z => by rw [z, e0] at hb; cases hb) (g18 b o hb), ⟨setM m (some (shownOf S later)) (.int ((dist (heads G S) s0 q.2 : Nat) + 1 : Int)), ?_, fun x hx => ?_⟩, ?_, fun r hr' => ?_, ?_⟩, kp9 _ _ tF tE ht8, ?_⟩
              · rw [eqL]
                have hN9 := hN.other (u := .lst ((Qt ++ new).map (fun q => V.ref q.1) ++ [.ref t8])) nfe
                rw [List.map_append (l₁ := done ++ q.2 :: ptsOf Qt ++ ptsOf new) (l₂ := [later])]
                exact hN9
              · rw [eqL] at hx
                rcases List.mem_append.mp hx with hx | hx
                · rw [setM_ne fun z => hnot (key x hx (Option.some.inj z) ▸ hx)]
                  exact g2b x hx
                · rw [List.mem_singleton.mp hx, setM_same]
                  have : ((dist (heads G S) s0 later : Nat) : Int) = (dist (heads G S) s0 q.2 : Nat) + 1 := by omega
                  rw [this]
              · rw [upd_same, ← List.append_assoc]
                rw [List.map_append (l₁ := Qt ++ new) (l₂ := [(t8, later)])]
                rfl
              · have hr2 : r ∈ q :: Qt ++ new ∨ r = (t8, later) := by
                  simp only [List.mem_append, List.mem_cons, List.cons_append, List.mem_singleton, List.not_mem_nil, or_false] at hr' ⊢
                  rcases hr' with z | z | z | z
                  · exact .inl (.inl z)
                  · exact .inl (.inr (.inl z))
                  · exact .inl (.inr (.inr z))
                  · exact .inr z
                rcases hr2 with z | z
                · have ha := hM8.2.2.2.1 r z
                  exact kp9 _ _ (pAt ha).1 (pAt ha).2 ha
                · rw [z]
                  exact kp9 _ _ (pAt hp8).1 (pAt hp8).2 hp8
              · have : ptsOf (new ++ [(t8, later)]) = ptsOf new ++ [later] := by simp [ptsOf]
                rw [this]
                exact hw'
              · refine cov (new ++ [(t8, later)]) (fun x hx => ?_) fun _ => ?_
                · rw [eqL]
                  exact List.mem_append.mpr (.inl hx)
                · rw [eqL]
                  exact List.mem_append.mpr (.inr (.head _))
        · rintro σ H7 ⟨u7, u8, new, rfl, hM7, ht7, hC7, hD7⟩
          refine ⟨_, _, _, new, rfl, hM7, fun h' hh' c hc => ?_⟩
          rw [take_snoc hh] at hh'
          rcases List.mem_append.mp hh' with hh' | hh'
          · exact hC7 h' hh' c hc
          · rw [List.mem_singleton.mp hh']
            exact hD7 c (by rcases hc with rfl | rfl <;> simp)
      · rintro σ H5 ⟨u6, u7, u8, new, rfl, hM5, hC5⟩
        obtain ⟨g1, g2, g3, g4, g5⟩ := hM5
        have hbl : bs.length = (heads G S).length := (paired_len hbs).symm
        rw [List.length_map, hbl, List.take_length] at hC5
        have hB' := g5.done fun y gy ⟨h, hh, c, hc, e⟩ => by
          subst e
          exact hC5 h hh c hc gy
        have ep : ptsOf Qt ++ ptsOf new = ptsOf (Qt ++ new) := by unfold ptsOf; rw [List.map_append]
        rw [ep] at hB'
        have hl : (done ++ [q.2] ++ ptsOf (Qt ++ new)).length = done.length + 1 + Qt.length + new.length := by
          rw [List.length_append, List.length_append, List.length_map, List.length_append, List.length_singleton]
          omega
        have h125 := few125 _ hB'.nd hB'.gd
        rw [hl] at h125
        refine ⟨_, ?_, some (.ref q.1), u6, u7, u8, done ++ [q.2], Qt ++ new, rfl, g1, ?_, g3, fun r hr' => g4 r (.tail _ hr'), hB', rfl⟩
        · rw [hl, List.length_append, List.length_cons]
          omega
        · have : done ++ [q.2] ++ ptsOf (Qt ++ new) = done ++ q.2 :: ptsOf Qt ++ ptsOf new := by rw [← ep]; simp
          rw [this]
          exact g2
end
end K73
set_option maxHeartbeats 1000000
/-! A generator that sleeps is left as it is by code that never wakes it. The code is run beside a state in which every sleeping generator would be stuck when woken; what is read of a generator (GenState.seen) is the same in both. -/
namespace K73
open PySem PyProof.Rows
open Sem (wp)

/-- the same to look at, stuck when woken -/
def stuckOf : GenState → GenState
  | .suspended _ l c p fs cl => .suspended (fun _ => .unsupported "") l c p fs cl
  | x => x
def asleep : GenState → Bool
  | .suspended .. => true
  | _ => false
theorem seen_stuck (x : GenState) : (stuckOf x).seen = x.seen := by cases x <;> rfl
theorem bare_stuck (x : GenState) : (stuckOf x).bare = x.bare := by cases x <;> rfl
/-- the sleepers of G0 put back -/
def backAt (G0 : Array GenState) (i : Nat) (x : GenState) : GenState :=
  match G0[i]? with
  | some y => if asleep y = true then y else x
  | none => x
def back (G0 G : Array GenState) : Array GenState := G.mapIdx (backAt G0)
def putBack (G0 : Array GenState) (s : Shared) : Shared := { s with gens := back G0 s.gens }
/-- no generator's frame in the stack -/
def NoG (fs : List Frame) : Prop := splitAtGen fs = none
def InS (G0 : Array GenState) (i : Nat) : Prop := ∃ y, G0[i]? = some y ∧ asleep y = true
structure Good (G0 : Array GenState) (s : Shared) : Prop where
  sz : G0.size ≤ s.gens.size
  sl : ∀ (i : Nat) (y : GenState), G0[i]? = some y → asleep y = true → s.gens[i]? = some (stuckOf y)
  nog : ∀ (i : Nat) (k : Resume → Sem PySem.Fin) (l : List Value) (c : Code) (p : Pos) (fs : List Frame) (cl : Bool), s.gens[i]? = some (.suspended k l c p fs cl) → InS G0 i ∨ NoG fs

section
variable {G0 : Array GenState}
theorem backAt_in {i : Nat} {x y : GenState} (h : G0[i]? = some y) (hy : asleep y = true) : backAt G0 i x = y := by
  unfold backAt
  rw [h]
  exact if_pos hy
theorem backAt_out {i : Nat} {x : GenState} (h : ¬ InS G0 i) : backAt G0 i x = x := by
  unfold backAt
  cases e : G0[i]? with
  | none => rfl
  | some y =>
    have hy : ¬ asleep y = true := fun q => h ⟨y, e, q⟩
    exact if_neg hy
theorem back_get (G : Array GenState) (i : Nat) : (back G0 G)[i]? = (G[i]?).map (backAt G0 i) := by
  unfold back
  rw [Array.getElem?_mapIdx]
theorem back_size (G : Array GenState) : (back G0 G).size = G.size := by
  unfold back
  rw [Array.size_mapIdx]
theorem out_of_ge {i : Nat} (h : G0.size ≤ i) : ¬ InS G0 i := fun ⟨y, e, _⟩ => by
  have := (Array.getElem?_eq_some_iff.mp e).1
  omega
theorem back_push {G : Array GenState} {x : GenState} (h : G0.size ≤ G.size) : back G0 (G.push x) = (back G0 G).push x := by
  refine Array.ext_getElem? fun i => ?_
  rw [back_get, Array.getElem?_push, Array.getElem?_push, back_size]
  by_cases e : i = G.size
  · rw [if_pos e, if_pos e, Option.map_some, backAt_out (out_of_ge (by omega))]
  · rw [if_neg e, if_neg e, back_get]
theorem back_set {G : Array GenState} {x : GenState} {g : Nat} (h : ¬ InS G0 g) : back G0 (G.setIfInBounds g x) = (back G0 G).setIfInBounds g x := by
  refine Array.ext_getElem? fun i => ?_
  rw [back_get, Array.getElem?_setIfInBounds, Array.getElem?_setIfInBounds, back_size]
  by_cases e : g = i
  · subst e
    rw [if_pos rfl, if_pos rfl]
    by_cases hl : g < G.size
    · rw [if_pos hl, Option.map_some, backAt_out h]
    · rw [if_neg hl]
      rfl
  · rw [if_neg e, if_neg e, back_get]
theorem putBack_set {s : Shared} {x : GenState} {g : Nat} (h : ¬ InS G0 g) : putBack G0 (s.setGen g x) = (putBack G0 s).setGen g x := by
  unfold putBack Shared.setGen
  rw [back_set h]
theorem putBack_push {s : Shared} {c : Code} (h : G0.size ≤ s.gens.size) : putBack G0 { s with gens := s.gens.push (.fresh c) } = { putBack G0 s with gens := (putBack G0 s).gens.push (.fresh c) } := by
  unfold putBack
  rw [back_push h]
theorem putBack_size {s : Shared} : (putBack G0 s).gens.size = s.gens.size := back_size _
theorem Good.out {s : Shared} {g : Nat} {x : GenState} (h : Good G0 s) (e : s.gens[g]? = some x) (hx : asleep x = false) : ¬ InS G0 g := fun ⟨y, ey, hy⟩ => by
  have q := h.sl g y ey hy
  rw [e] at q
  cases q
  cases y <;> simp [asleep, stuckOf] at hx hy
theorem Good.look {s : Shared} {g : Nat} {x : GenState} (h : Good G0 s) (e : s.gens[g]? = some x) : ∃ y, (putBack G0 s).gens[g]? = some y ∧ y.seen = x.seen ∧ (¬ InS G0 g → y = x) := by
  refine ⟨backAt G0 g x, ?_, ?_, fun n => backAt_out n⟩
  · show (back G0 s.gens)[g]? = _
    rw [back_get, e]
    rfl
  · by_cases n : InS G0 g
    · obtain ⟨y, ey, hy⟩ := n
      have q := h.sl g y ey hy
      rw [e] at q
      cases q
      rw [backAt_in ey hy, seen_stuck]
    · rw [backAt_out n]
theorem Good.heap {s s' : Shared} (h : Good G0 s) (e : s'.gens = s.gens) : Good G0 s' := ⟨by rw [e]; exact h.sz, by rw [e]; exact h.sl, by rw [e]; exact h.nog⟩
theorem Good.of {s : Shared} (h : Good G0 s) (hp : Heap) (dr : Drawn) (tk : Nat) (os : _) : Good G0 ⟨hp, s.gens, dr, tk, os⟩ := h.heap rfl
theorem Good.push {s : Shared} {c : Code} (h : Good G0 s) : Good G0 { s with gens := s.gens.push (.fresh c) } := by
  refine ⟨?_, fun i y ey hy => ?_, fun i k l c' p fs cl e => ?_⟩
  · show G0.size ≤ (s.gens.push _).size
    rw [Array.size_push]
    exact Nat.le_succ_of_le h.sz
  · show (s.gens.push _)[i]? = _
    have hi : i < G0.size := (Array.getElem?_eq_some_iff.mp ey).1
    rw [Array.getElem?_push, if_neg (by have := h.sz; omega)]
    exact h.sl i y ey hy
  · have e' : (s.gens.push (.fresh c))[i]? = some (.suspended k l c' p fs cl) := e
    rw [Array.getElem?_push] at e'
    by_cases q : i = s.gens.size
    · rw [if_pos q] at e'
      cases e'
    · rw [if_neg q] at e'
      exact h.nog i k l c' p fs cl e'
theorem Good.set {s : Shared} {g : Nat} {x : GenState} (h : Good G0 s) (hg : ¬ InS G0 g) (hx : ∀ k l c p fs cl, x = .suspended k l c p fs cl → NoG fs) : Good G0 (s.setGen g x) := by
  refine ⟨?_, fun i y ey hy => ?_, fun i k l c' p fs cl e => ?_⟩
  · show G0.size ≤ (s.gens.setIfInBounds g x).size
    rw [Array.size_setIfInBounds]
    exact h.sz
  · show (s.gens.setIfInBounds g x)[i]? = _
    have hne : ¬ g = i := fun q => hg (by rw [q]; exact ⟨y, ey, hy⟩)
    rw [Array.getElem?_setIfInBounds, if_neg hne]
    exact h.sl i y ey hy
  · have e' : (s.gens.setIfInBounds g x)[i]? = some (.suspended k l c' p fs cl) := e
    rw [Array.getElem?_setIfInBounds] at e'
    by_cases q : g = i
    · rw [if_pos q] at e'
      by_cases hl : g < s.gens.size
      · rw [if_pos hl] at e'
        exact .inr (hx _ _ _ _ _ _ (Option.some.inj e'))
      · rw [if_neg hl] at e'
        cases e'
    · rw [if_neg q] at e'
      exact h.nog i k l c' p fs cl e'

theorem noG_nil : NoG [] := rfl
theorem noG_ret {k h g l c p kp} {fs : List Frame} (n : NoG fs) : NoG (.ret k h g l c p kp :: fs) := by
  unfold NoG at n ⊢
  simp only [splitAtGen]
  rw [n]
  rfl
theorem noG_tail {F : Frame} {fs : List Frame} (n : NoG (F :: fs)) : NoG fs := by
  unfold NoG at n ⊢
  cases F with
  | gen g k l c p => simp [splitAtGen] at n
  | ret k h g l c p kp =>
    simp only [splitAtGen] at n
    cases e : splitAtGen fs with
    | none => rfl
    | some y =>
      rw [e] at n
      simp at n
theorem noG_app : ∀ {a b : List Frame}, NoG a → NoG b → NoG (a ++ b)
  | [], _, _, h => h
  | F :: a, b, ha, hb => by
    have ih := noG_app (noG_tail ha) hb
    cases F with
    | gen g k l c p => simp [NoG, splitAtGen] at ha
    | ret k h g l c p kp => exact noG_ret ih
theorem no_gen {g k l c p} {fs : List Frame} : ¬ NoG (.gen g k l c p :: fs) := fun h => by simp [NoG, splitAtGen] at h

/-- nothing runs from what is unsupported -/
theorem runs_stuck {M : Model} {Γ : Ctx} {p : Pos} {w : String} {t : Sem PySem.Fin} {fs : List Frame} {s s' : Shared} {e : End} (h : Runs M Γ p t fs s e s') (ht : t = .unsupported w) : False := by
  induction h <;> first | (cases ht; done) | (rename_i ih _; exact ih ht) | (rename_i ih; exact ih ht) | (rename_i ih _ _; exact ih ht) | skip
  all_goals (first | exact absurd ht (by simp) | skip)

def SuspNoG (e : End) : Prop := ∀ v g l k c p0 fs0, e = End.susp v g l k c p0 fs0 → NoG fs0
theorem suspNoG_ret {r : Result} : SuspNoG (.ret r) := fun _ _ _ _ _ _ _ q => by cases q
theorem SuspNoG.gen {e : End} (h : SuspNoG e) : ∀ k l c p fs cl, e.genState = .suspended k l c p fs cl → NoG fs := fun k l c p fs cl q => by
  cases e with
  | ret r => cases q
  | susp v g l0 k0 c0 p0 fs0 =>
    injection q with _ _ _ _ q5 _
    rw [← q5]
    exact h _ _ _ _ _ _ _ rfl
theorem runs_back {M : Model} {Γ : Ctx} {p : Pos} {t : Sem PySem.Fin} {fs : List Frame} {s s' : Shared} {e : End} (h : Runs M Γ p t fs s e s') :
    NoG fs → Good G0 s → Good G0 s' ∧ Runs M Γ p t fs (putBack G0 s) e (putBack G0 s') ∧ SuspNoG e := by
  induction h with
  | done => intro _ g; exact ⟨g, .done, suspNoG_ret⟩
  | raise => intro _ g; exact ⟨g, .raise, suspNoG_ret⟩
  | again hq _ ih => intro n g; obtain ⟨a, b, c⟩ := ih n g; exact ⟨a, .again hq b, c⟩
  | rule _ ih => intro n g; obtain ⟨a, b, c⟩ := ih n g; exact ⟨a, .rule b, c⟩
  | «at» _ ih => intro n g; obtain ⟨a, b, c⟩ := ih n g; exact ⟨a, .at b, c⟩
  | load ho _ ih => intro n g; obtain ⟨a, b, c⟩ := ih n g; exact ⟨a, .load ho b, c⟩
  | update ha _ ih => intro n g; obtain ⟨a, b, c⟩ := ih n (g.of _ _ _ _); exact ⟨a, .update ha b, c⟩
  | loadIfAlive _ ih => intro n g; obtain ⟨a, b, c⟩ := ih n g; exact ⟨a, .loadIfAlive b, c⟩
  | point _ ih => intro n g; obtain ⟨a, b, c⟩ := ih n g; exact ⟨a, .point b, c⟩
  | alloc _ ih => intro n g; obtain ⟨a, b, c⟩ := ih n (g.of _ _ _ _); exact ⟨a, .alloc b, c⟩
  | fresh _ ih => intro n g; obtain ⟨a, b, c⟩ := ih n (g.of _ _ _ _); exact ⟨a, .fresh b, c⟩
  | ask _ ih => intro n g; obtain ⟨a, b, c⟩ := ih n g; exact ⟨a, .ask b, c⟩
  | choose hn _ ih => intro n g; obtain ⟨a, b, c⟩ := ih n (g.of _ _ _ _); exact ⟨a, .choose hn b, c⟩
  | os _ ih => intro n g; obtain ⟨a, b, c⟩ := ih n (g.of _ _ _ _); exact ⟨a, .os b, c⟩
  | handled _ ih => intro n g; obtain ⟨a, b, c⟩ := ih n g; exact ⟨a, .handled b, c⟩
  | genState hg _ ih =>
    intro n g
    obtain ⟨a, b, c⟩ := ih n g
    obtain ⟨y, hy, hs, _⟩ := g.look hg
    rw [← hs] at b
    exact ⟨a, .genState hy b, c⟩
  | stack _ ih => intro n g; obtain ⟨a, b, c⟩ := ih n g; exact ⟨a, .stack b, c⟩
  | thread _ ih => intro n g; obtain ⟨a, b, c⟩ := ih n g; exact ⟨a, .thread b, c⟩
  | newGen _ ih =>
    intro n g
    obtain ⟨a, b, c⟩ := ih n g.push
    refine ⟨a, .newGen ?_, c⟩
    rw [putBack_push g.sz] at b
    rw [putBack_size]
    exact b
  | call _ _ ih1 ih2 =>
    intro n g
    obtain ⟨a, b, _⟩ := ih1 noG_nil g
    obtain ⟨a2, b2, c2⟩ := ih2 n a
    exact ⟨a2, .call b b2, c2⟩
  | callSusp _ ih =>
    intro n g
    obtain ⟨a, b, c⟩ := ih noG_nil g
    refine ⟨a, .callSusp b, fun v g l k c0 p0 fs0 q => ?_⟩
    injection q with _ _ _ _ _ _ q7
    rw [← q7]
    exact noG_app (c _ _ _ _ _ _ _ rfl) (noG_ret noG_nil)
  | yield =>
    intro n g
    refine ⟨g, .yield, fun v g l k c0 p0 fs0 q => ?_⟩
    injection q with _ _ _ _ _ _ q7
    rw [← q7]
    exact noG_nil
  | resumeFresh hg _ hq _ ih1 ih2 =>
    intro n g
    have ho := g.out hg rfl
    obtain ⟨y, hy, _, hyx⟩ := g.look hg
    rw [hyx ho] at hy
    obtain ⟨a, b, c⟩ := ih1 noG_nil (g.set ho fun _ _ _ _ _ _ q => by cases q)
    rw [putBack_set ho] at b
    obtain ⟨a2, b2, c2⟩ := ih2 n (a.set ho c.gen)
    rw [putBack_set ho] at b2
    exact ⟨a2, .resumeFresh hy b hq b2, c2⟩
  | @resumeSuspended _ _ g0 _ _ _ s k0 l0 c0 p0 fs0 cl _ _ _ _ hg hr hq _ ih1 ih2 =>
    intro n g
    by_cases ho : InS G0 g0
    · obtain ⟨y, ey, hy⟩ := ho
      have q := g.sl g0 y ey hy
      rw [hg] at q
      cases y with
      | suspended k1 l1 c1 p1 fs1 cl1 =>
        have q' := Option.some.inj q
        simp only [stuckOf] at q'
        injection q' with q1
        rw [q1] at hr
        exact (runs_stuck hr rfl).elim
      | fresh _ => cases hy
      | running => cases hy
      | finished => cases hy
    · obtain ⟨y, hy, _, hyx⟩ := g.look hg
      rw [hyx ho] at hy
      have nf : NoG fs0 := (g.nog _ _ _ _ _ _ _ hg).resolve_left ho
      obtain ⟨a, b, c⟩ := ih1 nf (g.set ho fun _ _ _ _ _ _ q => by cases q)
      rw [putBack_set ho] at b
      obtain ⟨a2, b2, c2⟩ := ih2 n (a.set ho c.gen)
      rw [putBack_set ho] at b2
      exact ⟨a2, .resumeSuspended hy b hq b2, c2⟩
  | resumeJustStarted hg hv _ ih =>
    intro n g
    have ho := g.out hg rfl
    obtain ⟨y, hy, _, hyx⟩ := g.look hg
    rw [hyx ho] at hy
    obtain ⟨a, b, c⟩ := ih n g
    exact ⟨a, .resumeJustStarted hy hv b, c⟩
  | resumeThrowFresh hg _ ih =>
    intro n g
    have ho := g.out hg rfl
    obtain ⟨y, hy, _, hyx⟩ := g.look hg
    rw [hyx ho] at hy
    obtain ⟨a, b, c⟩ := ih n (g.set ho fun _ _ _ _ _ _ q => by cases q)
    rw [putBack_set ho] at b
    exact ⟨a, .resumeThrowFresh hy b, c⟩
  | resumeRunning hg _ ih =>
    intro n g
    have ho := g.out hg rfl
    obtain ⟨y, hy, _, hyx⟩ := g.look hg
    rw [hyx ho] at hy
    obtain ⟨a, b, c⟩ := ih n g
    exact ⟨a, .resumeRunning hy b, c⟩
  | resumeFinished hg _ ih =>
    intro n g
    have ho := g.out hg rfl
    obtain ⟨y, hy, _, hyx⟩ := g.look hg
    rw [hyx ho] at hy
    obtain ⟨a, b, c⟩ := ih n g
    exact ⟨a, .resumeFinished hy b, c⟩
  | segRet _ _ ih1 ih2 =>
    intro n g
    obtain ⟨a, b, _⟩ := ih1 noG_nil g
    obtain ⟨a2, b2, c2⟩ := ih2 (noG_tail n) a
    exact ⟨a2, .segRet b b2, c2⟩
  | segGen _ _ _ _ => intro n _; exact (no_gen n).elim
  | segSuspOut hsp _ ih =>
    intro n g
    obtain ⟨a, b, c⟩ := ih noG_nil g
    refine ⟨a, .segSuspOut hsp b, fun v g l k c0 p0 fs0 q => ?_⟩
    injection q with _ _ _ _ _ _ q7
    rw [← q7]
    exact noG_app (c _ _ _ _ _ _ _ rfl) n
  | segSuspGen hsp _ _ _ _ _ =>
    intro n _
    unfold NoG at n
    rw [n] at hsp
    cases hsp

/-- what a tree wants beside the stuck state holds at the real one -/
abbrev Real {α : Type} (G0 : Array GenState) (Q : α → Pos → Shared → Prop) : α → Pos → Shared → Prop := fun a p s => ∃ s1, Good G0 s1 ∧ s = putBack G0 s1 ∧ Q a p s1
theorem wp_back {α : Type} {M : Model} {Γ : Ctx} (t : Sem α) : ∀ (Q : α → Pos → Shared → Prop) (E : Value → Pos → Shared → Prop) (p : Pos) (s : Shared), Good G0 s → wp M Γ t Q E p s →
    wp M Γ t (Real G0 Q) (Real G0 E) p (putBack G0 s) := by
  induction t with
  | pure a => intro Q E p s g h; exact ⟨s, g, rfl, h⟩
  | raise e => intro Q E p s g h; exact ⟨s, g, rfl, h⟩
  | unsupported _ => intro Q E p s _ h; exact h
  | finish _ => intro Q E p s _ h; exact h
  | rule _ k ih => intro Q E p s g h; exact ih () Q E p s g h
  | «at» p' k ih => intro Q E p s g h; exact ih () Q E p' s g h
  | load a _ k ih => intro Q E p s g h; obtain ⟨o, ho, h⟩ := h; exact ⟨o, ho, ih o Q E p s g h⟩
  | update a _ f k ih => intro Q E p s g h; exact ⟨h.1, ih () Q E p _ (g.of _ _ _ _) h.2⟩
  | loadIfAlive a k ih => intro Q E p s g h; exact ih _ Q E p s g h
  | point _ k ih => intro Q E p s g h; exact ih () Q E p s g h
  | register _ _ => intro Q E p s _ h; exact h
  | alloc o k ih => intro Q E p s g h; exact ih _ Q E p _ (g.of _ _ _ _) h
  | fresh k ih => intro Q E p s g h; exact ih _ Q E p _ (g.of _ _ _ _) h
  | ask k ih => intro Q E p s g h; exact ih _ Q E p s g h
  | choose src m k ih => intro Q E p s g h; exact ⟨h.1, ih _ Q E p _ (g.of _ _ _ _) h.2⟩
  | os q _ k ih => intro Q E p s g h; exact ih _ Q E p _ (g.of _ _ _ _) h
  | call c hd _ _ k ih =>
    intro Q E p s g h
    obtain ⟨r, s', hr, h⟩ := h
    obtain ⟨a, b, _⟩ := runs_back hr noG_nil g
    exact ⟨r, putBack G0 s', b, ih r Q E p s' a h⟩
  | handled own k ih => intro Q E p s g h; exact ih _ Q E p s g h
  | genState i k ih =>
    intro Q E p s g h
    obtain ⟨st, hs, h⟩ := h
    obtain ⟨y, hy, hs2, _⟩ := g.look hs
    refine ⟨y, hy, ?_⟩
    rw [hs2]
    exact ih _ Q E p s g h
  | newGen c k ih =>
    intro Q E p s g h
    have q := ih _ Q E p _ g.push h
    rw [putBack_push g.sz] at q
    show wp M Γ (k (putBack G0 s).gens.size) _ _ p _
    rw [putBack_size]
    exact q
  | resume i r _ k ih =>
    intro Q E p s g h
    obtain ⟨res, s', hw, h⟩ := h
    have q : Good G0 s' ∧ Wakes M Γ p i r (putBack G0 s) res (putBack G0 s') := by
      unfold Wakes at hw
      cases hg : s.gens[i]? with
      | none => rw [hg] at hw; exact hw.elim
      | some x =>
        rw [hg] at hw
        obtain ⟨y, hy, _, hyx⟩ := g.look hg
        cases x with
        | fresh c =>
          have ho := g.out hg rfl
          rw [hyx ho] at hy
          cases r with
          | send v =>
            cases v with
            | none =>
              obtain ⟨e1, s1, hr, hq, rfl, rfl⟩ := hw
              obtain ⟨a, b, c2⟩ := runs_back hr noG_nil (g.set ho fun _ _ _ _ _ _ q => by cases q)
              rw [putBack_set ho] at b
              refine ⟨a.set ho c2.gen, ?_⟩
              unfold Wakes
              rw [hy]
              exact ⟨e1, _, b, hq, rfl, putBack_set ho⟩
            | _ =>
              obtain ⟨rfl, rfl⟩ := hw
              refine ⟨g, ?_⟩
              unfold Wakes
              rw [hy]
              exact ⟨rfl, rfl⟩
          | throw x =>
            obtain ⟨rfl, rfl⟩ := hw
            refine ⟨g.set ho (fun _ _ _ _ _ _ q => by cases q), ?_⟩
            unfold Wakes
            rw [hy]
            exact ⟨rfl, putBack_set ho⟩
        | suspended k0 l0 c0 p0 fs0 cl =>
          obtain ⟨e1, s1, hr, hq, rfl, rfl⟩ := hw
          by_cases ho : InS G0 i
          · obtain ⟨z, ez, hz⟩ := ho
            have q := g.sl i z ez hz
            rw [hg] at q
            cases z with
            | suspended k1 l1 c1 p1 fs1 cl1 =>
              have q' := Option.some.inj q
              simp only [stuckOf] at q'
              injection q' with q1
              rw [q1] at hr
              exact (runs_stuck hr rfl).elim
            | fresh _ => cases hz
            | running => cases hz
            | finished => cases hz
          · rw [hyx ho] at hy
            have nf : NoG fs0 := (g.nog _ _ _ _ _ _ _ hg).resolve_left ho
            obtain ⟨a, b, c2⟩ := runs_back hr nf (g.set ho fun _ _ _ _ _ _ q => by cases q)
            rw [putBack_set ho] at b
            refine ⟨a.set ho c2.gen, ?_⟩
            unfold Wakes
            rw [hy]
            exact ⟨e1, _, b, hq, rfl, putBack_set ho⟩
        | running =>
          have ho := g.out hg rfl
          rw [hyx ho] at hy
          obtain ⟨rfl, rfl⟩ := hw
          refine ⟨g, ?_⟩
          unfold Wakes
          rw [hy]
          exact ⟨rfl, rfl⟩
        | finished =>
          have ho := g.out hg rfl
          rw [hyx ho] at hy
          obtain ⟨rfl, rfl⟩ := hw
          refine ⟨g, ?_⟩
          unfold Wakes
          rw [hy]
          exact ⟨rfl, rfl⟩
    exact ⟨res, putBack G0 s', q.2, ih res Q E p s' q.1 h⟩
  | «yield» _ _ _ _ => intro Q E p s _ h; exact h
  | stack k ih => intro Q E p s g h; exact ih _ Q E p s g h
  | fork _ _ => intro Q E p s _ h; exact h
  | thread k ih => intro Q E p s g h; exact ih _ Q E p s g h
  | await _ _ _ _ _ => intro Q E p s _ h; exact h
end

/-- the state beside -/
def beside (s : Shared) : Shared := { s with gens := s.gens.map stuckOf }
theorem good_beside (s : Shared) : Good s.gens (beside s) where
  sz := by
    show s.gens.size ≤ (s.gens.map stuckOf).size
    rw [Array.size_map]
    exact Nat.le_refl _
  sl := fun i y e hy => by
    show (s.gens.map stuckOf)[i]? = _
    rw [Array.getElem?_map, e]
    rfl
  nog := fun i k l c p fs cl e => by
    have e' : (s.gens.map stuckOf)[i]? = some (.suspended k l c p fs cl) := e
    rw [Array.getElem?_map] at e'
    cases q : s.gens[i]? with
    | none =>
      rw [q] at e'
      cases e'
    | some y =>
      rw [q] at e'
      refine .inl ⟨y, q, ?_⟩
      cases y with
      | suspended _ _ _ _ _ _ => rfl
      | fresh _ => simp [stuckOf] at e'
      | running => simp [stuckOf] at e'
      | finished => simp [stuckOf] at e'
theorem back_beside (s : Shared) : putBack s.gens (beside s) = s := by
  unfold putBack beside
  have e : back s.gens (s.gens.map stuckOf) = s.gens := by
    refine Array.ext_getElem? fun i => ?_
    rw [back_get, Array.getElem?_map]
    cases q : s.gens[i]? with
    | none => rfl
    | some y =>
      show some (backAt s.gens i (stuckOf y)) = some y
      unfold backAt
      rw [q]
      cases y <;> rfl
  rw [e]
/-- what was asleep sleeps on, as it was -/
def Sleepers (s s' : Shared) : Prop := ∀ (i : Nat) (y : GenState), s.gens[i]? = some y → asleep y = true → s'.gens[i]? = some y
/-- THE RULE: the code is proved at the state beside; at the state itself it ends alike, and the sleepers sleep on -/
theorem wpAny_sleepers {α : Type} {M : Model} {A : Around} {t : Sem α} {Q : α → Shared → Prop} {E : Value → Shared → Prop} {s : Shared} (h : wpAny M A t Q E (beside s)) :
    wpAny M A t (fun a s' => ∃ s1, Q a s1 ∧ (∃ G, s' = { s1 with gens := G }) ∧ Sleepers s s' ∧ (AllBare s.gens → AllBare s1.gens → AllBare s'.gens))
      (fun a s' => ∃ s1, E a s1 ∧ (∃ G, s' = { s1 with gens := G }) ∧ Sleepers s s' ∧ (AllBare s.gens → AllBare s1.gens → AllBare s'.gens)) s := by
  have fin : ∀ s1 : Shared, Good s.gens s1 → Sleepers s (putBack s.gens s1) ∧ (AllBare s.gens → AllBare s1.gens → AllBare (putBack s.gens s1).gens) := fun s1 g => by
    refine ⟨fun i y e hy => ?_, fun b1 b2 y hy => ?_⟩
    · show (back s.gens s1.gens)[i]? = _
      rw [back_get, g.sl i y e hy, Option.map_some, backAt_in e hy]
    · obtain ⟨i, hi, ey⟩ := Array.mem_iff_getElem.mp hy
      have q : (back s.gens s1.gens)[i]? = some y := by rw [← ey]; exact Array.getElem?_eq_getElem hi
      rw [back_get] at q
      cases q2 : s1.gens[i]? with
      | none => rw [q2] at q; cases q
      | some x =>
        rw [q2] at q
        have q' : backAt s.gens i x = y := Option.some.inj q
        by_cases n : InS s.gens i
        · obtain ⟨z, ez, hz⟩ := n
          rw [backAt_in ez hz] at q'
          rw [← q']
          exact b1 z (Array.mem_of_getElem? ez)
        · rw [backAt_out n] at q'
          rw [← q']
          exact b2 x (Array.mem_of_getElem? q2)
  intro Γ p hΓ
  have q := wp_back t _ _ p (beside s) (good_beside s) (h Γ p hΓ)
  rw [back_beside] at q
  refine Sem.wp_mono M Γ t (fun a p' s' h1 => ?_) (fun a p' s' h1 => ?_) p s q
  · obtain ⟨s1, g, e, hq⟩ := h1
    obtain ⟨f1, f2⟩ := fin s1 g
    exact ⟨s1, hq, ⟨_, e⟩, by rw [e]; exact f1, fun b1 b2 => by rw [e]; exact f2 b1 b2⟩
  · obtain ⟨s1, g, e, hq⟩ := h1
    obtain ⟨f1, f2⟩ := fin s1 g
    exact ⟨s1, hq, ⟨_, e⟩, by rw [e]; exact f1, fun b1 b2 => by rw [e]; exact f2 b1 b2⟩
theorem bare_beside {s : Shared} (h : AllBare s.gens) : AllBare (beside s).gens := fun y hy => by
  obtain ⟨x, hx, e⟩ := Array.mem_map.mp hy
  rw [← e, bare_stuck]
  exact h x hx
end K73
set_option maxHeartbeats 1000000
/-! A generator's body: if, for. -/
namespace K73
open PySem PySem.Spec PyProof.Rows GenW L2
section
variable {M : Model} {A : Around} {R : GenEnd} {Y : Protocol} {n : Nat} {s₀ : Shared} {c : Code} {fs : List Frame} {s : Shared} {env : Env} {K : Flow → Sem PySem.Fin} {J : Value → Sem PySem.Fin} {gd : Bool → Bool} {lv : List Value → List Value}
theorem sg_If {test : Expr} {body orelse : List Stmt} {pos : Pos}
    (h : wpAny M (A.over c fs) (isTrue test env (eval test env)) (fun b s' => Seg M A R Y n s₀ c ((if b = true then execs body env else execs orelse env).wrap K J gd lv) fs s') (fun x s' => Seg M A R Y n s₀ c (J x) fs s') s) :
    Seg M A R Y n s₀ c ((exec (.If test body orelse pos) env).wrap K J gd lv) fs s := by
  rw [exec_If]
  refine seg_bind_wrap (wpAny_standAt ?_)
  exact seg_bind_wrap h
/-- what a loop's end is for the code around it -/
def loopBack (env : Env) (K : Flow → Sem PySem.Fin) (J : Value → Sem PySem.Fin) (gd : Bool → Bool) (lv : List Value → List Value) (r : Result) : Sem PySem.Fin :=
  ((match r with | .ok f => (.pure f : Sem Flow) | .error e => .raise e).onRaise (cameBack env)).wrap K J gd lv
theorem sg_For {tg iter : Expr} {body : List Stmt} {pos : Pos}
    (h : wpAny M (A.over c fs) (eval iter env) (fun x s1 => wpAny M (A.over c fs) (pyIter x) (fun it s2 =>
        ∀ p, Seg M A R Y n s₀ (.forLoop tg it body [] env) (M.den (.forLoop tg it body [] env)) (.ret (loopBack env K J gd lv) none (gd false) (lv []) c p [] :: fs) s2) (fun x s' => Seg M A R Y n s₀ c (J x) fs s') s1)
      (fun x s' => Seg M A R Y n s₀ c (J x) fs s') s)
    (hs : ∀ x, foldedSetIterable iter env x = pure x := by intro _; rfl) :
    Seg M A R Y n s₀ c ((exec (.For tg iter body [] pos) env).wrap K J gd lv) fs s := by
  rw [exec_For]
  refine seg_bind_wrap (wpAny_standAt ?_)
  refine seg_bind_wrap (wpAny_mono h (fun x s1 h1 => ?_) fun _ _ q => q)
  refine seg_bind_wrap (wpAny_of_eq (hs x) ?_)
  refine seg_bind_wrap (wpAny_standAt ?_)
  refine seg_bind_wrap (wpAny_holding (wpAny_mono h1 (fun it s2 h2 => ?_) fun _ _ q => q))
  exact seg_call h2
end
section
variable {prog : Program} {w : World} {A : Around} {R : GenEnd} {Y : Protocol} {n : Nat} {s₀ : Shared} {fs : List Frame} {s : Shared} {env : Env}
/-- an exception leaves a loop's code -/
abbrev noteOut (env : Env) (x : Value) : Sem PySem.Fin := (do noteFrame x env; theTreesLotGoes x : Sem Unit).wrap (fun _ => .raise x) .raise id id
theorem sg_loop {tg : Expr} {it : Value} {body : List Stmt}
    (h : wpAny (model prog w) (A.over (.forLoop tg it body [] env) fs) (pyNext it) (fun r s1 => match r with
        | none => Seg (model prog w) A R Y n s₀ (.block [] env) ((model prog w).den (.block [] env)) fs s1
        | some v => wpAny (model prog w) (A.over (.forLoop tg it body [] env) fs) (letOwnedTupleGo tg it v) (fun _ s2 => wpAny (model prog w) (A.over (.forLoop tg it body [] env) fs) (assign tg env v) (fun _ s3 =>
            Seg (model prog w) A R Y n s₀ (.forLoop tg it body [] env) ((execs body env).wrap (fun f => match f with
              | .next | .cont => .pure (.again (.forLoop tg it body [] env))
              | .brk => .pure (.done .next)
              | .ret v => .pure (.done (.ret v))) (noteOut env) id id) fs s3)
            (fun x s' => Seg (model prog w) A R Y n s₀ (.forLoop tg it body [] env) (noteOut env x) fs s') s2)
          (fun x s' => Seg (model prog w) A R Y n s₀ (.forLoop tg it body [] env) (noteOut env x) fs s') s1)
      (fun x s' => Seg (model prog w) A R Y n s₀ (.forLoop tg it body [] env) (noteOut env x) fs s') s) :
    Seg (model prog w) A R Y n s₀ (.forLoop tg it body [] env) ((model prog w).den (.forLoop tg it body [] env)) fs s := by
  show Seg _ A R Y n s₀ _ ((forTurn tg it body [] env).onRaise (fun x => do noteFrame x env; theTreesLotGoes x)) fs s
  rw [Sem.onRaise_eq_wrap]
  unfold forTurn
  have eN : ∀ x : Value, ((do noteFrame x env; theTreesLotGoes x : Sem Unit).bind fun _ => (Sem.raise x : Sem PySem.Fin)) = noteOut env x := fun x => Sem.bind_eq_wrap _ _
  simp only [eN]
  refine seg_bind_wrap (wpAny_standAt ?_)
  refine seg_bind_wrap (wpAny_onRaise (wpAny_mono h (fun r s1 h1 => ?_) fun x s' hx => wpAny_standAt hx))
  cases r with
  | none => exact seg_again rfl h1
  | some v =>
    refine seg_bind_wrap (wpAny_mono h1 (fun _ s2 h2 => ?_) fun _ _ q => q)
    refine seg_bind_wrap (wpAny_mono h2 (fun _ s3 h3 => ?_) fun _ _ q => q)
    rw [Sem.bind_eq_wrap', Sem.wrap_wrap]
    refine Eq.mp (congrArg (fun t => Seg (model prog w) A R Y n s₀ (.forLoop tg it body [] env) t fs s3) ?_) h3
    exact Sem.wrap_congr (execs body env) id id (fun f => by cases f <;> rfl) (fun e => rfl)
theorem sg_block (h : Seg (model prog w) A R Y n s₀ (.block [] env) (.pure (.done .next)) fs s) : Seg (model prog w) A R Y n s₀ (.block [] env) ((model prog w).den (.block [] env)) fs s := h
end
section
variable {X : Cx}
/-! if -/
def tGIf (tc : TT) (ta tb : TGn) : TGn := fun D ys σ H => tc σ H fun b H1 => if b = true then ta D ys σ H1 else tb D ys σ H1
theorem gs_if {test : Expr} {body orelse : List Stmt} {pos : Pos} {tc : TT} {ta tb : TGn} (hc : PT X test tc) (ha : GSs X body ta) (hb : GSs X orelse tb) : GS X (.If test body orelse pos) (tGIf tc ta tb) := by
  refine ⟨fun A S ip R n ys s₀ c fs K J gd lv s σ H D g hn k hI ht => ?_⟩
  obtain ⟨acc, cc, r, I⟩ := hI
  refine sg_If ?_
  rw [g.over]
  refine wpAny_mono (hc.run _ s σ H _ I ht) (fun b s' hb' => ?_) fun x s' hx => k.exc n s₀ x s' hx
  obtain ⟨H2, I2, q2⟩ := hb'
  cases b with
  | true =>
    rw [if_pos rfl] at q2 ⊢
    exact ha.run A S ip R n ys s₀ c fs K J gd lv s' σ H2 D g hn k ⟨acc, cc, r, I2⟩ q2
  | false =>
    rw [if_neg Bool.false_ne_true] at q2 ⊢
    exact hb.run A S ip R n ys s₀ c fs K J gd lv s' σ H2 D g hn k ⟨acc, cc, r, I2⟩ q2
/-! for -/
def tGFor (wi : TI) (g : TG) (tb : TGn) : TGn := fun D ys σ H => wi σ H fun J H1 => ∃ W : Nat → Nat → List V → L2.St → Hp → Prop, (∃ m, W 0 m ys σ H1) ∧ ∀ i m ys σ H, W i m ys σ H →
  (J.stop i H ∧ D.nx ys σ H) ∨ (J.go i H ∧ ∃ N : List V → L2.St → Hp → Prop, (∀ ys' σ' H', N ys' σ' H' → ∃ m', m' < m ∧ W (i + 1) m' ys' σ' H') ∧ ∀ x H', J.yld i H x H' → g x σ H' fun σ2 H2 => tb { D with nx := N, ct := N, bk := D.nx } ys σ2 H2)
theorem gs_for {tg iter : Expr} {body : List Stmt} {wi : TI} {g : TG} {tb : TGn} {pos : Pos} (hp : PassesOwn (model X.prog X.w) X.A X.env X.xe) (hc : X.calm = true) (hi : PI X tg iter wi) (hg : PG X tg g) (hb : GSs X body tb)
    (hs : ∀ x, foldedSetIterable iter X.env x = pure x := by intro _; rfl) : GS X (.For tg iter body [] pos) (tGFor wi g tb) := by
  refine ⟨fun A S ip R n ys s₀ c fs K J gd lv s σ H D gc hn k hI ht => ?_⟩
  obtain ⟨acc, cc, r, I⟩ := hI
  refine sg_For ?_ hs
  rw [gc.over]
  refine wpAny_mono (hi.run _ s σ H _ I ht) (fun v s1 h1 => wpAny_mono h1 (fun itv s2 h2 p => ?_) fun x s' hx => k.exc n s₀ x s' hx) fun x s' hx => k.exc n s₀ x s' hx
  obtain ⟨it, fp, tn, J', H2, rfl, I2, T, st2, f2, W, ⟨m0, w0⟩, turn⟩ := h2
  have gl := gc_loop (k := loopBack X.env K J gd lv) (c' := .forLoop tg (.ref it) body [] X.env) (l := lv []) (kp := []) (p := p) gc rfl rfl
  have fpok : ∀ {acc' : Array Value} {c' : Nat} {H' : Hp}, (∀ b ∈ fp, H' b = none) → ∀ b ∈ fp, FpOk X ((S, lstObj acc' c') :: ip) H' b := fun hn b hb => by
    obtain ⟨_, g1, g2, g3, g4, g5⟩ := f2 b hb
    refine ⟨hn b hb, g1, g2, g3, g4, fun q hq => ?_⟩
    rcases List.mem_append.mp hq with z | z
    · exact g5 q (List.mem_append_left _ z)
    · rcases List.mem_cons.mp z with z | z
      · rw [z]
        exact g5 (S, lstObj acc cc) (List.mem_append_right _ (.head _))
      · exact g5 q (List.mem_append_right _ (.tail _ z))
  have ee : ∀ (n : Nat) (s₀ : Shared) (x : Value) (s' : Shared), X.xe x s' → Seg (model X.prog X.w) A R (GY X S) n s₀ (.forLoop tg (.ref it) body [] X.env) (noteOut X.env x) (.ret (loopBack X.env K J gd lv) none (gd false) (lv []) c p [] :: fs) s' := fun n s₀ x s' hx => by
    refine seg_wrap ?_
    rw [gl.over]
    refine wpAny_bind (wpAny_mono (hp x s' hx) (fun _ s'' hcb => wpAny_theTreesLotGoes ?_) fun y s'' hcb => ?_)
    · exact seg_leaf (.error x) (seg_cameBack gc k hcb)
    · exact seg_leaf (.error y) (seg_cameBack gc k hcb)
  have loop : ∀ (m i n : Nat) (ys : List V) (s₀ s : Shared) (σ : L2.St) (H : Hp), n + ys.length = sizeLine → W i m ys σ H → GI X S ip ys σ H s → tn i s.heap → (∀ b ∈ fp, H b = none) →
      Seg (model X.prog X.w) A R (GY X S) n s₀ (.forLoop tg (.ref it) body [] X.env) ((model X.prog X.w).den (.forLoop tg (.ref it) body [] X.env)) (.ret (loopBack X.env K J gd lv) none (gd false) (lv []) c p [] :: fs) s := by
    intro m
    induction m using Nat.strongRecOn with
    | ind m ih =>
      intro i n ys s₀ s σ H hn w hI st fr
      obtain ⟨acc, cc, r, I⟩ := hI
      refine sg_loop ?_
      rw [gl.over]
      rcases turn i m ys σ H w with ⟨stop, qn⟩ | ⟨go, N, hN, step⟩
      · refine wpAny_mono (T.done X rfl rfl rfl hc i _ s σ H X.xe I (fpok fr) st stop) (fun r' s4 ⟨hr, I4⟩ => ?_) fun x s' hx => ee n s₀ x s' hx
        subst hr
        refine sg_block ?_
        exact seg_leaf (.ok .next) (k.ok n ys s₀ s4 .next hn ⟨σ, H, ⟨acc, cc, r, I4⟩, qn⟩)
      · refine wpAny_mono (T.item X rfl rfl rfl hc i _ s σ H X.xe I (fpok fr) st go) (fun r' s4 ⟨u, hr, h4⟩ => ?_) fun x s' hx => ee n s₀ x s' hx
        subst hr
        refine wpAny_mono h4 (fun _ s5 ⟨x, H5, I5, r5, y5, st5, fr5⟩ => ?_) fun x s' hx => ee n s₀ x s' hx
        have I5' := I5.pinned (fpok fr5) (T.obj _ _ st5)
        refine wpAny_mono (hg.run _ s5 σ H5 x u _ I5' r5 (step x H5 y5)) (fun _ s6 ⟨σ6, H6, I6, q6⟩ => ?_) fun x s' hx => ee n s₀ x s' hx
        have gl2 : GC X S (ip ++ pinsAt fp s5.heap) A (.forLoop tg (.ref it) body [] X.env) (.ret (loopBack X.env K J gd lv) none (gd false) (lv []) c p [] :: fs) id := ⟨gl.pn, fun q hq => by
          rcases List.mem_append.mp hq with z | z
          · exact gl.ip q z
          · exact fun e => (f2 _ (of_pinsAt z).1).2.2.2.2.2 (S, lstObj _ _) (List.mem_append_right _ (.head _)) e.symm, gl.apart, gl.over, gl.split, gl.guard, gl.gd⟩
        refine hb.run A S (ip ++ pinsAt fp s5.heap) R n ys s₀ _ _ _ _ id id s6 σ6 H6 { D with nx := N, ct := N, bk := D.nx } gl2 hn ⟨fun n' ys' s₀' s3 f hn' hs => ?_, fun n' s₀' x s3 hx => ee n' s₀' x s3 hx⟩ ⟨acc, cc, r, I6⟩ q6
        have again : ∀ {σ7 : L2.St} {H7 : Hp}, GI X S (ip ++ pinsAt fp s5.heap) ys' σ7 H7 s3 → N ys' σ7 H7 → Seg (model X.prog X.w) A R (GY X S) n' s₀' (.forLoop tg (.ref it) body [] X.env) (.pure (.again (.forLoop tg (.ref it) body [] X.env))) (.ret (loopBack X.env K J gd lv) none (gd false) (lv []) c p [] :: fs) s3 := fun {σ7 H7} hI7 n7 => by
          obtain ⟨m', hm, w7⟩ := hN ys' σ7 H7 n7
          obtain ⟨acc7, cc7, r7, I7⟩ := hI7
          refine seg_again rfl (ih m' hm (i + 1) n' ys' s₀' s3 σ7 H7 hn' w7 ⟨acc7, cc7, r7, Inv.unpinned (pl := pinsAt fp s5.heap) I7⟩ (T.keep _ _ _ st5 fun b hb o e => (I7.pin (b, o) (List.mem_append_right _ (.tail _ (List.mem_append_right _ (mem_pinsAt hb e))))).1) fun b hb => ?_)
          obtain ⟨o, e, d⟩ := T.obj _ _ st5 b hb
          exact (I7.pin (b, o) (List.mem_append_right _ (.tail _ (List.mem_append_right _ (mem_pinsAt hb e))))).2.1
        have un : ∀ {σ7 : L2.St} {H7 : Hp}, GI X S (ip ++ pinsAt fp s5.heap) ys' σ7 H7 s3 → GI X S ip ys' σ7 H7 s3 := fun {σ7 H7} ⟨acc7, cc7, r7, I7⟩ => ⟨acc7, cc7, r7, Inv.unpinned (pl := pinsAt fp s5.heap) I7⟩
        cases f with
        | next =>
          obtain ⟨σ3, H3, I3, n3⟩ := hs
          exact again I3 n3
        | cont =>
          obtain ⟨σ3, H3, I3, n3⟩ := hs
          exact again I3 n3
        | brk =>
          obtain ⟨σ3, H3, I3, n3⟩ := hs
          exact seg_leaf (.ok .next) (k.ok n' ys' s₀' s3 .next hn' ⟨σ3, H3, un I3, n3⟩)
        | ret v =>
          obtain ⟨v3, σ3, H3, I3, rv3, n3⟩ := hs
          exact seg_leaf (.ok (.ret v)) (k.ok n' ys' s₀' s3 (.ret v) hn' ⟨v3, σ3, H3, un I3, rv3, n3⟩)
  exact loop m0 0 n ys s₀ s2 σ H2 hn w0 ⟨acc, cc, r, I2⟩ st2 fun b hb => (f2 b hb).1
end
end K73
set_option maxHeartbeats 4000000
/-! sorted(d, key=f): d a dict of rules, f a def that gives the rules' keys. -/
namespace K73
open PySem PySem.Spec PyProof.Rows L2 PySem.W
/-- a key as data -/
def kD (k : K3) : PyData := .tuple [.str k.a, .str k.b, .int k.c]
theorem kD_alike (k k' : K3) : alike (kD k) (kD k') = true := by simp [kD, alike, alikeAll]
theorem kD_all (ks : List K3) : AllAlike (ks.map kD) := fun d hd d' hd' => by
  obtain ⟨k, _, rfl⟩ := List.mem_map.mp hd
  obtain ⟨k', _, rfl⟩ := List.mem_map.mp hd'
  exact kD_alike k k'
theorem kD_sortable (ks : List K3) : Sortable (ks.map kD) := .inl fun d hd => by
  obtain ⟨k, _, rfl⟩ := List.mem_map.mp hd
  exact ⟨_, _, rfl⟩
theorem kD_depth (k : K3) : (kD k).depth ≤ 1 := by simp [kD, PyData.depth, PyData.depthAll]
/-- the heap without the object at b -/
def lack1 (h : Heap) (b : Addr) : Heap := { h with objs := h.objs.setIfInBounds b { cls := .none, data := .freed } }
theorem lack1_self (h : Heap) (b : Addr) : (lack1 h b).get? b = none := by
  unfold lack1 Heap.get?
  dsimp only
  rw [Array.getElem?_setIfInBounds, if_pos rfl]
  by_cases e : b < h.objs.size
  · rw [if_pos e]
  · rw [if_neg e]
theorem lack1_ne (h : Heap) {b c : Addr} (ne : c ≠ b) : (lack1 h b).get? c = h.get? c := by
  unfold lack1 Heap.get?
  dsimp only
  rw [Array.getElem?_setIfInBounds, if_neg (fun e => ne e.symm)]
/-- a key lies at kt -/
def KeyAt (H : Hp) (kt : Addr) (k : K3) : Prop := H kt = some (.tup [.str k.a, .str k.b, .int k.c])
theorem KeyAt.same {H H' : Hp} {kt : Addr} {k : K3} (h : KeyAt H kt k) (e : Same H H') : KeyAt H' kt k := e _ _ h
section
variable {X : Cx} {pins : List (Addr × Obj)} {σ : L2.St} {H : Hp} {s : Shared}
theorem KeyAt.reads (I : Inv X pins σ H s) {kt : Addr} {k : K3} (h : KeyAt H kt k) : ∃ as, Reads s.heap (.ref kt) (kD k) as := by
  obtain ⟨_, its, r, o, g1, g2, n, g3⟩ := I.hok _ _ h
  cases r with
  | cons ra r =>
    cases r with
    | cons rb r =>
      cases r with
      | cons rc r =>
        cases r
        obtain ⟨t1, rfl⟩ := (show ∃ t, _ = Value.str k.a t from ra)
        obtain ⟨t2, rfl⟩ := (show ∃ t, _ = Value.str k.b t from rb)
        obtain ⟨t3, rfl⟩ := (show ∃ t, _ = Value.int k.c t from rc)
        exact ⟨_, Reads.tuple g1 g2 g3 (ReadsAll.cons (Reads.str _ _) (ReadsAll.cons (Reads.str _ _) (ReadsAll.cons (Reads.int _ _) ReadsAll.nil)))⟩
/-- what f promises of a rule -/
def spKeyOf (K : PySem.W.Frag) : Sp := fun vs H Q _ => ∃ (p : Addr) (r : Rul), vs = [.ref p] ∧ RuleAt H p r ∧ ∀ (H' : Hp) (t : Addr), Same H H' → H t = none → KeyAt H' t (k3 r) → Q (.ref t) H'
/-- f at one item -/
theorem key_turn {j : Nat} {f : Addr} {fd : FuncData} {A : Around} (F : FnOk X.prog X.w X.K X.mg X.base CX0 j f fd ["rule"] (spKeyOf X.K)) (hb : Binds X.K fd ["rule"] []) (hr : Room j A) (hf : A.frames = X.A.frames) (I : Inv X pins σ H s) {p : Addr} {r : Rul} (hp : RuleAt H p r) {E : Value → Shared → Prop} :
    wpAny (model X.prog X.w) A (call (.ref f) [.ref p]) (EP X pins σ fun v H' => ∃ kt, v = .ref kt ∧ Same H H' ∧ KeyAt H' kt (k3 r)) E s := by
  have e0 : Env0 X.prog X.w X.K X.mg X.base A X.stack s H := by
    have q := I.env0
    exact ⟨hf.trans q.frames, q.mod, q.bs, q.bsz, q.funs, q.frf, q.hok, q.bare⟩
  refine wpAny_call (codeAny_mono (F.run A X.stack s H ⟨[.ref p], []⟩ [.ref p] [.ref p] (fun v H' => ∃ kt, v = .ref kt ∧ Same H H' ∧ KeyAt H' kt (k3 r)) E0 hr e0 (hb s [.ref p] I.kIn rfl) (.cons rfl .nil) ⟨p, r, rfl, hp, fun H' t e _ k => ⟨t, rfl, e, k⟩⟩) fun q s' hq => ?_)
  cases q with
  | error e => exact False.elim hq
  | ok fl =>
    cases fl with
    | ret u => exact I.after hq
    | next => exact False.elim hq
    | brk => exact False.elim hq
    | cont => exact False.elim hq
end

section
variable {X : Cx}
theorem each_snoc' {α β : Type} {R : α → β → Prop} : ∀ {xs : List α} {ys : List β} {x : α} {y : β}, EachIs R xs ys → R x y → EachIs R (xs ++ [x]) (ys ++ [y])
  | _, _, _, _, .nil, h => .cons h .nil
  | _, _, _, _, .cons a t, h => .cons a (each_snoc' t h)
theorem each_mem {α β : Type} {R : α → β → Prop} : ∀ {xs : List α} {ys : List β}, EachIs R xs ys → ∀ x ∈ xs, ∃ y ∈ ys, R x y
  | _, _, .nil, _, h => by cases h
  | _, _, .cons a t, x, h => by
    cases h with
    | head => exact ⟨_, .head _, a⟩
    | tail _ h =>
      obtain ⟨y, h1, h2⟩ := each_mem t x h
      exact ⟨y, .tail _ h1, h2⟩
theorem each_refs {L : List (Addr × Rul)} : EachIs (fun (v : Value) (q : Addr × Rul) => v = .ref q.1) (L.map fun q => Value.ref q.1) L := by
  induction L with
  | nil => exact .nil
  | cons q r ih => exact .cons rfl ih
theorem each_refs_eq : ∀ {vs : List Value} {L : List (Addr × Rul)}, EachIs (fun (v : Value) (q : Addr × Rul) => v = .ref q.1) vs L → vs = L.map fun q => Value.ref q.1
  | _, _, .nil => rfl
  | _, _, .cons a t => by rw [a, each_refs_eq t]; rfl
theorem vals_refs2 : ∀ L : List (Addr × Rul), Vals (refs L) (L.map fun q => Value.ref q.1)
  | [] => .nil
  | _ :: r => .cons rfl (vals_refs2 r)
/-- while the keys are made: b holds them, p (the list that is sorted) is empty -/
def Amid (X : Cx) (pins : List (Addr × Obj)) (σ : L2.St) (H : Hp) (p b : Addr) (e1 : Nat) (ks : List K3) (s : Shared) : Prop :=
  ∃ (H' : Hp) (kA : Array Value) (e : Nat), Inv X ((b, seqObj "list" kA e) :: (p, seqObj "list" #[] e1) :: pins) σ H' s ∧ Same H H' ∧ EachIs (fun v k => ∃ kt, v = .ref kt ∧ KeyAt H' kt k) kA.toList ks
theorem sort_rest {j : Nat} {f : Addr} {fd : FuncData} {A : Around} {pins : List (Addr × Obj)} {σ : L2.St} {H : Hp} {s : Shared} {R : PySem.Fin → Shared → Prop} {E : Value → Shared → Prop} {L : List (Addr × Rul)} {p b e1 : Nat} (F : FnOk X.prog X.w X.K X.mg X.base CX0 j f fd ["rule"] (spKeyOf X.K)) (hb : Binds X.K fd ["rule"] [])
    (hr : Room j A) (hf : A.frames = X.A.frames) (I : Inv X ((b, seqObj "list" #[] 0) :: (p, seqObj "list" #[] e1) :: pins) σ H s) (hR : Rules H L) (few : L.length ≤ 900) (fp : FpOk X pins H p) (fb : FpOk X ((p, seqObj "list" #[] e1) :: pins) H b)
    (h : ∀ (s' : Shared) (H' : Hp) (Us : List (Addr × Rul)), Us.Perm L → Same H H' → Inv X pins σ (upd H' p (.lst (refs Us))) s' → R (.done (.ret .none)) s') :
    wpAny (model X.prog X.w) A (ksk_rest p (.ref f) false (L.map fun q => Value.ref q.1).toArray e1 (.ref b)) R E s := by
  have big : (1000000 : Nat) < sizeLine := by decide
  have hvl : (L.map fun q => Value.ref q.1).length = L.length := List.length_map _
  have npb : p ≠ b := fb.2.2.2.2.2 (p, seqObj "list" #[] e1) (List.mem_append_right _ (.head _))
  unfold ksk_rest
  refine wpAny_bind (wpAny_rule ?_)
  first
    | rw [List.forIn_toArray]
    | (rw [← Array.forIn_toList]; simp only [List.toList_toArray])
    | rw [← Array.forIn_toList]
  refine wpAny_bind (ksk_fold (fun i s' => Amid X pins σ H p b e1 ((L.take i).map fun q => k3 q.2) s') (L.map fun q => Value.ref q.1) 0 s ⟨H, #[], 0, I, Same.refl _, .nil⟩ ?_ ?_)
  · rintro i x s' hx ⟨H', kA, e, I', sm, hk⟩
    simp only [Nat.zero_add] at hk ⊢
    obtain ⟨q, hq, rfl⟩ : ∃ q, L[i]? = some q ∧ x = .ref q.1 := by
      rw [List.getElem?_map] at hx
      cases e : L[i]? with
      | none => rw [e] at hx; cases hx
      | some q => rw [e] at hx; exact ⟨q, rfl, (Option.some.inj hx).symm⟩
    have hm : q ∈ L := List.mem_of_getElem? hq
    have hkl : kA.size ≤ 900 := by
      have h1 := hk.length
      rw [Array.length_toList, List.length_map] at h1
      have h2 := List.length_take_le' i L
      omega
    refine wpAny_bind (wpAny_attempt (wpAny_mono (key_turn (E := fun _ _ => False) F hb hr hf I' ((hR q hm).same sm)) (fun v s'' he => ?_) fun _ _ hF => hF.elim))
    obtain ⟨v', H'', I'', rv, kt, rfl, sm', hkt⟩ := he
    obtain rfl : v = Value.ref kt := rv
    try dsimp only
    have nk : s''.heap.get? b = some (seqObj "list" kA e) := (I''.pin (b, seqObj "list" kA e) (List.mem_append_right _ (.head _))).1
    have nk0 : H'' b = none := (I''.pin (b, seqObj "list" kA e) (List.mem_append_right _ (.head _))).2.1
    refine wpAny_bind (listUpdate_at nk rfl ?_ (by omega) (by rw [Array.size_push]; omega))
    have s1 := Heap.SameBut.update s''.heap b (Obj.mapSeq (·.push (Value.ref kt)))
    obtain ⟨c2, hc2⟩ : ∃ c2, (s''.heap.update b (Obj.mapSeq (·.push (Value.ref kt)))).get? b = some (seqObj "list" (kA.push (Value.ref kt)) c2) := ⟨_, get?_update_seq nk (·.push (Value.ref kt))⟩
    have I3 : Inv X ((p, seqObj "list" #[] e1) :: pins) σ H'' s'' := I''.pins_of fun r hr' => I''.pin r (List.mem_append_right _ (.tail _ hr'))
    have I4 : Inv X ((p, seqObj "list" #[] e1) :: pins) σ H'' { s'' with heap := s''.heap.update b (Obj.mapSeq (·.push (Value.ref kt))) } :=
      I3.turned (it := b) (t' := s''.toks) (fun c o hc eo => (s1.2 c hc).trans eo) nk0 fb.2.1 fb.2.2.2.1 fb.2.2.2.2.1 fb.2.2.2.2.2
    have I5 : Inv X ((b, seqObj "list" (kA.push (Value.ref kt)) c2) :: (p, seqObj "list" #[] e1) :: pins) σ H'' { s'' with heap := s''.heap.update b (Obj.mapSeq (·.push (Value.ref kt))) } := I4.pins_of fun r hr' => by
      rcases List.mem_cons.mp hr' with z | z
      · rw [z]
        exact ⟨hc2, nk0, fb.2.1, fb.2.2.1, fun v z => nomatch z⟩
      · exact I4.pin r (List.mem_append_right _ z)
    refine wpAny_pure ⟨rfl, H'', kA.push (Value.ref kt), c2, I5, sm.trans sm', ?_⟩
    rw [Array.toList_push, take_snoc hq, List.map_append]
    exact each_snoc' (hk.mono fun v k ⟨t, e1, e2⟩ => ⟨t, e1, e2.same sm'⟩) ⟨kt, rfl, hkt⟩
  · rintro s' ⟨H', kA, e, I', sm, hk⟩
    rw [hvl, Nat.zero_add, List.take_length] at hk
    have nk : s'.heap.get? b = some (seqObj "list" kA e) := (I'.pin (b, seqObj "list" kA e) (List.mem_append_right _ (.head _))).1
    have nb0 : H' b = none := (I'.pin (b, seqObj "list" kA e) (List.mem_append_right _ (.head _))).2.1
    have na : s'.heap.get? p = some (seqObj "list" #[] e1) := (I'.pin (p, seqObj "list" #[] e1) (List.mem_append_right _ (.tail _ (.head _)))).1
    have na0 : H' p = none := (I'.pin (p, seqObj "list" #[] e1) (List.mem_append_right _ (.tail _ (.head _)))).2.1
    have I2 : Inv X pins σ H' s' := I'.pins_of fun r hr' => I'.pin r (List.mem_append_right _ (.tail _ (.tail _ hr')))
    have eds : (L.map fun q => k3 q.2).map kD = L.map fun q => kD (k3 q.2) := by
      rw [List.map_map]
      rfl
    have hal : AllAlike (L.map fun q => kD (k3 q.2)) := eds ▸ kD_all _
    have hso : Sortable (L.map fun q => kD (k3 q.2)) := eds ▸ kD_sortable _
    have hk' : EachIs (fun v d => ∃ as, Reads s'.heap v d as) kA.toList (L.map fun q => kD (k3 q.2)) := by
      rw [← eds]
      have : ∀ {vs : List Value} {ks : List K3}, EachIs (fun v k => ∃ kt, v = .ref kt ∧ KeyAt H' kt k) vs ks → EachIs (fun v d => ∃ as, Reads s'.heap v d as) vs (ks.map kD) := fun {vs ks} q => by
        induction q with
        | nil => exact .nil
        | cons a _ ih =>
          obtain ⟨t, rfl, e2⟩ := a
          exact .cons (e2.reads I2) ih
      exact this hk
    have hsz : kA.size = (L.map fun q => Value.ref q.1).length := by
      have h1 := hk.length
      rw [Array.length_toList, List.length_map] at h1
      rw [hvl]
      exact h1
    try dsimp only
    refine wpAny_bind (listItems_at nk rfl ?_)
    refine keyH_end (κ := dataKind s'.heap (L.map fun q => kD (k3 q.2))) (h₁ := lack1 s'.heap b) (fun c o hc eo => ?_) (lack1_self _ _) nk na npb.symm (SortsAt.data hk' hal hso fun d hd => ?_) hsz (by rw [hvl]; omega) fun h' tk cc kp hpo => ?_
    · by_cases e : c = b
      · rw [e, lack1_self] at eo
        cases eo
      · rw [lack1_ne _ e] at eo
        exact eo
    · obtain ⟨q, _, rfl⟩ := List.mem_map.mp hd
      have := kD_depth (k3 q.2)
      have := hr.units
      omega
    · have hout := sortVals_each (κ := dataKind s'.heap (L.map fun q => kD (k3 q.2))) (rev := false) (vs := L.map fun q => Value.ref q.1) (ks := kA.toList) (bs := L) (fun q => keyToks (kD (k3 q.2))) each_refs (each_of_map (fun q : Addr × Rul => kD (k3 q.2)) (each_keys hal hk'))
      generalize hUs : L.mergeSort _ = Us at hout
      have pm : Us.Perm L := hUs ▸ List.mergeSort_perm _ _
      rw [each_refs_eq hout] at hpo
      have kq : ∀ c o, c ≠ b → c ≠ p → s'.heap.get? c = some o → h'.get? c = some o := fun c o h1 h2 eo => kp c o h2 (by rw [lack1_ne _ h1]; exact eo)
      have hne : ∀ {c : Addr} {u : HO}, H' c = some u → c ≠ b ∧ c ≠ p := fun {c u} e => ⟨ne_of_none e nb0, ne_of_none e na0⟩
      have out : ∀ {c : Addr}, c ∉ [b, p] → c ≠ b ∧ c ≠ p := fun {c} hc => ⟨fun z => hc (by simp [z]), fun z => hc (by simp [z])⟩
      refine h _ H' Us pm sm (I2.call' (ch := [b, p]) rfl ⟨fun c o eo _ _ hc => kq c o (out hc).1 (out hc).2 eo, fun c o eo _ _ hc => ⟨o.slots, kq c o (out hc).1 (out hc).2 eo⟩, fun c o _ n hc => ?_, fun c o eo hc => ⟨o, kq c o (out hc).1 (out hc).2 eo⟩, fun c xs e => ?_, fun c o u e => ?_, fun c ps e => ⟨#[], ?_⟩⟩ (fun c u e => ?_) I2.bare fun c hc => ?_)
      · rw [upd_ne (out hc).2]
        exact n
      · rw [upd_ne (hne e).2]
        exact e
      · rw [upd_ne (hne e).2]
        exact e
      · rw [upd_ne (hne e).2, e]
        simp
      · by_cases hc : c = p
        · subst hc
          rw [upd_same] at e
          cases e
          refine ⟨?_, Us.map fun q => Value.ref q.1, cc, vals_refs2 Us, hpo⟩
          show (refs Us).length ≤ _
          unfold refs
          rw [List.length_map, pm.length_eq]
          omega
        · rw [upd_ne hc] at e
          refine (I2.hok c u e).stay (fun d v hd eo => ?_) (fun d e2 => ?_) fun d xs e2 => ?_
          · have hd2 : d ≠ b ∧ d ≠ p := hd.elim (fun z => by rw [z]; exact hne e) fun z => hne z
            exact kq d v hd2.1 hd2.2 eo
          · rw [upd_ne (hne e2).2]
            exact e2
          · rw [upd_ne (hne e2).2]
            exact e2
      · rcases List.mem_cons.mp hc with z | z
        · rw [z]
          exact ⟨fb.2.2.2.1, fb.2.1, fb.2.2.2.2.1, fun r hr' => fb.2.2.2.2.2 r (by
            rcases List.mem_append.mp hr' with y | y
            · exact List.mem_append_left _ y
            · exact List.mem_append_right _ (.tail _ y))⟩
        · rw [List.mem_singleton.mp z]
          exact ⟨fp.2.2.2.1, fp.2.1, fp.2.2.2.2.1, fp.2.2.2.2.2⟩
theorem sort_tree {j : Nat} {f : Addr} {fd : FuncData} {A : Around} {pins : List (Addr × Obj)} {σ : L2.St} {H : Hp} {s : Shared} {R : PySem.Fin → Shared → Prop} {E : Value → Shared → Prop} {L : List (Addr × Rul)} {h0 : Heap} {p : Addr} (F : FnOk X.prog X.w X.K X.mg X.base CX0 j f fd ["rule"] (spKeyOf X.K)) (hb : Binds X.K fd ["rule"] [])
    (hr : Room j A) (hf : A.frames = X.A.frames) (I : Inv X pins σ H s) (hR : Rules H L) (few : L.length ≤ 900) (k0 : ∀ b o, s.heap.get? b = some o → b ≠ p ∧ h0.get? b = some o) (hp : s.heap.objs.size ≤ p) (ho : h0.get? p = some (seqObj "list" (L.map fun q => Value.ref q.1).toArray 0))
    (h : ∀ (s' : Shared) (H' : Hp) (Us : List (Addr × Rul)), Us.Perm L → Same H H' → Inv X pins σ (upd H' p (.lst (refs Us))) s' → R (.done (.ret .none)) s') :
    wpAny (model X.prog X.w) A (ksk_tree p (.ref f) false) R E { s with heap := h0 } := by
  have big : (1000000 : Nat) < sizeLine := by decide
  have hvl : (L.map fun q => Value.ref q.1).length = L.length := List.length_map _
  have hvz : (L.map fun q => Value.ref q.1).length ≤ sizeLine := by omega
  obtain ⟨e1, ho1⟩ : ∃ e1, (h0.update p (Obj.mapSeq fun _ => (#[] : Array Value))).get? p = some (seqObj "list" #[] e1) := ⟨_, get?_update_seq ho fun _ => #[]⟩
  have zb : ((h0.update p (Obj.mapSeq fun _ => (#[] : Array Value))).push (seqObj "tuple" (L.map fun q => Value.ref q.1).toArray 0)).objs.size = h0.objs.size + 1 := by rw [size_push', Heap.size_update]
  have hlt : p < h0.objs.size := Heap.lt_size ho
  have np : H p = none := I.hok.fresh hp
  unfold ksk_tree
  refine wpAny_bind (listItems_at (s := { s with heap := h0 }) ho rfl ?_)
  refine wpAny_bind (listUpdate_at (s := { s with heap := h0 }) ho rfl ?_ (by rw [List.size_toArray]; exact hvz) (Nat.zero_le _))
  refine wpAny_bind (seqEpoch_at ho1 rfl ?_)
  refine wpAny_bind (wpAny_newTuple ?_ (by show (L.map fun q => Value.ref q.1).length ≤ _; exact hvz))
  refine wpAny_bind (wpAny_newList ?_ (Nat.zero_le _))
  refine wpAny_holding ?_
  show wpAny _ A (ksk_rest p (.ref f) false (L.map fun q => Value.ref q.1).toArray e1 (.ref ((h0.update p (Obj.mapSeq fun _ => (#[] : Array Value))).push (seqObj "tuple" (L.map fun q => Value.ref q.1).toArray 0)).objs.size)) R E
    { s with heap := ((h0.update p (Obj.mapSeq fun _ => (#[] : Array Value))).push (seqObj "tuple" (L.map fun q => Value.ref q.1).toArray 0)).push (seqObj "list" #[] 0) }
  have hpb : ((h0.update p (Obj.mapSeq fun _ => (#[] : Array Value))).push (seqObj "tuple" (L.map fun q => Value.ref q.1).toArray 0)).push (seqObj "list" #[] 0) = sortingHeap h0 p (L.map fun q => Value.ref q.1) := rfl
  have gb : (sortingHeap h0 p (L.map fun q => Value.ref q.1)).get? ((h0.update p (Obj.mapSeq fun _ => (#[] : Array Value))).push (seqObj "tuple" (L.map fun q => Value.ref q.1).toArray 0)).objs.size = some (seqObj "list" #[] 0) := Heap.get?_push_size _ rfl
  have gp : (sortingHeap h0 p (L.map fun q => Value.ref q.1)).get? p = some (seqObj "list" #[] e1) := Heap.get?_push_of_some _ (Heap.get?_push_of_some _ ho1)
  rw [hpb]
  generalize hbb : ((h0.update p (Obj.mapSeq fun _ => (#[] : Array Value))).push (seqObj "tuple" (L.map fun q => Value.ref q.1).toArray 0)).objs.size = b at zb gb ⊢
  have kb : ∀ c o, s.heap.get? c = some o → (sortingHeap h0 p (L.map fun q => Value.ref q.1)).get? c = some o := fun c o e => sortingHeap_old (k0 c o e).1 (k0 c o e).2
  generalize sortingHeap h0 p (L.map fun q => Value.ref q.1) = h5 at gb gp kb ⊢
  have npb : p ≠ b := by
    rw [zb]
    exact Nat.ne_of_lt (Nat.lt_succ_of_lt hlt)
  have hsb : s.heap.objs.size ≤ b := by
    rw [zb]
    exact Nat.le_trans hp (Nat.le_of_lt (Nat.lt_succ_of_lt hlt))
  have nb : H b = none := I.hok.fresh hsb
  have fp : FpOk X pins H p := I.fpOk hp np
  have fb0 : FpOk X pins H b := I.fpOk hsb nb
  have fb : FpOk X ((p, seqObj "list" #[] e1) :: pins) H b := ⟨fb0.1, fb0.2.1, fb0.2.2.1, fb0.2.2.2.1, fb0.2.2.2.2.1, fun r hr' => by
    rcases List.mem_append.mp hr' with z | z
    · exact fb0.2.2.2.2.2 r (List.mem_append_left _ z)
    · rcases List.mem_cons.mp z with z | z
      · rw [z]
        exact npb
      · exact fb0.2.2.2.2.2 r (List.mem_append_right _ z)⟩
  have I1 : Inv X pins σ H { s with heap := h5 } := I.kept (t' := s.toks) kb
  have I2 : Inv X ((b, seqObj "list" #[] 0) :: (p, seqObj "list" #[] e1) :: pins) σ H { s with heap := h5 } := I1.pins_of fun r hr' => by
    rcases List.mem_cons.mp hr' with z | z
    · rw [z]
      exact ⟨gb, nb, fb.2.1, fb.2.2.1, fun v z => nomatch z⟩
    · rcases List.mem_cons.mp z with z | z
      · rw [z]
        exact ⟨gp, np, fp.2.1, fp.2.2.1, fun v z => nomatch z⟩
      · exact I1.pin r (List.mem_append_right _ z)
  exact sort_rest F hb hr hf I2 hR few fp fb h
/-- sorted(d, key=f) -/
def rSortedF (P : Program) (w : World) (f : Addr) : List V → List V → Hp → VK → Prop := fun vs zs H Q => ∃ (d : Addr) (X : List XT) (L : List (Addr × Rul)), vs = [.ref d] ∧ zs = [.ref f] ∧ H d = some (oT P w d X) ∧ KeysAt H X ∧ X.map (fun x => x.2.1) = L.map (·.1) ∧ Rules H L ∧ L.length ≤ 900 ∧
  ∀ (H' : Hp) (p : Addr) (Us : List (Addr × Rul)), Us.Perm L → Same H H' → H p = none → H' p = some (.lst (refs Us)) → Q (.ref p) H'
theorem cr_sortedF {j : Nat} {f : Addr} {fd : FuncData} (F : FnOk X.prog X.w X.K X.mg X.base CX0 j f fd ["rule"] (spKeyOf X.K)) (hb : Binds X.K fd ["rule"] []) (hr : Room (j + 2) X.A) (hcalm : X.calm = true) :
    CallRK X (.builtin "sorted") [Str.ofString "key"] (rSortedF X.prog X.w f) := by
  have big : (1000000 : Nat) < sizeLine := by decide
  intro pins s σ H vs zs us ws Q I r rz h
  obtain ⟨d, Xs, L, rfl, rfl, hd, hk, hXL, hR, few, q⟩ := h
  obtain rfl := Vals.ref1 r
  obtain ⟨w1, rfl, e1⟩ := vals1 rz
  obtain rfl : w1 = Value.ref f := e1
  obtain ⟨hz, lo, ys, rel, o, es, ep, ho, hx, hdt, he, hn⟩ := oT_rd I.hok (.inl hd)
  have lX : Xs.length = L.length := by
    have := congrArg List.length hXL
    rwa [List.length_map, List.length_map] at this
  have l1 : es.size = ys.length := size_of_entries he
  have l2 : Xs.length = ys.length := Paired.length rel
  refine PyProof.Rows.call_function_entry_kw PyProof.Rows.kind_sorted PyProof.Rows.plain_sorted PyProof.Rows.entry_sorted (PyProof.Rows.ksk_s1 _ _) ?_
  unfold Builtin.«sorted»
  refine wpAny_bind (m := checkCount "sorted" 1 1 _) (wpAny_pure ?_)
  refine wpAny_bind (PySem.W.kdu_collect (A := X.A.in1) (kdl_raw lo hx hdt) (I.ok.hd hcalm) ho (by omega) fun h' tk acc hkp hacc => ?_)
  have ea : acc.toList = L.map fun q => Value.ref q.1 := by
    have hl : acc.toList.length = ys.length := by rw [Array.length_toList, hacc.1]; exact l1
    have e1 : acc.toList = ys.map fun x => Value.ref x.2.1 := by
      apply List.ext_getElem?
      intro i
      rw [List.getElem?_map]
      cases hj : acc.toList[i]? with
      | none =>
        have h1 := List.getElem?_eq_none_iff.mp hj
        rw [List.getElem?_eq_none (by omega)]
        rfl
      | some v =>
        obtain ⟨en, hen, hv⟩ := hacc.2 i v (by rw [← Array.getElem?_toList]; exact hj)
        have qe := entry_at he i
        rw [hen] at qe
        cases hb : ys[i]? with
        | none =>
          rw [hb] at qe
          cases qe
        | some b =>
          rw [hb] at qe
          have e2 := Option.some.inj qe
          rw [hv, e2]
          rfl
    rw [e1]
    have e2 : ∀ {xs : List XT} {zs : List (List Leaf × Addr × Value)}, XTR xs zs → zs.map (fun x => x.2.1) = xs.map fun x => x.2.1 := fun {xs zs} r => by
      unfold XTR at r
      induction r with
      | nil => rfl
      | cons a _ ih => rw [List.map_cons, List.map_cons, ih, a.2.1]
    have e3 : (ys.map fun x => Value.ref x.2.1) = (ys.map fun x => x.2.1).map Value.ref := by rw [List.map_map]; rfl
    rw [e3, e2 rel, hXL, List.map_map]
    rfl
  have I1 : Inv X pins σ H { s with heap := h', toks := tk } := I.kept hkp
  refine wpAny_bind (wpAny_newList ?_ (by rw [ea, List.length_map]; omega))
  have hoL : (h'.push (seqObj "list" acc.toList.toArray 0)).get? h'.objs.size = some (seqObj "list" acc.toList.toArray 0) := Heap.get?_push_size _ rfl
  show wpAny _ _ _ _ _ { s with heap := h'.push (seqObj "list" acc.toList.toArray 0), toks := tk }
  refine wpAny_bind (wpAny_holding (wpAny_call_entry_kw PyProof.Rows.slot_list_sort ⟨_, hoL, rfl⟩ PyProof.Rows.entry_list_sort ?_ (PyProof.Rows.ksk_l1 _ _)))
  show wpAny (model X.prog X.w) X.A.in1.in1 (Builtin.«list.sort» ⟨[.ref h'.objs.size], [(Str.ofString "key", .ref f)]⟩) _ _ { s with heap := h'.push (seqObj "list" acc.toList.toArray 0), toks := tk }
  rw [ksk_t1]
  rw [ea] at hoL ⊢
  refine sort_tree (s := { s with heap := h', toks := tk }) F hb ?_ ?_ I1 hR few (fun b o e => ⟨Nat.ne_of_lt (Heap.lt_size e), Heap.get?_push_of_some _ e⟩) (Nat.le_refl _) hoL fun s' H' Us pm sm J => ?_
  · exact hr.in1.in1
  · rfl
  · refine ⟨_, rfl, wpAny_pure ⟨_, rfl, .ref h'.objs.size, _, J, rfl, q _ h'.objs.size Us pm (fun b u e => ?_) (I1.hok.fresh (Nat.le_refl _)) upd_same⟩⟩
    have nz : b ≠ h'.objs.size := ne_of_none e (I1.hok.fresh (Nat.le_refl _))
    rw [upd_ne nz]
    exact sm _ _ e
end
end K73
set_option maxHeartbeats 4000000
/-! len(set(xs)) of different texts. -/
namespace K73
open PySem PySem.Spec PyProof.Rows L2
theorem take_any_new {xs : List Str} (nd : xs.Nodup) {i : Nat} (hi : i < xs.length) : (xs.take i).any (· == xs[i]) = false := by
  rw [List.any_eq_false]
  intro y hy e
  have e : y = xs[i] := beq_iff_eq.mp e
  obtain ⟨j, hj, ej⟩ := List.getElem_of_mem hy
  rw [List.length_take] at hj
  rw [List.getElem_take] at ej
  exact absurd (ej.trans e) (List.pairwise_iff_getElem.mp nd j i (by omega) hi (by omega))
section
variable {prog : Program} {w : World} {A : Around} {R : Result → Shared → Prop} {I : Addr} {fp wr : List Addr} {G : Array GenState → Array GenState → Prop} {n : Nat} {P : Nat → Value → Prop} {St : Nat → Shared → Prop}
/-- the texts go in one by one -/
theorem fillN (W : WalksS prog w A.in1 I fp wr G n P St) (S : Addr) (hSf : S ∉ fp) (xs : List Str) (nd : xs.Nodup) (hsz : xs.length = n) (hn1 : n < 60) (hval : ∀ i v, P i v → ∃ t, v = .str (xs.getD i Str.empty) t) :
    ∀ (k i : Nat) (s : Shared), n - i = k → i ≤ n → St i s → s.heap.SetOf (PySem.strKind prog w) S (fun z => (xs.take i).any (· == z)) i →
      (∀ s', Moved (S :: wr) G s s' → s'.heap.SetOf (PySem.strKind prog w) S (fun z => (xs.take n).any (· == z)) n → R (.ok (.ret .none)) s') →
      codeAny (model prog w) A (.builtin "set.update.loop" ⟨[.ref S, .ref I], []⟩) R s := by
  have hSw : S ∉ wr := fun h => hSf (W.sub _ h)
  have hsub : ∀ b ∈ wr, b ∈ S :: wr := fun b hb => .tail _ hb
  intro k
  induction k with
  | zero =>
    intro i s hk hi hst hS hR
    obtain rfl : i = n := by omega
    refine codeAny_builtin PyProof.Rows.F.entry_set_update_loop ?_
    show wpAny _ A.in1 (pyNext (.ref I) >>= _) _ _ s
    refine wpAny_bind (W.done s _ _ hst fun s' hm => ?_)
    show wpAny _ A.in1 (ret Value.none) _ _ s'
    refine wpAny_pure (hR s' (hm.mono hsub) ?_)
    obtain ⟨o, es, ep, t, ho, rest⟩ := hS
    exact ⟨o, es, ep, t, hm.heap S _ hSw ho, rest⟩
  | succ k ih =>
    intro i s hk hi hst hS hR
    have hlt : i < n := by omega
    have hix : i < xs.length := by omega
    have ex : xs.getD i Str.empty = xs[i] := by rw [List.getD_eq_getElem?_getD, List.getElem?_eq_getElem hix]; rfl
    refine codeAny_builtin PyProof.Rows.F.entry_set_update_loop ?_
    show wpAny _ A.in1 (pyNext (.ref I) >>= _) _ _ s
    refine wpAny_bind (W.item i s _ _ hlt hst fun v s' hP hst' hm => ?_)
    obtain ⟨t, rfl⟩ := hval i v hP
    have hS' : s'.heap.SetOf (PySem.strKind prog w) S (fun z => (xs.take i).any (· == z)) i := by
      obtain ⟨o, es, ep, tb, ho, rest⟩ := hS
      exact ⟨o, es, ep, tb, hm.heap S _ hSw ho, rest⟩
    show wpAny _ A.in1 (holding [Value.str (xs.getD i Str.empty) t] (setAdd S (.str (xs.getD i Str.empty) t)) >>= _) _ _ s'
    refine wpAny_bind (wpAny_holding ?_)
    unfold setAdd
    refine wpAny_holding ?_
    refine wpAny_bind ((PySem.strKind prog w).pyHash (k := xs.getD i Str.empty) (strKind_is _ _ _ _) ?_)
    refine wpAny_setAddHashed_of (knd := PySem.strKind prog w) (s := { s' with toks := s'.toks + 1 }) (strKind_is _ _ _ _) rfl hS' (by unfold scanBound; omega) fun h' hsb hS2 => ?_
    have hSi : h'.SetOf (PySem.strKind prog w) S (fun z => (xs.take (i + 1)).any (· == z)) (i + 1) := by
      refine SetOf_congr hS2 (fun z => ?_) ?_
      · rw [List.take_add_one, List.getElem?_eq_getElem hix, List.any_append]
        show _ = (_ || ([xs[i]] : List Str).any (· == z))
        rw [ex]
        congr 1
        by_cases e : z = xs[i]
        · subst e
          simp
        · have hb : (xs[i] == z) = false := beq_eq_false_iff_ne.mpr fun q => e q.symm
          simp [hb, e]
      · rw [ex, take_any_new nd hix]
        rfl
    refine wpAny_pure ⟨plainId_quiet PyProof.Rows.F.plain_set_update_loop _, ih (i + 1) _ (by omega) hlt (W.frame _ s' _ _ hst' (Nat.le_succ _) fun b hb o e => ?_) hSi fun s'' hm'' hS'' => ?_⟩
    · rw [hsb.2 b (fun h : b = S => hSf (by rw [← h]; exact hb))]
      exact e
    · refine hR s'' (Moved.trans W.gtrans ((hm.mono hsub).then_heap (Nat.le_succ _) fun b o hb e => ?_) hm'') hS''
      rw [hsb.2 b (fun h : b = S => hb (by rw [h]; exact .head _))]
      exact e
end
section
variable {prog : Program} {w : World} {A : Around} {E : Value → Shared → Prop} {s : Shared}
theorem set_of_texts {l : Addr} {items : Array Value} {xs : List Str} {Q : Value → Shared → Prop} (nd : xs.Nodup) (hh : A.handled = none) (hl : s.heap.IsList l items) (hi : PyProof.Rows.StrsAre items.toList xs) (hn1 : xs.length < 60)
    (h : ∀ (h' : Heap) (tk : Nat), h'.SetOf (PySem.strKind prog w) s.heap.objs.size (fun z => (xs.take items.size).any (· == z)) items.size → (∀ b o, b < s.heap.objs.size → s.heap.get? b = some o → h'.get? b = some o) → Q (.ref s.heap.objs.size) { s with heap := h', toks := tk }) :
    wpAny (model prog w) A (call (.type "set") [.ref l]) Q E s := by
  obtain ⟨c, tl, hmro⟩ := PySem.F.called_set.mro
  have hmade := PySem.F.called_set.made
  have hsub := PySem.F.called_set.sub
  refine wpAny_call (codeAny_of_tree ?_)
  show wpAny _ _ (callAny (.type "set") _) _ _ _
  refine wpAny_pure ⟨Code.quiet_builtin _ (by decide +kernel), codeAny_builtin PySem.F.entry_type_call ?_⟩
  rw [Around.under_plain (weight_type_call_type "set" [.ref l] []) rfl]
  have h1 := PySem.F.called_set.notType
  have h2 := PySem.F.called_set.canCreate
  have hct := PySem.F.typeCall_set_1 (.ref l)
  repeat (any_goals (first | assumption | wp_step))
  refine codeAny_mono (code_set_new_1 (.ref l) (E := E) (Q₁ := fun obj s₁ => ∃ led : Bool, obj = .ref s.heap.objs.size ∧ s₁ = { s with heap := s.heap.push { cls := .type "set", dict := none, data := .set #[] 0 (.fresh 0 0 led) } }) fun led => ⟨led, rfl, rfl⟩) fun r s₁ hr => ?_
  match r, hr with
  | .error e, hr => exact hr
  | .ok .next, hr => exact hr.elim
  | .ok .brk, hr => exact hr.elim
  | .ok .cont, hr => exact hr.elim
  | .ok (.ret obj), hr =>
    obtain ⟨led, rfl, rfl⟩ := hr
    have hS : (s.heap.push { cls := .type "set", dict := none, data := .set #[] 0 (.fresh 0 0 led) }).get? s.heap.objs.size = some { cls := .type "set", dict := none, data := .set #[] 0 (.fresh 0 0 led) } := Heap.get?_push_size _ rfl
    have hT : Shared.TypeIs { s with heap := s.heap.push { cls := .type "set", dict := none, data := .set #[] 0 (.fresh 0 0 led) } } (.ref s.heap.objs.size) "set" := ⟨_, hS, rfl⟩
    have hli := PySem.F.called_set.init.lookup
    have hbi := PySem.F.called_set.init.bind (.ref s.heap.objs.size)
    repeat (any_goals (first | assumption | wp_step))
    refine codeAny_mono (codeAny_call_builtin (R := wants (fun r s₂ => r = .none ∧ ∃ h' tk, s₂ = { s with heap := h', toks := tk } ∧ h'.SetOf (PySem.strKind prog w) s.heap.objs.size (fun z => (xs.take items.size).any (· == z)) items.size ∧ (∀ b o, b < s.heap.objs.size → s.heap.get? b = some o → h'.get? b = some o)) E)
      PySem.F.called_set.init.plain PySem.F.entry_set_init (check_set_init_1 hT ?_)) fun r₂ s₂ hr₂ => ?_
    · obtain ⟨⟨ocls, odict, odata, oslots⟩, hol, hcl, nl, hdl⟩ := hl
      simp only at hcl hdl
      subst hcl
      subst hdl
      have hol' : (s.heap.push { cls := .type "set", dict := none, data := .set #[] 0 (.fresh 0 0 led) }).get? l = some { cls := .type "list", dict := odict, data := .seq items nl, slots := oslots } := Heap.get?_push_of_some _ hol
      have hsls := PySem.F.sub_list_set
      have hslf := PySem.F.sub_list_frozenset
      have hne : (Value.type "list" == Value.type "dict") = false := by decide
      have hl1 : (s.heap.push { cls := .type "set", dict := none, data := .set #[] 0 (.fresh 0 0 led) }).IsList l items := ⟨_, hol', rfl, nl, rfl⟩
      unfold Builtin.«set.__init__» noKeywords Builtin.Frozenset.updateFrom
      generalize hPI : pyIter = PI
      wp_walk
      subst hPI
      refine wpAny_pyIter_list hl1 ?_
      refine wpAny_bind (wpAny_runValue ?_)
      have hlS : l < s.heap.objs.size := Heap.lt_size hol
      have hh3 : A.in1.in1.in1.handled = none := by simp [hh]
      have hsz1 : (s.heap.push { cls := .type "set", dict := none, data := .set #[] 0 (.fresh 0 0 led) }).objs.size = s.heap.objs.size + 1 := Heap.size_push ..
      have hneI : l ≠ (s.heap.push { cls := .type "set", dict := none, data := .set #[] 0 (.fresh 0 0 led) }).objs.size := by
        rw [hsz1]
        exact Nat.ne_of_lt (Nat.lt_succ_of_lt hlS)
      have hSf : s.heap.objs.size ∉ [(s.heap.push { cls := .type "set", dict := none, data := .set #[] 0 (.fresh 0 0 led) }).objs.size, l] := by
        rw [hsz1]
        intro z
        rcases List.mem_cons.mp z with z | z
        · exact absurd z (Nat.ne_of_lt (Nat.lt_succ_self _))
        · exact absurd (List.mem_singleton.mp z) (Nat.ne_of_gt hlS)
      have hsz : xs.length = items.size := by rw [← StrsAre.len_eq hi, Array.length_toList]
      have hval : ∀ (i : Nat) (v : Value), items[i]? = some v → ∃ t, v = .str (xs.getD i Str.empty) t := fun i v hv => SS.strs_at hi i v (by rw [Array.getElem?_toList]; exact hv)
      refine fillN ((Walks.list hh3 _ l hneI items).toS) s.heap.objs.size hSf xs nd hsz (by omega) hval (items.size - 0) 0 _ (by omega) (Nat.zero_le _) ⟨⟨_, Heap.get?_push_size _ rfl, rfl, rfl⟩, (hl1.push _)⟩ ?_ fun s' hm hS' => ?_
      · exact SetOf_congr ((PyProof.Rows.setObjOf_fresh (knd := PySem.strKind prog w) led).setOf (Heap.get?_push_of_some _ hS) (by unfold scanBound; omega)) (fun _ => rfl) rfl
      · obtain ⟨h', g', d', tk', os'⟩ := s'
        obtain rfl : g' = s.gens := hm.gens
        obtain rfl : d' = s.drawn := hm.drawn
        obtain rfl : os' = s.os := hm.os
        show wpAny _ _ _ _ _ _
        refine wpAny_pure ?_
        show wpAny _ _ (ret Value.none) _ _ _
        refine wpAny_pure ⟨rfl, h', tk', rfl, hS', fun b o hb e => hm.heap b o (fun z => ?_) (Heap.get?_push_of_some _ (Heap.get?_push_of_some _ e))⟩
        rcases List.mem_cons.mp z with z | z
        · exact absurd z (Nat.ne_of_lt hb)
        · have := List.mem_singleton.mp z
          rw [hsz1] at this
          exact absurd this (Nat.ne_of_lt (Nat.lt_succ_of_lt hb))
    · match r₂, hr₂ with
      | .error e, hr₂ => exact hr₂
      | .ok .next, hr₂ => exact hr₂.elim
      | .ok .brk, hr₂ => exact hr₂.elim
      | .ok .cont, hr₂ => exact hr₂.elim
      | .ok (.ret r), hr₂ =>
        obtain ⟨rfl, h', tk, rfl, hS', hk'⟩ := hr₂
        repeat (any_goals (first | assumption | wp_step))
        exact h _ _ hS' hk'
end
section
variable {X : Cx}
def tLenN (K : PySem.W.Frag) (ta : TE) : TE := fun σ H Q => ta σ H fun x H1 => ∃ (l : Addr) (xs : List Str), x = .ref l ∧ SqL K H1 l (xs.map V.str) ∧ xs.length < 60 ∧ xs.Nodup ∧ Q (.int xs.length) H1
theorem pe_lenN {a : Expr} {ta : TE} {p p2 q pos : Pos} (hc : X.calm = true) (hg : Gl X "len") (hm : X.mg "len" = none) (hg2 : Gl X "set") (hm2 : X.mg "set" = none) (ha : PE X a ta)
    (na : starEach [a] X.env = (false, eval a X.env) :: starEach [] X.env := by rfl) : PE X (.Call (.Name "len" p) [.Call (.Name "set" p2) [a] [] q] [] pos) (tLenN X.K ta) := by
  refine ⟨fun pins s σ H Q I h => ?_⟩
  refine Call_ (ld_blt I hg hm PySem.boot_len ?_)
  refine PyProof.Rows.callWith_builtin1 (PyProof.Rows.args_cons ?_ rfl) rfl rfl
  refine Call_ (ld_blt I hg2 hm2 PyProof.Rows.boot_set ?_)
  refine PyProof.Rows.callWith_type1 (PyProof.Rows.args_cons (thn (ha.run pins s σ H _ I h) fun v s1 ⟨x, H1, I1, r1, q1⟩ => PyProof.Rows.args_nil ?_) na) na rfl
  obtain ⟨l, xs, rfl, hq, h1, hnd, q1⟩ := q1
  cases r1
  obtain ⟨its, r, pl, hz⟩ := I1.list hq
  have hl : its.toArray.size = xs.length := by rw [List.size_toArray, ← r.length, List.length_map]
  refine set_of_texts hnd (I1.ok.hd hc) pl.isList (by simpa using strsAre_of r) h1 fun h' tk hS hk => ?_
  rw [hl] at hS
  refine PyProof.Rows.args_nil ?_
  obtain ⟨o, es, ep, t, ho, hex, hd, _, _, _, hf, hn⟩ := hS
  have I2 : Inv X pins σ H1 { s1 with heap := h', toks := tk } := I1.kept fun b o e => hk b o (Heap.lt_size e) e
  refine call_len_set ho hex hd hf (by rw [hn] <;> omega) ⟨.int xs.length, H1, I2.tok _, ⟨_, by rw [hn]⟩, q1⟩
end
end K73
set_option maxHeartbeats 4000000
/-! System.__init__, _law_made. -/
namespace K73
open PySem PySem.Spec PyProof.Rows L2
section
variable {X : Cx} {k : Nat} {sp : Sp} {e : Expr} {es : List Expr} {p0 apos pos : Pos} {t : TA} {mg : Str → Option Value} {fd : FuncData} {pl : Sem Bool}
/-- System.is_rule(..) -/
theorem pe_static {K : PySem.W.Frag} (Z : Tp K mg) (hK : X.K = K) (hmg : X.mg = mg) (G : FnOk X.prog X.w X.K X.mg X.base CX0 k Z.gIsRule Z.dIsRule ["thing"] sp) (hr : Room k X.A) (hg : Gl X "System") (ha : PA X (e :: es) t)
    (hst : starEach (e :: es) X.env = (false, eval e X.env) :: starEach es X.env := by rfl) (hpl : (backTo pos (starEach es X.env)).any (·.1) = false := by rfl)
    (ht : eval (.Call (.Attribute (.Name "System" p0) "is_rule" apos) (e :: es) [] pos) X.env = (do
      let ov ← eval (.Name "System" p0) X.env
      standAt apos.atName
      let (f, first) ← holding [ov] (getMethod ov "is_rule" pl)
      callWith pos f first (backTo pos (starEach (e :: es) X.env)) (backToKw pos (keywordEach [] X.env))) := by rfl) :
    PE X (.Call (.Attribute (.Name "System" p0) "is_rule" apos) (e :: es) [] pos) (tCall sp [] E0 t) := by
  subst hK hmg
  refine ⟨fun pins s σ H Q I h => ?_⟩
  have hN : PE X (.Name "System" p0) (tC (.ref Z.C)) := pe_glob hg Z.S.im rfl
  refine PySem.W.methodCall_KW (pl := pl) (thn (hN.run pins s σ H (fun v H' => v = .ref Z.C ∧ t σ H' fun vs H1 => sp (vs ++ []) H1 Q E0) I ⟨rfl, h⟩) fun u s1 ⟨x, H1, I1, rx, ex, q⟩ => ?_) ht
  subst ex
  obtain rfl : u = Value.ref Z.C := rx
  refine PySem.W.method_cls I1.kIn Z.gaS (PySem.W.cls_bind I1.kIn Z.rdS Z.smS (wpAny_call (PySem.W.sm_get (s := { s1 with toks := s1.toks + 1 }) I1.kIn Z.rcS (PySem.W.handed_on rfl ?_))))
  have I2 : Inv X pins σ H1 { s1 with toks := s1.toks + 1 } := I1.tok _
  refine PySem.W.callWith_K (first := []) (h₀ := X.base) I.ok.mod.kin Z.IsRule.kp (thn (ha.run pos pins _ σ H1 _ I2 q) fun us s2 ⟨vs, H2, I3, r, q2⟩ => ⟨I3.kIn, ?_⟩) hst hpl
  exact run_fn G hr Z.bIsRule .nil pass0 I3 r q2
theorem sl_tupB (K : PySem.W.Frag) (hK : X.K = K := by rfl) : SlR X (rSlT K) := by
  subst hK
  exact sl_tup
theorem pi_tupB {tg l : Expr} {tl : TE} (K : PySem.W.Frag) (hl : PE X l tl) (hK : X.K = K := by rfl) : PI X tg l (iTup K tl) := by
  subst hK
  exact pi_tup hl
end
theorem fs_puts {sl gl : Addr} : putF "gaps" (.ref gl) (putF "settings" (.ref sl) []) = fields sl gl := by
  have e1 : ¬ ("settings" : Str) = "gaps" := by decide +kernel
  show (if ("settings" : Str) = "gaps" then _ else (("settings" : Str), V.ref sl) :: [(("gaps" : Str), V.ref gl)]) = _
  rw [if_neg e1]
section
variable {P : Program} {w : World} {K : PySem.W.Frag} {mg : Str → Option Value} {base : Heap}
/-! rule_key -/
theorem Tp.ruleKey (Z : Tp K mg) : FnOk P w K mg base CX0 1 Z.gRuleKey Z.dRuleKey ["rule"] (spKeyOf K) := by
  refine Z.RuleKey.fn.ok cRuleKey (fun vs H Q E h => ?_) (fun cdv A outer s H vs Q E hr h => ?_)
  · obtain ⟨p, r, rfl, _⟩ := h
    rfl
  · obtain ⟨p, r, rfl, hp, k⟩ := h
    refine ⟨_, pss_one (ps_ret (pe_tup (pa_cons (pe_ifExp (pt_cmpR op_isN (pat 0) pe_non (nomark _)) pe_str (pat 0)) (pa_cons (pe_ifExp (pt_cmpR op_isN (pat 0) pe_non (nomark _)) pe_str (pat 0)) (pa_cons (pat 0) pa_nil))))), ?_⟩
    have fin : ∀ t, H t = none → Q (.ref t) (upd H t (.tup [.str (k3 r).a, .str (k3 r).b, .int (k3 r).c])) := fun t ht => k _ t (same_upd ht) ht upd_same
    refine ⟨_, rfl, p, _, _, _, rfl, rfl, SqT.of hp, atI_nat (j := 0) rfl, rfl, _, rfl, ?_⟩
    have two : ∀ (tt : Option Str) (j : Nat) (Qe : VK), ([vT r.lo, vT r.hi, V.int r.gap] : List V)[j]? = some (vT tt) → Qe (.str (nz tt)) H → (if decide (vT tt = V.non) = true then tC (.str "") (L2.start nRuleKey [.ref p]) H Qe else tOp (rIxT K) (tVar 0) (tC (.int (j : Nat))) (L2.start nRuleKey [.ref p]) H Qe) := fun tt j Qe hj q => by
      cases tt with
      | none => exact iteT q
      | some x => exact iteF ⟨_, rfl, p, _, _, _, rfl, rfl, SqT.of hp, atI_nat hj, q⟩
    refine two r.lo 0 _ rfl ?_
    refine ⟨_, rfl, p, _, _, _, rfl, rfl, SqT.of hp, atI_nat (j := 1) rfl, rfl, _, rfl, ?_⟩
    refine two r.hi 1 _ rfl ?_
    exact ⟨_, rfl, p, _, _, _, rfl, rfl, SqT.of hp, atI_nat (j := 2) rfl, (by show 3 ≤ sizeLine; decide), fin⟩
/-! System.__init__ -/
def spInitS (C : Addr) : Sp := fun vs H Q _ => ∃ (x dx a g : Addr) (ns : List Str) (L : List (Addr × Rul)), vs = [.ref x, .ref a, .ref g] ∧ H x = some (.ins C dx []) ∧ H a = some (.lst (ns.map V.str)) ∧ H g = some (.lst (refs L)) ∧ Rules H L ∧ ns.Nodup ∧ ns.length ≤ 50 ∧ (∀ n ∈ ns, OkName n) ∧
  L.length ≤ 900 ∧ (∀ q ∈ L, OkRule q.2) ∧ Within (gapsOf L) ns ∧
  ∀ (H' : Hp) (S : List Str) (L' : List (Addr × Rul)), (∀ c o, c ≠ x → H c = some o → H' c = some o) → SysAt C H' x S L' → S.Perm ns → S.Pairwise sLt → (∀ r, r ∈ gapsOf L' ↔ r ∈ gapsOf L) → L'.length ≤ L.length → Q .non H'
theorem Tp.initS (Z : Tp K mg) : FnOk P w K mg base CX0 4 Z.gInitS Z.dInitS ["self", "names", "rules"] (spInitS Z.C) := by
  have T := Z.nm
  have S := Z.S
  have G1 := Z.isName (P := P) (w := w) (base := base)
  have G3 := Z.isRule (P := P) (w := w) (base := base)
  have GK := Z.ruleKey (P := P) (w := w) (base := base)
  refine Z.InitS.ok cInitS (fun vs H Q E h => ?_) (fun cdv A outer s H vs Q E hr h => ?_)
  · obtain ⟨x, dx, a, g, ns, L, rfl, _⟩ := h
    rfl
  · obtain ⟨x, dx, a, g, ns, L, rfl, hx, ha, hg, hR, nd0, few, okn, fewL, okL, wi, k⟩ := h
    have hu := hu_of hr
    have nd := cInitS.nd
    refine ⟨_, pss_cons (ps_if (PW.pt (pw_or (pt_not (ptv (pe_isi T rfl rfl T.list boot_list (pv 1))))
          (pw_or (pt_not (ptv (pe_callB (cr_all rfl) rfl T.all boot_all (pa_cons (pe_lc (own := [("name", 3)]) (g := gName 3) (tt := tYes) rfl nd (pi_list (pv 1)) (blkOk_by (N := nInitS) (sc := defScope sInitS) (by decide +kernel)) (fun _ _ _ _ _ => pg_name (i := 3) nd rfl (Or.inl rfl))
              (fun _ _ _ _ _ => pts_nil) (fun _ _ _ _ _ => pe_d Z.IsName G1 (hr.mono (by decide)) rfl (pa_cons (pv 3) pa_nil))) pa_nil))))
          (pw_or1 (pt_cmpR op_lt (pe_lenN rfl (by rfl) T.len (by rfl) T.set (pv 1)) (pe_callB call_len_seq (by rfl) T.len PySem.boot_len (pa_cons (pv 1) pa_nil)) (nomark _)))))) pss_no pss_nil)
      (pss_cons (ps_if (PW.pt (pw_or (pt_not (ptv (pe_isi T rfl rfl T.list boot_list (pv 2))))
          (pw_or1 (pt_not (ptv (pe_callB (cr_all rfl) rfl T.all boot_all (pa_cons (pe_lc (own := [("rule", 4)]) (g := gName 4) (tt := tYes) rfl nd (pi_list (pv 2)) (blkOk_by (N := nInitS) (sc := defScope sInitS) (by decide +kernel)) (fun _ _ _ _ _ => pg_name (i := 4) nd rfl (Or.inl rfl))
              (fun _ _ _ _ _ => pts_nil) (fun _ _ _ _ _ => pe_static Z rfl rfl G3 hr rfl (pa_cons (pv 4) pa_nil))) pa_nil))))))) pss_no pss_nil)
      (pss_cons (ps_if (pt_not (ptv (pe_callB (cr_all rfl) rfl T.all boot_all (pa_cons (pe_lc2 (own := [("rule", 4), ("thing", 5)]) (vs1 := [5]) (g := gName 4) (tt := tYes) (g1 := gName 5) (tt1 := tYes) rfl nd (pi_list (pv 2)) (blkOk_by (N := nInitS) (sc := defScope sInitS) (by decide +kernel)) (by decide)
              (fun _ _ _ _ _ => pg_name (i := 4) nd rfl (Or.inl rfl)) (fun _ _ _ _ _ => pts_nil) (fun _ _ _ _ _ => pi_tupB K (pe_slice (sl_tupB K) (pv 4) po_none (po_some pe_int))) (fun _ _ _ _ _ => pg_name (i := 5) nd rfl (Or.inl rfl)) (fun _ _ _ _ _ => pts_nil)
              (fun _ _ _ _ _ => pe_or (pe_cmpR op_isN (pv 5) pe_non (nomark _)) (pe_one (pe_cmpR (op_inB K) (pv 5) (pv 1) (by rfl))))) pa_nil)))) pss_no pss_nil)
      (pss_cons (ps_fld (pv 0) (pe_callB cr_sortedS (by rfl) T.sorted boot_sorted (pa_cons (pv 1) pa_nil)) rfl)
      (pss_one (ps_fld (pv 0) (pe_callBK (cr_sortedF (f := Z.gRuleKey) GK Z.RuleKey.bi hr rfl) (by rfl) T.sorted boot_sorted (pa_cons (pe_dcX (o0 := fun D => oT P w D []) (own := [("rule", 4)]) (g := gName 4) (tt := tYes) empty_T hu rfl nd (pi_list (pv 2)) (blkOk_by (N := nInitS) (sc := defScope sInitS) (by decide +kernel))
          (fun _ _ _ _ _ => pg_name (i := 4) nd rfl (Or.inl rfl)) (fun _ _ _ _ _ => pts_nil) (fun _ _ _ _ _ => pv 4) (fun _ _ _ _ _ => pe_bl)) pa_nil) (pk_cons (pe_glob rfl Z.RuleKey.im (v := .ref Z.gRuleKey) rfl) pk_nil)) rfl))))), ?_⟩
    have big : (1000000 : Nat) < sizeLine := by decide
    have nax : a ≠ x := ne_of ha hx (by intro z; cases z)
    have ngx : g ≠ x := ne_of hg hx (by intro z; cases z)
    refine ⟨_, rfl, _, _, _, _, true, rfl, .ty _, .base (.lst ha), kit_ty (by decide +kernel), true, rfl, ?_⟩
    refine iteF ⟨_, rfl, a, rfl, ⟨_, SqL.of ha⟩, fun D1 hD1 => ?_⟩
    refine lcl_map (SqL.of ha) hD1 (by rw [List.length_map]; omega) (fun _ => .bl true) ?_ ?_
    · rintro y H' Qe hm e q
      obtain ⟨n, hn, rfl⟩ := List.mem_map.mp hm
      exact ⟨_, rfl, n, rfl, okn n hn, fun H5 e5 => q H5 e5⟩
    intro H1 e1 hd1
    refine ⟨D1, ns.map fun _ => true, rfl, SqL.of (by rw [hd1, List.map_map, List.map_map]; rfl), ?_⟩
    have ea1 : (ns.map fun _ => true).all id = true := by simp
    rw [ea1]
    refine ⟨_, rfl, iteF ⟨_, rfl, a, ns, rfl, SqL.of (e1 _ _ ha), by omega, nd0, _, rfl, a, _, rfl, .inl (SqL.of (e1 _ _ ha)), _, _, rfl, rfl, _, rfl, ?_⟩⟩
    rw [List.length_map, decide_eq_false (Int.lt_irrefl _)]
    refine iteF ?_
    refine ⟨_, rfl, _, _, _, _, true, rfl, .ty _, .base (.lst (e1 _ _ hg)), kit_ty (by decide +kernel), true, rfl, ?_⟩
    refine iteF ⟨_, rfl, g, rfl, ⟨_, SqL.of (e1 _ _ hg)⟩, fun D2 hD2 => ?_⟩
    refine lcl_map (SqL.of (e1 _ _ hg)) hD2 (by rw [List.length_map]; omega) (fun _ => .bl true) ?_ ?_
    · rintro y H' Qe hm e q
      obtain ⟨r, hr', rfl⟩ := List.mem_map.mp hm
      exact ⟨_, rfl, r.1, r.2, rfl, e _ _ (e1 _ _ (hR r hr')), okL r hr', fun H5 e5 => q H5 e5⟩
    intro H2 e2 hd2
    have e12 := e1.trans e2
    refine ⟨D2, L.map fun _ => true, rfl, SqL.of (by rw [hd2, List.map_map, List.map_map]; rfl), ?_⟩
    have ea2 : (L.map fun _ => true).all id = true := by simp
    rw [ea2]
    refine ⟨_, rfl, iteF ?_⟩
    have hg2 := e12 _ _ hg
    refine ⟨_, rfl, g, rfl, ⟨_, SqL.of hg2⟩, fun D3 hD3 => ?_⟩
    refine ⟨fun i m H' => m = L.length - i ∧ i ≤ L.length ∧ Same H2 H' ∧ ∃ n, H' D3 = some (.lst (List.replicate n (.bl true))) ∧ n ≤ 2 * i, ⟨L.length, by simp, Nat.zero_le _, same_upd hD3, 0, upd_same, Nat.zero_le _⟩, ?_⟩
    rintro i m H3 ⟨rfl, hi, e3, n, hn, hn2⟩
    by_cases hlt : i < L.length
    · obtain ⟨q, hq⟩ : ∃ q, L[i]? = some q := ⟨_, List.getElem?_eq_getElem hlt⟩
      have hm : q ∈ L := List.mem_of_getElem? hq
      have hxi : (refs L)[i]? = some (.ref q.1) := by
        unfold refs
        rw [List.getElem?_map, hq]
        rfl
      have hg3 := e3 _ _ hg2
      refine .inr ⟨⟨_, _, SqL.of hg3, hxi⟩, fun H'' => Same H2 H'' ∧ ∃ n, H'' D3 = some (.lst (List.replicate n (.bl true))) ∧ n ≤ 2 * (i + 1), fun H'' p => ⟨L.length - (i + 1), by omega, rfl, hlt, p.1, p.2⟩, fun y H'' hy => ?_⟩
      obtain ⟨rfl, hy⟩ := hy
      obtain rfl : V.ref q.1 = y := Option.some.inj (hxi.symm.trans (hy _ (SqL.of hg3)))
      have hq3 : RuleAt H'' q.1 q.2 := e3 _ _ (e12 _ _ (hR q hm))
      refine ⟨rfl, ?_⟩
      unfold tYes
      dsimp only
      rw [if_pos rfl]
      refine ⟨_, rfl, ?_⟩
      refine ⟨2, rfl, q.1, _, rfl, SqT.of hq3, (by show ¬ (HT.sIx 3 0 none = 0 ∧ HT.sIx 3 3 (some 2) = 3); decide), fun tp htp => ⟨tp, rfl, ⟨_, SqT.of upd_same⟩, ?_⟩⟩
      have ecut : cutV [vT q.2.lo, vT q.2.hi, .int q.2.gap] none (some 2) = [vT q.2.lo, vT q.2.hi] := rfl
      rw [ecut]
      have e4 : Same H'' (upd H'' tp (.tup [vT q.2.lo, vT q.2.hi])) := same_upd htp
      have ntD : tp ≠ D3 := fun z => by rw [z, hn] at htp; cases htp
      refine ⟨fun j k H5 => k = 2 - j ∧ j ≤ 2 ∧ Same H2 H5 ∧ H5 tp = some (.tup [vT q.2.lo, vT q.2.hi]) ∧ ∃ n, H5 D3 = some (.lst (List.replicate n (.bl true))) ∧ n ≤ 2 * i + j, ⟨2, rfl, by decide, e3.trans e4, upd_same, n, e4 _ _ hn, hn2⟩, ?_⟩
      rintro j k5 H5 ⟨rfl, hj, e5, ht5, n5, hn5, hl5⟩
      by_cases hj2 : j < 2
      · obtain ⟨t, htj, hti⟩ : ∃ t, ([vT q.2.lo, vT q.2.hi] : List V)[j]? = some (vT t) ∧ ∀ z, t = some z → z ∈ ns := by
          have hw := wi q.2 (List.mem_map.mpr ⟨q, hm, rfl⟩)
          match j, hj2 with
          | 0, _ => exact ⟨_, rfl, hw.1⟩
          | 1, _ => exact ⟨_, rfl, hw.2⟩
        refine .inr ⟨⟨_, _, SqT.of ht5, htj⟩, fun H6 => Same H2 H6 ∧ H6 tp = some (.tup [vT q.2.lo, vT q.2.hi]) ∧ ∃ n, H6 D3 = some (.lst (List.replicate n (.bl true))) ∧ n ≤ 2 * i + (j + 1), fun H6 p => ⟨2 - (j + 1), by omega, rfl, hj2, p⟩, fun y H6 hy => ?_⟩
        obtain ⟨rfl, hy⟩ := hy
        obtain rfl : vT t = y := Option.some.inj (htj.symm.trans (hy _ (SqT.of ht5)))
        refine ⟨rfl, ?_⟩
        rw [if_pos rfl]
        have fin : ∃ acc, H6 D3 = some (.lst acc) ∧ acc.length < sizeLine ∧ (Same H2 (upd H6 D3 (.lst (acc ++ [.bl true]))) ∧ (upd H6 D3 (.lst (acc ++ [.bl true]))) tp = some (.tup [vT q.2.lo, vT q.2.hi]) ∧ ∃ n, (upd H6 D3 (.lst (acc ++ [.bl true]))) D3 = some (.lst (List.replicate n (.bl true))) ∧ n ≤ 2 * i + (j + 1)) := by
          refine ⟨_, hn5, by rw [List.length_replicate]; omega, same_put e5 hD3, by rw [upd_ne ntD]; exact ht5, n5 + 1, by rw [upd_same, List.replicate_succ'], by omega⟩
        refine ⟨_, rfl, rfl, _, rfl, ?_⟩
        cases t with
        | none => exact iteT fin
        | some z =>
          refine iteF ⟨_, rfl, _, rfl, a, _, rfl, .inl (SqL.of (e5 _ _ (e12 _ _ ha))), rfl, flat_strs ns, ?_⟩
          have ez : inV (vT (some z)) (ns.map V.str) = true := by
            show inV (.str z) _ = true
            rw [inV_strs]
            exact decide_eq_true (hti z rfl)
          rw [ez]
          exact fin
      · have : j = 2 := by omega
        subst this
        exact .inl ⟨⟨_, SqT.of ht5, Nat.le_refl _⟩, e5, n5, hn5, by omega⟩
    · have ei : i = L.length := by omega
      subst ei
      refine .inl ⟨⟨_, SqL.of (e3 _ _ hg2), by unfold refs; rw [List.length_map]; exact Nat.le_refl _⟩, D3, List.replicate n true, rfl, SqL.of (by rw [hn, List.map_replicate]), ?_⟩
      have ea3 : (List.replicate n true).all id = true := List.all_eq_true.mpr fun b hb => by rw [(List.mem_replicate.mp hb).2]; rfl
      rw [ea3]
      refine ⟨_, rfl, iteF ?_⟩
      have e13 := e12.trans e3
      have ha3 := e13 _ _ ha
      have hg3 := e13 _ _ hg
      have hx3 := e13 _ _ hx
      refine ⟨_, rfl, a, ns, rfl, SqL.of ha3, by omega, fun S0 sl pm0 hso hsl => ⟨_, rfl, x, Z.C, dx, [], rfl, (same_upd hsl) _ _ hx3, S.cl, S.nS, (by show 0 < 1000; decide), ?_⟩⟩
      have nsx : sl ≠ x := fun z => by rw [z, hx3] at hsl; cases hsl
      have sl0 : H sl = none := e13.free hsl
      have kp4 : ∀ c o, c ≠ x → H c = some o → (upd (upd H3 sl (.lst (S0.map V.str))) x (.ins Z.C dx (putF "settings" (.ref sl) []))) c = some o := fun c o hc e => by
        rw [upd_ne hc, upd_ne (ne_of_none e sl0)]
        exact e13 _ _ e
      have hsl4 : (upd (upd H3 sl (.lst (S0.map V.str))) x (.ins Z.C dx (putF "settings" (.ref sl) []))) sl = some (.lst (S0.map V.str)) := by
        rw [upd_ne nsx]
        exact upd_same
      have hx4 : (upd (upd H3 sl (.lst (S0.map V.str))) x (.ins Z.C dx (putF "settings" (.ref sl) []))) x = some (.ins Z.C dx (putF "settings" (.ref sl) [])) := upd_same
      generalize upd (upd H3 sl (.lst (S0.map V.str))) x (.ins Z.C dx (putF "settings" (.ref sl) [])) = H4 at kp4 hsl4 hx4 ⊢
      have nqx : ∀ q ∈ L, q.1 ≠ x := fun q hq => ne_of (hR q hq) hx (by intro z; cases z)
      have hR4 : Rules H4 L := fun q hq => kp4 _ _ (nqx q hq) (hR q hq)
      have hg4 := kp4 _ _ ngx hg
      refine ⟨_, rfl, g, rfl, ⟨_, SqL.of hg4⟩, fun D4 hD4 => ?_⟩
      refine dcX_list (P := P) (w := w) (K := K) (a := g) (xs := refs L) (fun i H' => Same H4 H' ∧ H' D4 = some (oT P w D4 (putAllX [] (xtR (L.take i))))) ⟨same_upd hD4, upd_same⟩ (fun i H' _ e => SqL.of (e.1 _ _ hg4)) ?_ ?_
      · rintro i y H5 hi ⟨e5, hd5⟩
        obtain ⟨q, hq, rfl⟩ := refs_get hi
        have hm : q ∈ L := List.mem_of_getElem? hq
        have hsub : Rules H5 (L.take i) := fun r hr' => (hR4 r (List.mem_of_mem_take hr')).same e5
        have hlen : (putAllX [] (xtR (L.take i))).length < sizeLine := by
          have h1 := putAllX_len (xtR (L.take i)) []
          have h2 : (xtR (L.take i)).length = (L.take i).length := List.length_map ..
          have h3 := List.length_take_le' i L
          have h4 : ([] : List XT).length = 0 := rfl
          omega
        refine ⟨rfl, ?_⟩
        unfold tYes
        dsimp only
        rw [if_pos rfl]
        refine ⟨_, rfl, _, .inr ⟨_, kR q.2, q.1, hd5, putAllX_keys _ _ (fun z hz => by cases hz) (xtR_keys hsub), rfl, ?_, hlen, rfl⟩, same_put e5 hD4, ?_⟩
        · rw [kR_lV]
          exact (hR4 q hm).same e5
        · rw [upd_same, take_snoc hq]
          have : xtR (L.take i ++ [q]) = xtR (L.take i) ++ [(kR q.2, q.1, .bl true)] := by
            unfold xtR
            rw [List.map_append]
            rfl
          rw [this]
          unfold putAllX
          rw [List.foldl_append]
          rfl
      · rintro H5 ⟨e5, hd5⟩
        have hall : L.take (refs L).length = L := by
          unfold refs
          rw [List.length_map, List.take_length]
        rw [hall] at hd5
        have hR5 : Rules H5 L := hR4.same e5
        have hX : ∀ z ∈ putAllX [] (xtR L), ∃ q ∈ L, z.1 = kR q.2 ∧ z.2.1 = q.1 := fun z hz => by
          rcases mem_putAllX (xtR L) [] hz with ⟨y, hy, _⟩ | ⟨y, hy, h1, h2⟩
          · cases hy
          · obtain ⟨q, hq, rfl⟩ := List.mem_map.mp hy
            exact ⟨q, hq, h1, h2⟩
        have hXk : ∀ r, kR r ∈ (putAllX [] (xtR L)).map (·.1) ↔ r ∈ gapsOf L := fun r => by
          rw [keys_putAllX]
          unfold xtR gapsOf
          rw [List.map_map]
          constructor
          · rintro (h | h)
            · cases h
            · obtain ⟨q, hq, e⟩ := List.mem_map.mp h
              exact List.mem_map.mpr ⟨q, hq, kR_inj e⟩
          · intro h
            obtain ⟨q, hq, e⟩ := List.mem_map.mp h
            exact .inr (List.mem_map.mpr ⟨q, hq, by rw [← e]; rfl⟩)
        have hXl : (putAllX [] (xtR L)).length ≤ L.length := by
          have h1 := putAllX_len (xtR L) []
          have h2 : (xtR L).length = L.length := List.length_map ..
          have h3 : ([] : List XT).length = 0 := rfl
          omega
        have hXkeys : KeysAt H5 (putAllX [] (xtR L)) := putAllX_keys _ _ (fun z hz => by cases hz) (xtR_keys hR5)
        generalize putAllX [] (xtR L) = Xs at hX hXk hXl hXkeys hd5
        have hru : ∀ z ∈ Xs, ∃ q ∈ L, z.1 = kR q.2 ∧ z.2.1 = q.1 ∧ rulOf H5 z.2.1 = q.2 := fun z hz => by
          obtain ⟨q, hq, h1, h2⟩ := hX z hz
          exact ⟨q, hq, h1, h2, by rw [h2]; exact rulOf_eq (hR5 q hq)⟩
        have hgL : ∀ r, r ∈ gapsOf (Xs.map fun z => (z.2.1, rulOf H5 z.2.1)) ↔ r ∈ gapsOf L := fun r => by
          constructor
          · intro h
            obtain ⟨y, hy, rfl⟩ := List.mem_map.mp h
            obtain ⟨z, hz, rfl⟩ := List.mem_map.mp hy
            obtain ⟨q, hq, _, _, h3⟩ := hru z hz
            exact List.mem_map.mpr ⟨q, hq, h3.symm⟩
          · intro h
            obtain ⟨z, hz, ez⟩ := List.mem_map.mp ((hXk r).mpr h)
            obtain ⟨q, hq, h1, _, h3⟩ := hru z hz
            have : q.2 = r := kR_inj (h1.symm.trans ez)
            exact List.mem_map.mpr ⟨_, List.mem_map.mpr ⟨z, hz, rfl⟩, h3.trans this⟩
        refine ⟨D4, Xs, Xs.map fun z => (z.2.1, rulOf H5 z.2.1), rfl, rfl, hd5, hXkeys, by rw [List.map_map]; rfl, fun y hy => ?_, by rw [List.length_map]; omega, fun H6 p Us pm e6 p0 hp6 => ?_⟩
        · obtain ⟨z, hz, rfl⟩ := List.mem_map.mp hy
          obtain ⟨q, hq, _, h2, h3⟩ := hru z hz
          show RuleAt H5 z.2.1 (rulOf H5 z.2.1)
          rw [h3, h2]
          exact hR5 q hq
        · have e46 : Same H4 H6 := e5.trans e6
          have hx6 := e46 _ _ hx4
          have hsl6 := e46 _ _ hsl4
          have npx : p ≠ x := fun z => by rw [z, e5 _ _ hx4] at p0; cases p0
          refine ⟨_, rfl, x, Z.C, dx, _, rfl, hx6, S.cl, S.nG, (by show 1 < 1000; decide), ?_⟩
          have hUs : ∀ y ∈ Us, ∃ q ∈ L, y.1 = q.1 ∧ y.2 = q.2 := fun y hy => by
            obtain ⟨z, hz, rfl⟩ := List.mem_map.mp (pm.subset hy)
            obtain ⟨q, hq, _, h2, h3⟩ := hru z hz
            exact ⟨q, hq, h2, h3⟩
          rw [fs_puts]
          refine k _ S0 Us (fun c o hc e => ?_) ⟨dx, sl, p, upd_same, ?_, ?_, fun y hy => ?_⟩ pm0 (sorted_lt hso (pm0.nodup_iff.mpr nd0)) (fun r => ?_) ?_
          · rw [upd_ne hc]
            exact e46 _ _ (kp4 _ _ hc e)
          · rw [upd_ne nsx]
            exact hsl6
          · rw [upd_ne npx]
            exact hp6
          · obtain ⟨q, hq, h1, h2⟩ := hUs y hy
            unfold RuleAt
            rw [h1, h2, upd_ne (nqx q hq)]
            exact e46 _ _ (hR4 q hq)
          · rw [← hgL r]
            unfold gapsOf
            exact (pm.map _).mem_iff
          · rw [pm.length_eq, List.length_map]
            exact hXl
end
end K73
set_option maxHeartbeats 4000000
/-! _law_made. -/
namespace K73
open PySem PySem.Spec PyProof.Rows L2
section
variable {P : Program} {w : World} {K : PySem.W.Frag} {mg : Str → Option Value} {base : Heap}
def spLMade (C : Addr) : Sp := fun vs H Q _ => ∃ (a g : Addr) (ns : List Str) (L : List (Addr × Rul)), vs = [.ref a, .ref g] ∧ H a = some (.lst (ns.map V.str)) ∧ H g = some (.lst (refs L)) ∧ Rules H L ∧ ns.Nodup ∧ ns.length ≤ 50 ∧ (∀ n ∈ ns, OkName n) ∧
  L.length ≤ 900 ∧ (∀ q ∈ L, OkRule q.2) ∧ Within (gapsOf L) ns ∧
  ∀ (H' : Hp) (x : Addr) (S : List Str) (L' : List (Addr × Rul)), Same H H' → H x = none → SysAt C H' x S L' → S.Perm ns → S.Pairwise sLt → (∀ r, r ∈ gapsOf L' ↔ r ∈ gapsOf L) → L'.length ≤ L.length → Q (.ref x) H'
theorem Tp.lMade (Z : Tp K mg) : FnOk P w K mg base CX0 6 Z.gLMade Z.dLMade ["_law_nyms_here", "_law_gaps_here"] (spLMade Z.C) := by
  have T := Z.nm
  have G := Z.initS (P := P) (w := w) (base := base)
  refine Z.LMade.fn.ok cLMade (fun vs H Q E h => ?_) (fun cdv A outer s H vs Q E hr h => ?_)
  · obtain ⟨a, g, ns, L, rfl, _⟩ := h
    rfl
  · obtain ⟨a, g, ns, L, rfl, ha, hg, hR, nd0, few, okn, fewL, okL, wi, k⟩ := h
    refine ⟨_, pss_one (ps_ret (pe_make Z.mkS G hr rfl Z.S.im Z.bInitS .nil pass0 (pa_cons (pe_callTy call_list_of (by rfl) T.list boot_list (pa_cons (pv 0) pa_nil)) (pa_cons (pe_callTy call_list_of (by rfl) T.list boot_list (pa_cons (pv 1) pa_nil)) pa_nil)))), ?_⟩
    refine ⟨_, rfl, a, _, rfl, .inl (SqL.of ha), fun a2 ha2 => ⟨_, rfl, g, _, rfl, .inl (SqL.of ((same_upd ha2) _ _ hg)), fun g2 hg2 => ?_⟩⟩
    have e1 : Same H (upd H a2 (.lst (ns.map V.str))) := same_upd ha2
    have e2 : Same (upd H a2 (.lst (ns.map V.str))) (upd (upd H a2 (.lst (ns.map V.str))) g2 (.lst (refs L))) := same_upd hg2
    have hA := e2 _ _ (upd_same (H := H) (a := a2) (o := .lst (ns.map V.str)))
    have hG : (upd (upd H a2 (.lst (ns.map V.str))) g2 (.lst (refs L))) g2 = some (.lst (refs L)) := upd_same
    have e12 := e1.trans e2
    generalize upd (upd H a2 (.lst (ns.map V.str))) g2 (.lst (refs L)) = H2 at hA hG e12 ⊢
    clear e1 e2
    refine fun x dx nx ndx nxx => ?_
    have same0 : ∀ {H' : Hp}, (∀ c o, c ≠ x → (upd (upd H2 dx (.own x)) x (.ins Z.C dx [])) c = some o → H' c = some o) → Same H H' := fun q c o e => by
      have c1 : c ≠ x := ne_of_none (e12 _ _ e) nx
      have c2 : c ≠ dx := ne_of_none (e12 _ _ e) ndx
      exact q c o c1 (by rw [upd_ne c1, upd_ne c2]; exact e12 _ _ e)
    have e3 : Same H2 (upd (upd H2 dx (.own x)) x (.ins Z.C dx [])) := fun c o e => by
      rw [upd_ne (ne_of_none e nx), upd_ne (ne_of_none e ndx)]
      exact e
    refine ⟨x, dx, a2, g2, ns, L, rfl, upd_same, e3 _ _ hA, e3 _ _ hG, fun q hq => e3 _ _ (e12 _ _ (hR q hq)), nd0, few, okn, fewL, okL, wi, fun H' S L' kp hs pm so hg hl => ?_⟩
    exact ⟨rfl, k H' x S L' (same0 kp) (e12.free nx) hs pm so hg hl⟩
end
end K73
set_option maxHeartbeats 4000000
/-! safe_steps. -/
namespace K73
open PySem PySem.Spec PyProof.Rows L2
theorem scSafe : GScope nSafeSteps ["system", "numbers"] (defScope sSafeSteps) := ⟨rfl, rfl, rfl, by decide +kernel, rfl, by decide +kernel, by decide +kernel⟩
theorem Fun_okGen {P : Program} {w : World} {K : PySem.W.Frag} {mg : Str → Option Value} {base : Heap} {x qual : Str} {st : Stmt} {f : Addr} {fd : FuncData} {N ps : List Str} {k : Nat} {sp : SpG} (F : Fun K x qual st f fd) (S : GScope N ps (defScope st)) (len : ∀ vs H Q E, sp vs H Q E → vs.length = ps.length)
    (hbody : ∀ (cdv : Value) (A : Around) (outer : List Env) (s : Shared) (H : Hp) (vs : List V) (Q : List V → Hp → Prop) (E : XK) (pn : List (Addr × Obj)), Room k (A.deeper (envOfC qual (defScope st) s.heap.objs.size f cdv)) → sp vs H Q E →
      ∃ t, GSs (gcxOf P w K mg base N qual (defScope st) f cdv A outer s H E pn) (defBody st) t ∧ t { nx := fun ys _ H' => Q ys H', rt := fun ys v H' => v = .non ∧ Q ys H' } [] (L2.start N vs) H) : GFn P w K mg base (k + 1) f fd ps sp := by
  obtain ⟨oc, od, kV, doc, pm, an, cdv, ct, osl, rfl, lk, hcd⟩ := F.ex
  exact gfn_of lk hcd S len fun A outer s H vs Q E pn hr h => hbody cdv A outer s H vs Q E pn hr h
/-- all steps in order -/
def twoOf (h : Str) : List (Str × Int) := [(h, -1), (h, 1)]
def stepsOf (hs : List Str) : List (Str × Int) := hs.flatMap twoOf
open Classical in
noncomputable def safeOf (G : List Rul) (ns : List Str) (f : Str → Int) (l : List (Str × Int)) : List (Str × Int) := l.filter fun s => decide (Adm G (shift f (blkOf G ns s.1) s.2))
def StepAt (H : Hp) (t : Addr) (s : Str × Int) : Prop := H t = some (.tup [.str s.1, .int s.2])
theorem safeOf_app {G : List Rul} {ns : List Str} {f : Str → Int} {a b : List (Str × Int)} : safeOf G ns f (a ++ b) = safeOf G ns f a ++ safeOf G ns f b := List.filter_append ..
theorem safeOf_yes {G : List Rul} {ns : List Str} {f : Str → Int} {s : Str × Int} (h : Adm G (shift f (blkOf G ns s.1) s.2)) : safeOf G ns f [s] = [s] := by
  unfold safeOf
  rw [List.filter_cons, if_pos (by simp [h])]
  rfl
theorem safeOf_no {G : List Rul} {ns : List Str} {f : Str → Int} {s : Str × Int} (h : ¬ Adm G (shift f (blkOf G ns s.1) s.2)) : safeOf G ns f [s] = [] := by
  unfold safeOf
  rw [List.filter_cons, if_neg (by simp [h])]
  rfl
theorem stepsOf_len : ∀ hs : List Str, (stepsOf hs).length = 2 * hs.length
  | [] => rfl
  | h :: r => by
    have ih := stepsOf_len r
    show (twoOf h ++ stepsOf r).length = _
    rw [List.length_append, ih, List.length_cons]
    show 2 + _ = _
    omega
theorem stepsOf_snoc {hs : List Str} {h : Str} : stepsOf (hs ++ [h]) = stepsOf hs ++ twoOf h := by
  unfold stepsOf
  rw [List.flatMap_append]
  simp
theorem stepsOf_mem {hs : List Str} {s : Str × Int} (h : s ∈ stepsOf hs) : s.1 ∈ hs ∧ (s.2 = 1 ∨ s.2 = -1) := by
  unfold stepsOf at h
  obtain ⟨a, h1, h2⟩ := List.mem_flatMap.mp h
  unfold twoOf at h2
  rcases List.mem_cons.mp h2 with e | e
  · rw [e]
    exact ⟨h1, .inr rfl⟩
  · rw [List.mem_singleton.mp e]
    exact ⟨h1, .inl rfl⟩
section
variable {P : Program} {w : World} {K : PySem.W.Frag} {mg : Str → Option Value} {base : Heap}
def spSafeSteps (C : Addr) : SpG := fun vs H Q _ => ∃ (sy d : Addr) (ns : List Str) (L : List (Addr × Rul)) (f : Str → Int), vs = [.ref sy, .ref d] ∧ SysAt C H sy ns L ∧ Sound ns L ∧ AdmAt H d ns L f ∧
  ∀ (H' : Hp) (ts : List Addr), Same H H' → Paired (fun s t => StepAt H' t s) (safeOf (gapsOf L) ns f (stepsOf (heads (gapsOf L) ns))) ts → Q (ts.map V.ref) H'
theorem Tp.safeSteps (Z : Tp K mg) : GFn P w K mg base 6 Z.gSafeSteps Z.dSafeSteps ["system", "numbers"] (spSafeSteps Z.C) := by
  have T := Z.nm
  have G1 := Z.checkNumbers (P := P) (w := w) (base := base)
  have G2 := Z.namedBlocks (P := P) (w := w) (base := base)
  have G3 := Z.shifted (P := P) (w := w) (base := base)
  have G4 := Z.brokenRules (P := P) (w := w) (base := base)
  refine Fun_okGen Z.SafeSteps scSafe (fun vs H Q E h => ?_) fun cdv A outer s H vs Q E pn hr h => ?_
  · obtain ⟨sy, d, ns, L, f, rfl, _⟩ := h
    rfl
  · obtain ⟨sy, d, ns, L, f, rfl, hs, so, hd, k⟩ := h
    have hu := hu_of hr
    have nd := scSafe.nd
    refine ⟨_, gss_cons (gs_ps (ps_expr (pe_callR G1 (hr.mono (by decide)) rfl Z.imCN Z.CheckNumbers.kp pass0 (pa_cons (pv 0) (pa_cons (pv 1) pa_nil)))))
      (gss_cons (gs_ps (ps_set (i := 2) nd rfl (Or.inl rfl) (pe_d Z.NamedBlocks G2 hr rfl (pa_cons (pv 0) pa_nil))))
      (gss_cons (gs_for owns_gcx rfl (pi_list (pe_lc2 (own := [("name", 4), ("change", 5)]) (vs1 := [5]) (g := gName 4) (tt := tYes) (g1 := gName 5) (tt1 := tYes) rfl nd (pi_list (pe_callB (call_sortedD rfl) rfl T.sorted boot_sorted (pa_cons (pv 2) pa_nil)))
            (blkOk_by (N := nSafeSteps) (sc := defScope sSafeSteps) (by decide +kernel)) (by decide) (fun _ _ _ _ _ => pg_name (i := 4) nd rfl (Or.inl rfl)) (fun _ _ _ _ _ => pts_nil) (fun _ _ _ _ _ => pi_tupB K (pe_tup (pa_cons (pe_un un_neg pe_int) (pa_cons pe_int pa_nil))))
            (fun _ _ _ _ _ => pg_name (i := 5) nd rfl (Or.inl rfl)) (fun _ _ _ _ _ => pts_nil) (fun _ _ _ _ _ => pe_tup (pa_cons (pv 4) (pa_cons (pv 5) pa_nil))))) (pg_name (i := 3) nd rfl (Or.inl rfl))
        (gss_cons (gs_if (pt_cmpR (op_eqNil (Nat.lt_of_succ_lt hu)) (pe_d Z.BrokenRules G4 (hr.mono (by decide)) rfl (pa_cons (pv 0) (pa_cons (pe_d Z.Shifted G3 (hr.mono (by decide)) rfl (pa_cons (pv 1) (pa_cons (pe_dget hu (pv 2) (pat 3) (fun _ _ => rfl)) (pa_cons (pat 3) pa_nil)))) pa_nil))) (pe_lst pa_nil) (nomark _))
          (gss_cons (gs_yield (pv 3)) gss_nil) gss_nil) gss_nil)) gss_nil)), ?_⟩
    have big : (1000000 : Nat) < sizeLine := by decide
    have fH := so.fewH
    refine ⟨_, rfl, _, rfl, sy, [d], ns, L, rfl, hs, so.few3, (show (1 : Nat) < 1000 by decide), fun d' hd' => ⟨f, by rw [List.mem_singleton.mp hd']; exact hd.1, hd.2.1⟩, fun H1 e1 => ?_⟩
    refine ⟨_, rfl, sy, ns, L, f, rfl, hs.same e1, so, hd.2.2, fun H2 kd bs e2 kd0 hkd hbl => ?_⟩
    have e02 := e1.trans e2
    refine ⟨_, rfl, kd, _, heads (gapsOf L) ns, rfl, .inl hkd, nbl_keys (paired_len hbl), by omega, fun ys p hp hsd np => ?_⟩
    have ey := sorted_is hp hsd so.ordH
    subst ey
    have e3 : Same H2 (upd H2 p (.lst ((heads (gapsOf L) ns).map V.str))) := same_upd np
    have hp3 : (upd H2 p (.lst ((heads (gapsOf L) ns).map V.str))) p = some (.lst ((heads (gapsOf L) ns).map V.str)) := upd_same
    generalize upd H2 p (.lst ((heads (gapsOf L) ns).map V.str)) = H3 at e3 hp3 ⊢
    have e03 := e02.trans e3
    refine ⟨p, rfl, ⟨_, SqL.of hp3⟩, fun D hD => ?_⟩
    have nl : ∀ {H' : Hp} {t : Addr} {s : Str × Int} {xs : List V}, H' D = some (.lst xs) → StepAt H' t s → t ≠ D := fun h1 h2 z => by
      unfold StepAt at h2
      rw [z, h1] at h2
      cases h2
    refine ⟨fun i m H' => m = (heads (gapsOf L) ns).length - i ∧ i ≤ (heads (gapsOf L) ns).length ∧ Same H3 H' ∧ ∃ ts : List Addr, H' D = some (.lst (ts.map V.ref)) ∧ Paired (fun s t => StepAt H' t s) (stepsOf ((heads (gapsOf L) ns).take i)) ts, ⟨_, rfl, Nat.zero_le _, same_upd hD, [], upd_same, .nil⟩, ?_⟩
    rintro i m H4 ⟨rfl, hi, e4, ts, hts, hpr⟩
    by_cases hlt : i < (heads (gapsOf L) ns).length
    · obtain ⟨h, hq⟩ : ∃ h, (heads (gapsOf L) ns)[i]? = some h := ⟨_, List.getElem?_eq_getElem hlt⟩
      have hxi : ((heads (gapsOf L) ns).map V.str)[i]? = some (.str h) := by
        rw [List.getElem?_map, hq]
        rfl
      have hp4 := e4 _ _ hp3
      refine .inr ⟨⟨_, _, SqL.of hp4, hxi⟩, fun H'' => Same H3 H'' ∧ ∃ ts : List Addr, H'' D = some (.lst (ts.map V.ref)) ∧ Paired (fun s t => StepAt H'' t s) (stepsOf ((heads (gapsOf L) ns).take (i + 1))) ts, fun H'' p => ⟨(heads (gapsOf L) ns).length - (i + 1), by omega, rfl, hlt, p.1, p.2⟩, fun y H'' hy => ?_⟩
      obtain ⟨rfl, hy⟩ := hy
      obtain rfl : V.str h = y := Option.some.inj (hxi.symm.trans (hy _ (SqL.of hp4)))
      refine ⟨rfl, ?_⟩
      unfold tYes
      dsimp only
      rw [if_pos rfl]
      refine ⟨1, rfl, (by show 2 ≤ sizeLine; decide), fun tp htp => ⟨tp, rfl, ⟨_, SqT.of upd_same⟩, ?_⟩⟩
      have e5 : Same H'' (upd H'' tp (.tup [.int (-1), .int 1])) := same_upd htp
      have ntD : tp ≠ D := fun z => by rw [z, hts] at htp; cases htp
      refine ⟨fun j k H5 => k = 2 - j ∧ j ≤ 2 ∧ Same H3 H5 ∧ H5 tp = some (.tup [.int (-1), .int 1]) ∧ ∃ ts : List Addr, H5 D = some (.lst (ts.map V.ref)) ∧ Paired (fun s t => StepAt H5 t s) (stepsOf ((heads (gapsOf L) ns).take i) ++ (twoOf h).take j) ts,
        ⟨2, rfl, by decide, e4.trans e5, upd_same, ts, e5 _ _ hts, by rw [List.take_zero, List.append_nil]; exact paired_mono (fun _ _ q => e5 _ _ q) hpr⟩, ?_⟩
      rintro j k5 H5 ⟨rfl, hj, e5', ht5, ts5, hn5, hp5⟩
      by_cases hj2 : j < 2
      · obtain ⟨c, htj, htw⟩ : ∃ c : Int, ([.int (-1), .int 1] : List V)[j]? = some (.int c) ∧ (twoOf h).take (j + 1) = (twoOf h).take j ++ [(h, c)] := by
          match j, hj2 with
          | 0, _ => exact ⟨-1, rfl, rfl⟩
          | 1, _ => exact ⟨1, rfl, rfl⟩
        refine .inr ⟨⟨_, _, SqT.of ht5, htj⟩, fun H6 => Same H3 H6 ∧ H6 tp = some (.tup [.int (-1), .int 1]) ∧ ∃ ts : List Addr, H6 D = some (.lst (ts.map V.ref)) ∧ Paired (fun s t => StepAt H6 t s) (stepsOf ((heads (gapsOf L) ns).take i) ++ (twoOf h).take (j + 1)) ts, fun H6 p => ⟨2 - (j + 1), by omega, rfl, hj2, p⟩, fun y H6 hy => ?_⟩
        obtain ⟨rfl, hy⟩ := hy
        obtain rfl : V.int c = y := Option.some.inj (htj.symm.trans (hy _ (SqT.of ht5)))
        refine ⟨rfl, ?_⟩
        rw [if_pos rfl]
        refine ⟨_, rfl, _, rfl, (by show 2 ≤ sizeLine; decide), fun t ht => ?_⟩
        have e6 : Same H6 (upd H6 t (.tup [.str h, .int c])) := same_upd ht
        have ht6 : StepAt (upd H6 t (.tup [.str h, .int c])) t (h, c) := upd_same
        generalize upd H6 t (.tup [.str h, .int c]) = H7 at e6 ht6 ⊢
        have hn7 := e6 _ _ hn5
        have hlen : ts5.length ≤ 1000 := by
          have h1 := paired_len hp5
          rw [List.length_append, stepsOf_len, List.length_take, List.length_take] at h1
          have h2 : (twoOf h).length = 2 := rfl
          omega
        refine ⟨_, hn7, by rw [List.length_map]; omega, same_put (e5'.trans e6) hD, by rw [upd_ne ntD]; exact e6 _ _ ht5, ts5 ++ [t], by rw [upd_same, List.map_append]; rfl, ?_⟩
        rw [htw, ← List.append_assoc]
        have put : ∀ {t' : Addr} {s' : Str × Int}, StepAt H7 t' s' → StepAt (upd H7 D (.lst (ts5.map V.ref ++ [.ref t]))) t' s' := fun {t' s'} q => by
          unfold StepAt
          rw [upd_ne (nl hn7 q)]
          exact q
        exact paired_snoc (paired_mono (fun a b q => put (e6 _ _ q)) hp5) (put ht6)
      · have : j = 2 := by omega
        subst this
        refine .inl ⟨⟨_, SqT.of ht5, Nat.le_refl _⟩, e5', ts5, hn5, ?_⟩
        rw [take_snoc hq, stepsOf_snoc]
        exact hp5
    · have ei : i = (heads (gapsOf L) ns).length := by omega
      subst ei
      rw [List.take_length] at hpr
      refine .inl ⟨⟨_, SqL.of (e4 _ _ hp3), by rw [List.length_map]; exact Nat.le_refl _⟩, D, rfl, ⟨_, SqL.of hts⟩, ?_⟩
      have e04 := e03.trans e4
      have hlen : ts.length ≤ 1000 := by
        have h1 := paired_len hpr
        rw [stepsOf_len] at h1
        omega
      have lts : (stepsOf (heads (gapsOf L) ns)).length = ts.length := paired_len hpr
      refine ⟨fun i m ys σ H' => m = ts.length - i ∧ i ≤ ts.length ∧ (∃ u3 u4 u5, σ = [some (.ref sy), some (.ref d), some (.ref kd), u3, u4, u5]) ∧ Same H4 H' ∧ ∃ us : List Addr, ys = us.map V.ref ∧ Paired (fun s t => StepAt H' t s) (safeOf (gapsOf L) ns f ((stepsOf (heads (gapsOf L) ns)).take i)) us, ⟨ts.length, by simp, Nat.zero_le _, ⟨none, none, none, rfl⟩, Same.refl _, [], rfl, .nil⟩, ?_⟩
      rintro i m ys σ H5 ⟨rfl, hi5, ⟨u3, u4, u5, rfl⟩, e5, us, rfl, hus⟩
      by_cases hlt5 : i < ts.length
      · obtain ⟨s0, hs0⟩ : ∃ s0, (stepsOf (heads (gapsOf L) ns))[i]? = some s0 := ⟨_, List.getElem?_eq_getElem (by omega)⟩
        obtain ⟨t, ht, hst⟩ := paired_nth hpr hs0
        have hxi : (ts.map V.ref)[i]? = some (.ref t) := by
          rw [List.getElem?_map, ht]
          rfl
        have hts5 := e5 _ _ hts
        refine .inr ⟨⟨_, _, SqL.of hts5, hxi⟩, fun ys' σ' H' => (∃ u3 u4 u5, σ' = [some (.ref sy), some (.ref d), some (.ref kd), u3, u4, u5]) ∧ Same H4 H' ∧ ∃ us : List Addr, ys' = us.map V.ref ∧ Paired (fun s t => StepAt H' t s) (safeOf (gapsOf L) ns f ((stepsOf (heads (gapsOf L) ns)).take (i + 1))) us,
          fun ys' σ' H' p => ⟨ts.length - (i + 1), by omega, rfl, hlt5, p⟩, fun y H'' hy => ?_⟩
        obtain ⟨rfl, hy⟩ := hy
        obtain rfl : V.ref t = y := Option.some.inj (hxi.symm.trans (hy _ (SqL.of hts5)))
        have e05 := e04.trans e5
        have hsm := stepsOf_mem (List.mem_of_getElem? hs0)
        have hst5 : H'' t = some (.tup [.str s0.1, .int s0.2]) := e5 _ _ hst
        obtain ⟨b, hgb, hbb⟩ := (show KnownAt H'' kd ns L from ⟨bs, e5 _ _ (e4 _ _ (e3 _ _ hkd)), (hbl.same e3).same (e4.trans e5)⟩).get so.nd hsm.1
        refine ⟨_, rfl, _, rfl, _, rfl, _, rfl, t, _, _, _, rfl, rfl, SqT.of hst5, atI_nat (j := 0) rfl, kd, _, rfl, hgb, _, rfl, t, _, _, _, rfl, rfl, SqT.of hst5, atI_nat (j := 1) rfl, d, b, s0.2, ns, _, f, rfl, hd.1.same e05, hbb, so.ord, so.few, fun H6 q e6 q0 hq6 => ?_⟩
        refine ⟨sy, q, ns, L, _, rfl, hs.same (e05.trans e6), hq6, so.wi, so.fewL3, fun H7 r e7 r0 hr7 => ?_⟩
        refine ⟨Nat.zero_le _, fun m hm => ?_⟩
        have nrm : r ≠ m := ne_of_none hr7 hm
        refine ⟨r, m, _, rfl, rfl, SqL.of (by rw [upd_ne nrm]; exact hr7), SqL.of upd_same, _, rfl, ?_⟩
        have e8 : Same H'' (upd H7 m (.lst [])) := (e6.trans e7).trans (same_upd hm)
        have hus8 : Paired (fun s t => StepAt (upd H7 m (.lst [])) t s) (safeOf (gapsOf L) ns f ((stepsOf (heads (gapsOf L) ns)).take i)) us := paired_mono (fun a b q => e8 _ _ q) hus
        by_cases had : Adm (gapsOf L) (shift f (blkOf (gapsOf L) ns s0.1) s0.2)
        · rw [brk_nil.mpr had]
          refine iteT ⟨?_, _, rfl, ⟨_, _, _, rfl⟩, e5.trans e8, us ++ [t], by rw [List.map_append]; rfl, ?_⟩
          · rw [List.length_map]
            have h1 := paired_len hus
            have h2 : (safeOf (gapsOf L) ns f ((stepsOf (heads (gapsOf L) ns)).take i)).length ≤ ((stepsOf (heads (gapsOf L) ns)).take i).length := List.length_filter_le _ _
            have h3 := List.length_take_le' i (stepsOf (heads (gapsOf L) ns))
            omega
          · rw [take_snoc hs0, safeOf_app, safeOf_yes had]
            exact paired_snoc hus8 (e8 _ _ hst5)
        · have hb0 : (refs (brk L (shift f (blkOf (gapsOf L) ns s0.1) s0.2))).isEmpty = false := by
            cases eb : brk L (shift f (blkOf (gapsOf L) ns s0.1) s0.2) with
            | nil => exact absurd (brk_nil.mp eb) had
            | cons a b => rfl
          rw [hb0]
          refine iteF ⟨⟨_, _, _, rfl⟩, e5.trans e8, us, rfl, ?_⟩
          rw [take_snoc hs0, safeOf_app, safeOf_no had, List.append_nil]
          exact hus8
      · have ei5 : i = ts.length := by omega
        subst ei5
        rw [← lts, List.take_length] at hus
        exact .inl ⟨⟨_, SqL.of (e5 _ _ hts), by rw [List.length_map]; exact Nat.le_refl _⟩, k _ us (e04.trans e5) hus⟩
end
end K73
set_option maxHeartbeats 1000000
/-! A generator's code up to its next yield or its end: one turn. What is left of it is told by the turn's end. -/
namespace K73
open PySem PySem.Spec PyProof.Rows GenW L2
/-- the code t over the frames fs comes, from s, to an end that Φ tells -/
def Tn (M : Model) (A : Around) (c : Code) (t : Sem PySem.Fin) (fs : List Frame) (s : Shared) (Φ : End → Shared → Prop) : Prop :=
  ∀ Γ p, Γ.code = c → Γ.Woken A → ∃ e s', Runs M Γ p t fs s e s' ∧ Φ e s'
section
variable {M : Model} {A : Around} {c : Code} {fs : List Frame} {s : Shared} {Φ : End → Shared → Prop} {env : Env} {K : Flow → Sem PySem.Fin} {J : Value → Sem PySem.Fin} {gd : Bool → Bool} {lv : List Value → List Value}
theorem tn_wrap {α : Type} {m : Sem α} {K : α → Sem PySem.Fin} {J : Value → Sem PySem.Fin} {gd : Bool → Bool} {lv : List Value → List Value} (h : wpAny M (A.over c fs) m (fun a s' => Tn M A c (K a) fs s' Φ) (fun x s' => Tn M A c (J x) fs s' Φ) s) : Tn M A c (m.wrap K J gd lv) fs s Φ := by
  rintro Γ p rfl hΓ
  exact runs_wrap_of_wp K J gd lv m (h (Γ.over fs) p (hΓ.over fs)) (fun a p' s' h' => h' Γ p' rfl hΓ) fun x p' s' h' => h' Γ p' rfl hΓ
theorem tn_bind {α β : Type} {m : Sem α} {K : α → Sem β} {K' : β → Sem PySem.Fin} {J : Value → Sem PySem.Fin} {gd : Bool → Bool} {lv : List Value → List Value}
    (h : wpAny M (A.over c fs) m (fun a s' => Tn M A c ((K a).wrap K' J gd lv) fs s' Φ) (fun x s' => Tn M A c (J x) fs s' Φ) s) : Tn M A c ((m >>= K).wrap K' J gd lv) fs s Φ := by
  rw [Sem.bind_eq_wrap', Sem.wrap_wrap]
  exact tn_wrap h
theorem tn_at {p' : Pos} {k : Unit → Sem PySem.Fin} (h : Tn M A c (k ()) fs s Φ) : Tn M A c (.at p' k) fs s Φ := tn_wrap (m := standAt p') (K := k) (J := .raise) (gd := id) (lv := id) (wpAny_standAt h)
theorem tn_point {l : List Value} {k : Unit → Sem PySem.Fin} (h : Tn M A c (k ()) fs s Φ) : Tn M A c (.point l k) fs s Φ := tn_wrap (m := point) (K := k) (J := .raise) (gd := id) (lv := fun _ => l) (wpAny_point h)
theorem tn_call {c' : Code} {h : Option Value} {g : Bool} {l : List Value} {k : Result → Sem PySem.Fin} (hc : ∀ p, Tn M A c' (M.den c') (.ret k h g l c p [] :: fs) s Φ) : Tn M A c (.call c' h g l k) fs s Φ := by
  rintro Γ p rfl hΓ
  obtain ⟨e, s', hr, he⟩ := hc p (Γ.goto c') p rfl (hΓ.goto c')
  exact ⟨e, s', runs_call_seg hr, he⟩
theorem tn_leaf {k : Result → Sem PySem.Fin} {h : Option Value} {g : Bool} {l kp : List Value} {c₁ : Code} {p₁ : Pos} (r : Result) (hk : Tn M A c₁ (k r) fs s Φ) : Tn M A c (leafOf r) (.ret k h g l c₁ p₁ kp :: fs) s Φ := by
  rintro Γ p rfl hΓ
  obtain ⟨e, s', hr, he⟩ := hk (Γ.goto c₁) p₁ rfl (hΓ.goto c₁)
  exact ⟨e, s', Runs.pop r hr, he⟩
theorem tn_again {c' : Code} (hq : c'.quiet = true) (hc : Tn M A c' (M.den c') fs s Φ) : Tn M A c (.pure (.again c')) fs s Φ := by
  rintro Γ p rfl hΓ
  obtain ⟨e, s', hr, he⟩ := hc (Γ.goto c') p rfl (hΓ.goto c')
  exact ⟨e, s', Runs.head (c₁ := c') (fun _ _ x => .again hq x) hr, he⟩
theorem tn_end (r : Result) (h : Φ (.ret r) s) : Tn M A c (leafOf r) [] s Φ := by
  rintro Γ p rfl _
  exact ⟨.ret r, s, Runs.leaf r, h⟩
theorem tn_yield {v : Value} {g : Bool} {l : List Value} {k : Resume → Sem PySem.Fin} (hfs : splitAtGen fs = none) (h : ∀ p, Φ (.susp v g l k c p fs) s) : Tn M A c (.yield v g l k) fs s Φ := by
  rintro Γ p rfl _
  exact ⟨_, s, Runs.yield' fs hfs, h p⟩
theorem tn_nil (h : Tn M A c (K .next) fs s Φ) : Tn M A c ((execs [] env).wrap K J gd lv) fs s Φ := h
theorem tn_cons {st : Stmt} {rest : List Stmt} (h : Tn M A c ((exec st env).wrap (fun f => match f with | .next => (execs rest env).wrap K J gd lv | f => K f) J gd lv) fs s Φ) : Tn M A c ((execs (st :: rest) env).wrap K J gd lv) fs s Φ := by
  rw [execs_cons_wrap]
  exact h
theorem tn_exprYield {e : Expr} {ypos pos : Pos} (hfs : splitAtGen fs = none)
    (h : wpAny M (A.over c fs) (eval e env) (fun v s' => ∀ (k : Resume → Sem PySem.Fin) (l : List Value) (p : Pos), (∀ s2 Φ2, Tn M A c (K .next) fs s2 Φ2 → Tn M A c (k (.send .none)) fs s2 Φ2) → Φ (.susp v (gd false) l k c p fs) s') (fun x s' => Tn M A c (J x) fs s' Φ) s)
    (hco : env.scope.isCoroutine = false := by rfl) (hi : interactive env = false := by rfl) : Tn M A c ((exec (.Expr (.Yield (some e) ypos) pos) env).wrap K J gd lv) fs s Φ := by
  rw [exec_Expr env _ pos hi rfl]
  show Tn M A c (.at pos fun _ => ((eval e env >>= fun v => (standAt ypos >>= fun _ => yieldOut env v)) >>= fun x => dropValue (.Yield (some e) ypos) pos x).wrap K J gd lv) fs s Φ
  have hy : ∀ v, yieldOut env v = yieldValue v := fun v => by simp only [yieldOut, hco, Bool.false_eq_true, if_false]
  simp only [hy]
  refine tn_at ?_
  rw [Sem.bind_eq_wrap', Sem.bind_eq_wrap', Sem.wrap_wrap, Sem.wrap_wrap]
  refine tn_wrap (wpAny_mono h (fun v s' h' => ?_) fun _ _ x => x)
  exact tn_at (tn_yield hfs fun p => h' _ _ p fun s2 Φ2 q => q)
theorem tn_For {tg iter : Expr} {body : List Stmt} {pos : Pos}
    (h : wpAny M (A.over c fs) (eval iter env) (fun x s1 => wpAny M (A.over c fs) (pyIter x) (fun it s2 =>
        ∀ p, Tn M A (.forLoop tg it body [] env) (M.den (.forLoop tg it body [] env)) (.ret (loopBack env K J gd lv) none (gd false) (lv []) c p [] :: fs) s2 Φ) (fun x s' => Tn M A c (J x) fs s' Φ) s1)
      (fun x s' => Tn M A c (J x) fs s' Φ) s)
    (hs : ∀ x, foldedSetIterable iter env x = pure x := by intro _; rfl) :
    Tn M A c ((exec (.For tg iter body [] pos) env).wrap K J gd lv) fs s Φ := by
  rw [exec_For]
  refine tn_bind (wpAny_standAt ?_)
  refine tn_bind (wpAny_mono h (fun x s1 h1 => ?_) fun _ _ q => q)
  refine tn_bind (wpAny_of_eq (hs x) ?_)
  refine tn_bind (wpAny_standAt ?_)
  refine tn_bind (wpAny_holding (wpAny_mono h1 (fun it s2 h2 => ?_) fun _ _ q => q))
  exact tn_call h2
end
section
variable {prog : Program} {w : World} {A : Around} {fs : List Frame} {s : Shared} {env : Env} {Φ : End → Shared → Prop}
/-- what follows a loop's body -/
def bodyBack (tg : Expr) (it : Value) (body : List Stmt) (env : Env) (f : Flow) : Sem PySem.Fin := match f with
  | .next | .cont => .pure (.again (.forLoop tg it body [] env))
  | .brk => .pure (.done .next)
  | .ret v => .pure (.done (.ret v))
theorem tn_loop {tg : Expr} {it : Value} {body : List Stmt}
    (h : wpAny (model prog w) (A.over (.forLoop tg it body [] env) fs) (pyNext it) (fun r s1 => match r with
        | none => Tn (model prog w) A (.block [] env) (.pure (.done .next)) fs s1 Φ
        | some v => wpAny (model prog w) (A.over (.forLoop tg it body [] env) fs) (letOwnedTupleGo tg it v) (fun _ s2 => wpAny (model prog w) (A.over (.forLoop tg it body [] env) fs) (assign tg env v) (fun _ s3 =>
            Tn (model prog w) A (.forLoop tg it body [] env) ((execs body env).wrap (bodyBack tg it body env) (noteOut env) id id) fs s3 Φ)
            (fun x s' => Tn (model prog w) A (.forLoop tg it body [] env) (noteOut env x) fs s' Φ) s2)
          (fun x s' => Tn (model prog w) A (.forLoop tg it body [] env) (noteOut env x) fs s' Φ) s1)
      (fun x s' => Tn (model prog w) A (.forLoop tg it body [] env) (noteOut env x) fs s' Φ) s) :
    Tn (model prog w) A (.forLoop tg it body [] env) ((model prog w).den (.forLoop tg it body [] env)) fs s Φ := by
  show Tn _ A _ ((forTurn tg it body [] env).onRaise (fun x => do noteFrame x env; theTreesLotGoes x)) fs s Φ
  rw [Sem.onRaise_eq_wrap]
  unfold forTurn
  have eN : ∀ x : Value, ((do noteFrame x env; theTreesLotGoes x : Sem Unit).bind fun _ => (Sem.raise x : Sem PySem.Fin)) = noteOut env x := fun x => Sem.bind_eq_wrap _ _
  simp only [eN]
  refine tn_bind (wpAny_standAt ?_)
  refine tn_bind (wpAny_onRaise (wpAny_mono h (fun r s1 h1 => ?_) fun x s' hx => wpAny_standAt hx))
  cases r with
  | none => exact tn_again rfl h1
  | some v =>
    refine tn_bind (wpAny_mono h1 (fun _ s2 h2 => ?_) fun _ _ q => q)
    refine tn_bind (wpAny_mono h2 (fun _ s3 h3 => ?_) fun _ _ q => q)
    rw [Sem.bind_eq_wrap', Sem.wrap_wrap]
    refine Eq.mp (congrArg (fun t => Tn (model prog w) A (.forLoop tg it body [] env) t fs s3 Φ) ?_) h3
    exact Sem.wrap_congr (execs body env) id id (fun f => by cases f <;> rfl) (fun e => rfl)
theorem tn_func {body : List Stmt} (h : Tn (model prog w) A (.func body env) ((execs body env).wrap (fun f => .pure (.done (.ret (match f with | .ret v => v | _ => .none)))) (fun e => (leaving env e).wrap (fun _ => .raise e) .raise id id) id id) fs s Φ) :
    Tn (model prog w) A (.func body env) ((model prog w).den (.func body env)) fs s Φ := by
  show Tn _ A _ (.point [] fun _ => ((execs body env).onRaise (leaving env)) >>= _) fs s Φ
  refine tn_point ?_
  rw [Sem.onRaise_eq_wrap, Sem.bind_eq_wrap', Sem.wrap_wrap]
  refine Eq.mp (congrArg (fun t => Tn (model prog w) A (.func body env) t fs s Φ) ?_) h
  exact Sem.wrap_congr (execs body env) id id (fun f => by cases f <;> rfl) (fun e => by rw [Sem.bind_eq_wrap, Sem.wrap_wrap]; rfl)
end
/-- what a generator that sleeps or has not begun does when it is woken -/
def Wake (M : Model) (A : Around) (gs : GenState) (s : Shared) (Φ : End → Shared → Prop) : Prop := match gs with
  | .fresh c => Tn M A c (M.den c) [] s Φ
  | .suspended k _ c _ fs _ => Tn M A c (k (.send .none)) fs s Φ
  | _ => False
section
variable {M : Model} {A : Around} {E : Value → Shared → Prop} {s : Shared} {g : Nat} {gs : GenState}
theorem resume_tn {l : List Value} {α : Type} {k : GenResult → Sem α} {Q : α → Shared → Prop} {Φ : End → Shared → Prop} (hg : s.gens[g]? = some gs) (hgo : Wake M A gs (s.setGen g .running) Φ) (hqt : ∀ e s1, Φ e s1 → e.quiet = true)
    (h : ∀ e s1, Φ e s1 → wpAny M A (k e.result) Q E (s1.setGen g e.genState)) : wpAny M A (.resume g (.send .none) l k) Q E s := by
  intro Γ p hΓ
  rw [Sem.wp_resume]
  have hB : ∀ c, (Γ.wake c p).Woken A := fun c => hΓ.wake c p
  cases gs with
  | fresh c =>
    obtain ⟨e1, s1, hr, he⟩ := hgo (Γ.wake c p) p rfl (hB c)
    exact ⟨_, _, by unfold Wakes; rw [hg]; exact ⟨e1, s1, hr, hqt e1 s1 he, rfl, rfl⟩, h e1 s1 he Γ p hΓ⟩
  | suspended k0 l0 c0 p0 fs0 cl =>
    obtain ⟨e1, s1, hr, he⟩ := hgo (Γ.wake c0 p) p0 rfl (hB c0)
    exact ⟨_, _, by unfold Wakes; rw [hg]; exact ⟨e1, s1, hr, hqt e1 s1 he, rfl, rfl⟩, h e1 s1 he Γ p hΓ⟩
  | running => exact hgo.elim
  | finished => exact hgo.elim
end
section
variable {P : Program} {w : World} {A : Around} {E : Value → Shared → Prop} {s : Shared}
/-- next(g): an item, or the end -/
theorem next_tn {a : Addr} {g : Nat} {gs : GenState} {Φ : End → Shared → Prop} {Q : Option Value → Shared → Prop} (hh : A.handled = none) (hl : s.heap.NoLimit) (hroom : A.depth < recursionLimit) (hg : s.heap.IsGen a g) (hgs : s.gens[g]? = some gs)
    (hgo : Wake (model P w) A.in1 gs (s.setGen g .running) Φ)
    (hΦ : ∀ e s1, Φ e s1 → (e = .ret (.ok (.ret .none)) ∧ ∀ h', (∀ b o, s1.heap.get? b = some o → h'.get? b = some o) → Q none { s1.setGen g .finished with heap := h' }) ∨
      ∃ v gd l k c p fs, e = .susp v gd l k c p fs ∧ e.quiet = true ∧ Q (some v) (s1.setGen g e.genState)) :
    wpAny (model P w) A (pyNext (.ref a)) Q E s := by
  unfold pyNext
  refine wpAny_bind (wpAny_attempt (wpAny_callSpecial?_slot (name := Str.ofString "__next__") hg.typeIs slot_gen_next
    (wpAny_call_entry slot_gen_next hg.typeIs entry_gen_next ?_ (args_gen_next _))))
  show wpAny _ A.in1 (Builtin.Generator.genWake (.ref a) (.send .none)) _ _ s
  unfold Builtin.Generator.genWake
  refine wpAny_bind (wpAny_holding (wpAny_genNumber hg (wpAny_bind (wpAny_genState hgs ?_))))
  have main : Wake (model P w) A.in1 gs (s.setGen g .running) Φ → ∀ {α : Type} {k : GenResult → Sem α} {Q' : α → Shared → Prop} {E' : Value → Shared → Prop}, (∀ e s1, Φ e s1 → wpAny (model P w) A.in1 (k e.result) Q' E' (s1.setGen g e.genState)) → wpAny (model P w) A.in1 (.resume g (.send .none) [] k) Q' E' s := fun hgo {α k Q' E'} hk =>
    resume_tn hgs hgo (fun e s1 h => by
      rcases hΦ e s1 h with ⟨rfl, _⟩ | ⟨_, _, _, _, _, _, _, _, q, _⟩
      · rfl
      · exact q) hk
  cases gs with
  | running => exact hgo.elim
  | finished => exact hgo.elim
  | _ =>
    refine wpAny_bind (wpAny_roomToWake hl hroom ?_)
    show wpAny _ A.in1 (.resume g (.send .none) [] _) _ _ s
    refine main hgo fun e s1 h => ?_
    rcases hΦ e s1 h with ⟨rfl, hq⟩ | ⟨v, gd, l, k, c, p, fs, rfl, _, hq⟩
    · show wpAny _ A.in1 (newExc (.type "StopIteration") [] >>= _) _ _ _
      refine wpAny_bind ?_
      simp only [newExc, newTuple]
      refine wpAny_bind (wpAny_newObj_type ?_ (by size_fits))
      refine wpAny_bind (m := firstArgMember _ _) (wpAny_of_eq (a := Value.none) (by first | rfl | (simp only [firstArgMember]; rfl)) ?_)
      refine wpAny_newObj_type ?_ (by size_fits)
      simp only [raiseNew]
      refine wpAny_bind (wpAny_bind (wpAny_handled ?_))
      first | rw [show A.in1.handled = none from hh] | rw [hh]
      refine wpAny_throw ?_
      refine wpAny_bind (wpAny_isInstance (T := "StopIteration") (b := true) ⟨_, Heap.get?_push_size _ rfl, rfl⟩ isSubtype_stop ?_)
      exact wpAny_pure (hq _ fun b o hb => Heap.get?_push_of_some _ (Heap.get?_push_of_some _ hb))
    · exact wpAny_pure ⟨v, rfl, wpAny_pure hq⟩
end
end K73
set_option maxHeartbeats 1000000
/-! A generator's frame between its turns: the caller's own objects may have changed, its own stand as they stood. -/
namespace K73
open PySem PySem.Spec PyProof.Rows GenW L2
/-- the objects below n -/
def tr (n : Nat) (h : Heap) : Heap := { h with objs := h.objs.extract 0 n }
theorem tr_lt {n : Nat} {h : Heap} {b : Addr} (hb : b < n) : (tr n h).get? b = h.get? b := by
  unfold tr Heap.get?
  dsimp only
  rw [Array.getElem?_extract]
  have hb1 : @LT.lt Nat _ b n := hb
  by_cases e : @LT.lt Nat _ b h.objs.size
  · rw [if_pos (show @LT.lt Nat _ b (min n h.objs.size - 0) by omega), Nat.zero_add]
  · rw [if_neg (show ¬ @LT.lt Nat _ b (min n h.objs.size - 0) by omega), Array.getElem?_eq_none (show @LE.le Nat _ h.objs.size b by omega)]
theorem tr_some {n : Nat} {h : Heap} {b : Addr} {o : Obj} (e : (tr n h).get? b = some o) : b < n ∧ h.get? b = some o := by
  have hb : b < n := by
    have := Heap.lt_size e
    have hs : (tr n h).objs.size ≤ n := by
      show (h.objs.extract 0 n).size ≤ n
      rw [Array.size_extract]
      omega
    exact Nat.lt_of_lt_of_le this hs
  exact ⟨hb, (tr_lt hb).symm.trans e⟩
theorem tr_size {n : Nat} {h : Heap} (hn : n ≤ h.objs.size) : (tr n h).objs.size = n := by
  show (h.objs.extract 0 n).size = n
  rw [Array.size_extract]
  omega
def cut (n : Nat) (s : Shared) : Shared := { s with heap := tr n s.heap }
theorem funFrames_at {h h' base : Heap} : ∀ {l : List Env}, h.FunFrames base l → (∀ b ∈ frs l, ∀ o, h.get? b = some o → h'.get? b = some o) → h'.FunFrames base l
  | [], _, _ => trivial
  | env :: rest, ⟨h1, ⟨L, o, e1, e2, e3, e4⟩, h2⟩, k => by
    have hfr : frs (env :: rest) = L :: frs rest := by
      unfold frs
      rw [List.filterMap_cons, e1]
    refine ⟨h1, ⟨L, o, e1, e2, k L (by rw [hfr]; exact .head _) o e3, e4⟩, funFrames_at h2 fun b hb o' e => k b (by rw [hfr]; exact .tail _ hb) o' e⟩
/-- the context of a turn: n0 is the frame's own address, s0, H0: where the turn began -/
def mx (P : Program) (w : World) (K : PySem.W.Frag) (mg : Str → Option Value) (base : Heap) (N : List Str) (qual : Str) (scope : Scope) (f : Addr) (cd : Value) (A : Around) (outer : List Env) (n0 : Nat) (s0 : Shared) (H0 : Hp) (pl : List (Addr × Obj)) : Cx where
  prog := P
  w := w
  K := K
  mg := mg
  base := base
  A := A.deeper (envOfC qual scope n0 f cd)
  N := N
  s_0 := s0
  H_0 := H0
  env := envOfC qual scope n0 f cd
  outer := outer
  stack := envOfC qual scope n0 f cd :: outer
  ex := []
  calm := true
  fn := fun _ => true
  pn := pl
  xe := fun _ _ => False
section
variable {P : Program} {w : World} {K : PySem.W.Frag} {mg : Str → Option Value} {base : Heap} {N : List Str} {qual : Str} {scope : Scope} {f : Addr} {cd : Value} {A A0 : Around} {outer : List Env} {n0 : Nat} {s0 s1 : Shared} {H0 H1 : Hp} {pl ip : List (Addr × Obj)} {σ : L2.St}
/-- a later state: what the generator tracked stands, its own records (priv) and the pins (pl) are as they were -/
structure Later (P : Program) (w : World) (K : PySem.W.Frag) (mg : Str → Option Value) (base : Heap) (A : Around) (outer : List Env) (n0 : Nat) (priv pl : List (Addr × Obj)) (Hg : Hp) (s : Shared) (H : Hp) : Prop where
  e0 : Env0 P w K mg base A outer s H
  sz : n0 ≤ s.heap.objs.size
  keep : ∀ p ∈ priv ++ pl, s.heap.get? p.1 = some p.2 ∧ H p.1 = none
  same : Same Hg H
theorem wake_inv (I : Inv (mx P w K mg base N qual scope f cd A outer n0 s0 H0 pl) ip σ H1 s1) (hc : ∀ x c, (envOfC qual scope n0 f cd).cells.lookup x = some c → False) (hfr : ∀ b ∈ frs outer, b < n0) (hbz : base.objs.size ≤ n0) :
    ∃ o, s1.heap.get? n0 = some o ∧ H1 n0 = none ∧ (∀ v, o.data ≠ .cell v) ∧ ∀ pl2 s H, (∀ p ∈ pl2, p.1 ≠ n0 ∧ p.1 ∉ frs outer ∧ ∀ v, p.2.data ≠ .cell v) → Later P w K mg base A0 outer n0 ((n0, o) :: ip) pl2 H1 s H → Inv (mx P w K mg base N qual scope f cd A outer n0 (cut n0 s) H pl2) ip σ H s := by
  obtain ⟨m, ⟨o, es, ep, ho, hd, hk, hf⟩, hl⟩ := id I.loc
  have hf0 : H1 n0 = none := I.free
  refine ⟨o, ho, hf0, fun v q => (by rw [hd] at q; cases q), fun pl2 s H hpl la => ?_⟩
  have e0 := la.e0
  have kp := la.keep
  have hsz : (cut n0 s).heap.objs.size = n0 := tr_size la.sz
  refine ⟨⟨e0.mod, I.ok.kind, I.ok.glob, I.ok.blt, ?_, I.ok.inj, I.ok.has, fun x c _ h => (hc x c h).elim, I.ok.hd, I.ok.frames, I.ok.stk, fun b hb => (by cases hb), fun b ob e => ?_, ?_, fun _ _ _ hb => (by cases hb), fun b hb => (by cases hb), ?_, e0.frf⟩, rfl, e0.bare, ?_, ?_, fun x c h => (hc x c h).elim, ?_, fun x c h => (hc x c h).elim, fun p hp => ?_, e0.hok, I.len⟩
  · show (cut n0 s).heap.objs.size ≤ n0
    rw [hsz]
    exact Nat.le_refl _
  · have hb : b < n0 := Nat.lt_of_lt_of_le (Heap.lt_size e) hbz
    exact ⟨(tr_lt hb).trans (e0.bs b ob e).1, (e0.bs b ob e).2⟩
  · show base.objs.size ≤ (cut n0 s).heap.objs.size
    rw [hsz]
    exact hbz
  · exact funFrames_at e0.funs fun b hb o' e => (tr_lt (hfr b hb)).trans e
  · exact ⟨fun b o e _ _ _ => (tr_some e).2, fun b o e _ _ _ => ⟨o.slots, (tr_some e).2⟩, fun _ _ _ n _ => n, fun b o e _ => ⟨o, (tr_some e).2⟩, fun _ _ e => e, fun _ _ _ e => e, fun b ps e => ⟨#[], (by have e : H b = some (.tbl ps) := e; rw [e]; simp)⟩⟩
  · refine ⟨m, ⟨o, es, ep, (kp (n0, o) (.head _)).1, hd, hk, hf⟩, fun i x v h1 h2 h3 => ?_⟩
    obtain ⟨u, rv, lk⟩ := hl i x v h1 h2 h3
    refine ⟨u, rv, ?_⟩
    rcases lk with lk | ⟨_, c, lk, _⟩
    · exact .inl lk
    · exact (hc x c lk).elim
  · exact (kp (n0, o) (.head _)).2
  · have hp' : p ∈ ((n0, o) :: ip) ++ pl2 := by
      rcases List.mem_append.mp hp with z | z
      · exact List.mem_append_right _ z
      · exact List.mem_append_left _ (.tail _ z)
    have g345 : p.1 ≠ n0 ∧ p.1 ∉ frs outer ∧ ∀ v, p.2.data ≠ .cell v := by
      rcases List.mem_append.mp hp with z | z
      · exact hpl p z
      · obtain ⟨_, _, g3, g4, g5⟩ := I.pin p (List.mem_append_right _ z)
        exact ⟨g3, g4, g5⟩
    exact ⟨(kp p hp').1, (kp p hp').2, g345⟩
/-- what a turn left, told of where it began -/
structure Rel (P : Program) (w : World) (outer : List Env) (n0 : Nat) (pl : List (Addr × Obj)) (s : Shared) (H : Hp) (s1 : Shared) (H1 : Hp) : Prop where
  os : s1.os = s.os
  bare : AllBare s1.gens
  un : Un (frs outer) [] H H1 (tr n0 s.heap) s1.heap
  hok : HOk P w H1 s1.heap
  same : Same H H1
  keep : ∀ p ∈ pl, s1.heap.get? p.1 = some p.2 ∧ H1 p.1 = none
  sz : n0 ≤ s1.heap.objs.size
theorem rel_of {s : Shared} {H : Hp} (I : Inv (mx P w K mg base N qual scope f cd A outer n0 (cut n0 s) H pl) ip σ H1 s1) (sm : Same H H1) : Rel P w outer n0 pl s H s1 H1 :=
  ⟨I.os, I.bare, I.base, I.hok, sm, fun p hp => ⟨(I.pin p (List.mem_append_left _ hp)).1, (I.pin p (List.mem_append_left _ hp)).2.1⟩, Nat.le_of_lt I.lt⟩
/-- the caller's own frame behind a turn -/
theorem Inv.behind {X : Cx} {pins : List (Addr × Obj)} {σ : L2.St} {H H1 : Hp} {s s1 : Shared} {n0 : Nat} (I : Inv X pins σ H s) (r : Rel X.prog X.w X.stack n0 (X.pn ++ pins) s H s1 H1) (hL : X.env.locals < n0) (hcl : ∀ x c, X.env.cells.lookup x = some c → c < n0) (h0 : X.s_0.heap.objs.size ≤ n0) (hfs : ∀ b ∈ X.fs, b < n0) : Inv X pins σ H1 s1 := by
  obtain ⟨hh, g, d, t, os⟩ := s1
  obtain ⟨r1, r2, r3, r4, r5, r6, r7⟩ := r
  obtain rfl : os = s.os := r1
  -- whatever is no pin and not below n0 may have changed
  have inCh : ∀ b, b ∈ (List.range s.heap.objs.size).filter (fun b => decide (n0 ≤ b) && !(X.pn ++ pins).any fun p => decide (p.1 = b)) → n0 ≤ b ∧ ∀ p ∈ X.pn ++ pins, p.1 ≠ b := fun b hb => by
    have h := (List.mem_filter.mp hb).2
    rw [Bool.and_eq_true] at h
    refine ⟨of_decide_eq_true h.1, fun p hp e => ?_⟩
    have h2 : (X.pn ++ pins).any (fun p => decide (p.1 = b)) = true := List.any_eq_true.mpr ⟨p, hp, decide_eq_true e⟩
    rw [h2] at h
    cases h.2
  have notCh : ∀ b o, s.heap.get? b = some o → b ∉ (List.range s.heap.objs.size).filter (fun b => decide (n0 ≤ b) && !(X.pn ++ pins).any fun p => decide (p.1 = b)) → b < n0 ∨ ∃ p ∈ X.pn ++ pins, p.1 = b := fun b o e hb => by
    by_cases hn : b < n0
    · exact .inl hn
    · refine .inr (Classical.byContradiction fun z => hb (List.mem_filter.mpr ⟨List.mem_range.mpr (Heap.lt_size e), ?_⟩))
      rw [Bool.and_eq_true]
      refine ⟨decide_eq_true (Nat.le_of_not_lt hn), ?_⟩
      rw [Bool.not_eq_true', List.any_eq_false]
      intro p hp q
      exact z ⟨p, hp, of_decide_eq_true q⟩
  have pinAt : ∀ b o, s.heap.get? b = some o → (∃ p ∈ X.pn ++ pins, p.1 = b) → hh.get? b = some o ∧ H b = none ∧ H1 b = none := fun b o e ⟨p, hp, eb⟩ => by
    subst eb
    have h1 := I.pin p hp
    rw [h1.1] at e
    cases e
    exact ⟨(r6 p hp).1, h1.2.1, (r6 p hp).2⟩
  have old : ∀ b o, s.heap.get? b = some o → b < n0 → (tr n0 s.heap).get? b = some o := fun b o e h => (tr_lt h).trans e
  refine I.step (ch := (List.range s.heap.objs.size).filter (fun b => decide (n0 ≤ b) && !(X.pn ++ pins).any fun p => decide (p.1 = b))) (fun b hb => ?_) (fun b o hL' hb hc e n => ?_) (fun b o hL' hb hc e n => ?_) (fun b o hc e n => ?_) (fun b o hc e => ?_) r3.tups r3.frzs r3.tbls (fun m hm => ?_) r4 r2
  · obtain ⟨h1, h2⟩ := inCh b hb
    refine ⟨.inr (Nat.le_trans h0 h1), fun z => ?_, fun x c hx z => ?_, h2⟩
    · rw [z] at h1
      exact absurd hL (Nat.not_lt.mpr h1)
    · rw [← z] at h1
      exact absurd (hcl x c hx) (Nat.not_lt.mpr h1)
  · rcases notCh b o e hc with h | h
    · exact r3.keep b o (old b o e h) n (fun z => (List.mem_cons.mp (I.stkSub b z)).elim hL' hb) (by simp)
    · exact (pinAt b o e h).1
  · exact r3.any (old b o e (hfs b hb)) n (by simp)
  · rcases notCh b o e hc with h | h
    · exact r3.free b o (old b o e h) n (by simp)
    · exact (pinAt b o e h).2.2
  · rcases notCh b o e hc with h | h
    · exact r3.there b o (old b o e h) (by simp)
    · exact ⟨o, (pinAt b o e h).1⟩
  · obtain ⟨o, es, ep, ho, q⟩ := hm
    obtain ⟨sl, h2⟩ := r3.any (old _ o ho hL) I.free (by simp)
    exact ⟨_, es, ep, h2, q⟩
end
end K73
set_option maxHeartbeats 4000000
/-! moments: the generator's turns. -/
namespace K73
open PySem PySem.Spec PyProof.Rows GenW L2
theorem scMom : GScope nMoments ["system", "old", "new"] (defScope sMoments) := ⟨rfl, rfl, rfl, by decide +kernel, rfl, by decide +kernel, by decide +kernel⟩
/-- what the turns bring: the steps st from the numbers f on -/
def Out (P : Program) (w : World) (K : PySem.W.Frag) (mg : Str → Option Value) (base : Heap) (A : Around) (outer : List Env) (n0 : Nat) (pl : List (Addr × Obj)) (G : List Rul) (ns : List Str) : List (Str × Int) → (Str → Int) → Shared → Hp → End → Shared → Prop
  | [], _, s, H, e, s1 => ∃ H1, e = .ret (.ok (.ret .none)) ∧ Rel P w outer n0 pl s H s1 H1
  | st :: rest, f, s, H, e, s1 => ∃ (H1 : Hp) (x : Addr) (gd : Bool) (l : List Value) (k : Resume → Sem PySem.Fin) (cc : Code) (p : Pos) (fs : List Frame) (priv : List (Addr × Obj)), e = .susp (.ref x) gd l k cc p fs ∧ e.quiet = true ∧ Rel P w outer n0 pl s H s1 H1 ∧ H x = none ∧
      PtAt H1 x ns (shift f (blkOf G ns st.1) st.2) ∧ (∀ q ∈ priv, n0 ≤ q.1 ∧ s1.heap.get? q.1 = some q.2 ∧ H1 q.1 = none ∧ ∀ v, q.2.data ≠ .cell v) ∧
      ∀ s2 H2, Later P w K mg base A outer n0 priv pl H1 s2 H2 → Tn (model P w) A cc (k (.send .none)) fs s2 (Out P w K mg base A outer n0 pl G ns rest (shift f (blkOf G ns st.1) st.2) s2 H2)
def momFor : Stmt := (defBody sMoments).getD 3 (.Pass ⟨0, 0, 0, 0⟩)
def momTg : Expr := match momFor with
  | .For tg _ _ _ _ => tg
  | _ => .Constant .none 0 ⟨0, 0, 0, 0⟩
def momIt : Expr := match momFor with
  | .For _ it _ _ _ => it
  | _ => .Constant .none 0 ⟨0, 0, 0, 0⟩
def momBd : List Stmt := match momFor with
  | .For _ _ bd _ _ => bd
  | _ => []
def momB1 : Stmt := momBd.getD 0 (.Pass ⟨0, 0, 0, 0⟩)
def momE : Expr := match momBd.getD 1 (.Pass ⟨0, 0, 0, 0⟩) with
  | .Expr (.Yield (some e) _) _ => e
  | _ => .Constant .none 0 ⟨0, 0, 0, 0⟩
theorem momBd_eq : ∃ yp ep, momBd = [momB1, .Expr (.Yield (some momE) yp) ep] := ⟨_, _, rfl⟩
theorem momBody : ∃ s0 s1 s2 pos, defBody sMoments = [s0, s1, s2, .For momTg momIt momBd [] pos] := ⟨_, _, _, _, rfl⟩
section
variable {P : Program} {w : World} {K : PySem.W.Frag} {mg : Str → Option Value} {base : Heap} (Z : Tp K mg) (cdv : Value) (A : Around) (outer : List Env) (n0 : Nat) (pl : List (Addr × Obj))
/-- the context of moments' turns -/
abbrev mX (P : Program) (w : World) (base : Heap) (s0 : Shared) (H0 : Hp) : Cx := mx P w K mg base nMoments "moments" (defScope sMoments) Z.gMoments cdv A outer n0 s0 H0 pl
theorem mom_assign (s0 : Shared) (H0 : Hp) : ∃ g, PG (mX Z cdv A outer n0 pl P w base s0 H0) momTg g ∧ ∀ (t : Addr) (h : Str) (c : Int) (a0 a1 a2 a3 a4 a5 a6 a7 : Option V) (H : Hp) (Q : L2.St → Hp → Prop), H t = some (.tup [.str h, .int c]) →
    Q [a0, a1, a2, a3, a4, a5, some (.str h), some (.int c)] H → g (.ref t) [a0, a1, a2, a3, a4, a5, a6, a7] H Q := by
  have nd := scMom.nd
  refine ⟨_, pg_tup rfl (pgs_cons (pg_name (i := 6) nd rfl (Or.inl rfl)) (pgs_cons (pg_name (i := 7) nd rfl (Or.inl rfl)) pgs_nil)), fun t h c a0 a1 a2 a3 a4 a5 a6 a7 H Q ht q => ?_⟩
  exact ⟨t, _, rfl, SqT.of ht, rfl, _, _, rfl, _, _, rfl, ⟨rfl, q⟩⟩
theorem mom_b1 (hr : Room 1 (A.deeper (envOfC "moments" (defScope sMoments) n0 Z.gMoments cdv))) (s0 : Shared) (H0 : Hp) : ∃ t, PS (mX Z cdv A outer n0 pl P w base s0 H0) momB1 t ∧ ∀ (kd nA : Addr) (ns : List Str) (L : List (Addr × Rul)) (f : Str → Int) (h : Str) (c : Int) (a0 a1 a2 a3 : Option V) (H : Hp) (D : L2.Ends), Sound ns L → KnownAt H kd ns L →
    PtAt H nA ns f → h ∈ heads (gapsOf L) ns → (∀ H' n2, Same H H' → PtAt H' n2 ns (shift f (blkOf (gapsOf L) ns h) c) → D.nx [a0, a1, a2, a3, some (.ref kd), some (.ref n2), some (.str h), some (.int c)] H') → t D [a0, a1, a2, a3, some (.ref kd), some (.ref nA), some (.str h), some (.int c)] H := by
  have nd := scMom.nd
  have hu : (mX Z cdv A outer n0 pl P w base s0 H0).A.units + 1 < cLine := hu_of hr
  have G := Z.shifted (P := P) (w := w) (base := base)
  refine ⟨_, ps_set (i := 5) nd rfl (Or.inl rfl) (pe_d Z.Shifted G hr rfl (pa_cons (pv 5) (pa_cons (pe_dget hu (pv 4) (pv 6) (fun _ _ => rfl)) (pa_cons (pv 7) pa_nil)))), fun kd nA ns L f h c a0 a1 a2 a3 H D so hk hn hh q => ?_⟩
  obtain ⟨b, hgb, hbl⟩ := hk.get so.nd hh
  exact ⟨_, rfl, _, rfl, _, rfl, kd, _, rfl, hgb, _, rfl, nA, b, c, ns, _, f, rfl, hn, hbl, so.ord, so.few, fun H5 n2 e5 n20 hn2 => q H5 n2 e5 hn2⟩
theorem mom_e (s0 : Shared) (H0 : Hp) : ∃ t, PE (mX Z cdv A outer n0 pl P w base s0 H0) momE t ∧ ∀ (nA : Addr) (ns : List Str) (f : Str → Int) (a0 a1 a2 a3 a4 a6 a7 : Option V) (H : Hp) (Q : VK), PtAt H nA ns f → (∀ x, H x = none → Q (.ref x) (upd H x (.dK (pt ns f)))) → t [a0, a1, a2, a3, a4, some (.ref nA), a6, a7] H Q := by
  have T := Z.nm
  refine ⟨_, pe_callTy call_dictD rfl T.dict boot_dict (pa_cons (pv 5) pa_nil), fun nA ns f a0 a1 a2 a3 a4 a6 a7 H Q hn q => ?_⟩
  exact ⟨_, rfl, nA, _, rfl, .inl hn, fun x hx => q x hx⟩
theorem tr_le {n : Nat} {h : Heap} : (tr n h).objs.size ≤ n := by
  show (h.objs.extract 0 n).size ≤ n
  rw [Array.size_extract]
  omega
theorem paired_nth' {α β : Type} {F : α → β → Prop} : ∀ {xs : List α} {ys : List β} {i : Nat} {y : β}, Paired F xs ys → ys[i]? = some y → ∃ x, xs[i]? = some x ∧ F x y
  | _, _, _, _, .nil, h => by simp at h
  | _, _, 0, _, .cons a _, h => ⟨_, rfl, by rw [← Option.some.inj h]; exact a⟩
  | _, _, i + 1, _, .cons _ t, h => paired_nth' (i := i) t h
/-- the loop of moments, from any turn's begin on -/
theorem mom_loop (hr : Room 1 (A.deeper (envOfC "moments" (defScope sMoments) n0 Z.gMoments cdv))) (hcell : ∀ x c, (envOfC "moments" (defScope sMoments) n0 Z.gMoments cdv).cells.lookup x = some c → False) (hfr : ∀ b ∈ frs outer, b < n0) (hbz : base.objs.size ≤ n0)
    (hpl : ∀ p ∈ pl, p.1 ≠ n0 ∧ p.1 ∉ frs outer ∧ ∀ v, p.2.data ≠ .cell v) {c0 : Code} {K1 : Flow → Sem PySem.Fin} {J1 : Value → Sem PySem.Fin} {pp : Pos} (hov : A.over c0 [] = A.deeper (envOfC "moments" (defScope sMoments) n0 Z.gMoments cdv))
    (hend : ∀ (Φ : End → Shared → Prop) (s1 : Shared), Φ (.ret (.ok (.ret .none))) s1 → Tn (model P w) A c0 (K1 .next) [] s1 Φ) {itA p kd : Addr} {fp : List Addr} {tn : Nat → Heap → Prop} (T : Turn P w K momTg (Itl K p) fp itA tn) (hfp : ∀ b ∈ fp, b ≠ n0 ∧ b ∉ frs outer ∧ n0 ≤ b ∧ ∀ q ∈ pl, q.1 ≠ b)
    {ns : List Str} {L : List (Addr × Rul)} {g : Str → Int} (so : Sound ns L) {ts : List Addr} {all : List (Str × Int)} {a0 a1 a2 : Option V} :
    ∀ (rest : List (Str × Int)) (f : Str → Int) (i : Nat) (sB : Shared) (HB : Hp) (s : Shared) (H : Hp) (nA : Addr) (u6 u7 : Option V), Inv (mX Z cdv A outer n0 pl P w base (cut n0 sB) HB) [] [a0, a1, a2, some (.ref p), some (.ref kd), some (.ref nA), u6, u7] H s → Same HB H → tn i s.heap → (∀ b ∈ fp, H b = none) →
      KnownAt H kd ns L → H p = some (.lst (ts.map V.ref)) → Paired (fun t (s : Str × Int) => H t = some (.tup [.str s.1, .int s.2])) ts all → all.drop i = rest → Way (gapsOf L) ns g f rest → PtAt H nA ns f →
      Tn (model P w) A (.forLoop momTg (.ref itA) momBd [] (envOfC "moments" (defScope sMoments) n0 Z.gMoments cdv)) ((model P w).den (.forLoop momTg (.ref itA) momBd [] (envOfC "moments" (defScope sMoments) n0 Z.gMoments cdv)))
        [.ret (loopBack (envOfC "moments" (defScope sMoments) n0 Z.gMoments cdv) K1 J1 id id) none (id false) (id []) c0 pp []] s (Out P w K mg base A outer n0 pl (gapsOf L) ns rest f sB HB) := by
  have hovL : A.over (.forLoop momTg (.ref itA) momBd [] (envOfC "moments" (defScope sMoments) n0 Z.gMoments cdv)) [.ret (loopBack (envOfC "moments" (defScope sMoments) n0 Z.gMoments cdv) K1 J1 id id) none (id false) (id []) c0 pp []] = A.deeper (envOfC "moments" (defScope sMoments) n0 Z.gMoments cdv) :=
    (over_loop rfl rfl).trans hov
  have fpok : ∀ {sB : Shared} {HB H : Hp}, (∀ b ∈ fp, H b = none) → ∀ b ∈ fp, FpOk (mX Z cdv A outer n0 pl P w base (cut n0 sB) HB) [] H b := fun hn b hb => by
    obtain ⟨h1, h2, h3, h4⟩ := hfp b hb
    refine ⟨hn b hb, h1, h2, .inr (Nat.le_trans tr_le h3), fun x c hx => (hcell x c hx).elim, fun q hq => ?_⟩
    rcases List.mem_append.mp hq with z | z
    · exact h4 q z
    · cases z
  intro rest
  induction rest with
  | nil =>
    intro f i sB HB s H nA u6 u7 I sm ht hn hk hp hts hall hw hnA
    refine tn_loop ?_
    rw [hovL]
    have hlen : (ts.map V.ref).length ≤ i := by
      rw [List.length_map, paired_len hts]
      exact List.drop_eq_nil_iff.mp hall
    refine wpAny_mono (T.done (mX Z cdv A outer n0 pl P w base (cut n0 sB) HB) rfl rfl rfl rfl i [] s _ H (fun _ _ => False) I (fpok hn) ht ⟨_, SqL.of hp, hlen⟩) (fun r s4 ⟨hr4, I4⟩ => ?_) fun x s' hx => hx.elim
    subst hr4
    exact tn_leaf (.ok .next) (hend _ s4 ⟨H, rfl, rel_of I4 sm⟩)
  | cons st rest ih =>
    intro f i sB HB s H nA u6 u7 I sm ht hn hk hp hts hall hw hnA
    obtain ⟨yp, ep, hbd⟩ := momBd_eq
    have hst : all[i]? = some st := by
      rw [← Nat.add_zero i, ← List.getElem?_drop, hall]
      rfl
    have hall2 : all.drop (i + 1) = rest := by
      rw [← List.drop_drop, hall]
      rfl
    obtain ⟨t, htq, hT⟩ := paired_nth' hts hst
    have hxi : (ts.map V.ref)[i]? = some (.ref t) := by
      rw [List.getElem?_map, htq]
      rfl
    cases hw with
    | @cons _ h _ hh hfg had hrest =>
    refine tn_loop ?_
    rw [hovL]
    refine wpAny_mono (T.item (mX Z cdv A outer n0 pl P w base (cut n0 sB) HB) rfl rfl rfl rfl i [] s _ H (fun _ _ => False) I (fpok hn) ht ⟨_, _, SqL.of hp, hxi⟩) (fun r s4 ⟨u, hr4, h4⟩ => ?_) fun x s' hx => hx.elim
    subst hr4
    refine wpAny_mono h4 (fun _ s5 ⟨x5, H5, I5, r5, y5, st5, fr5⟩ => ?_) fun x s' hx => hx.elim
    obtain ⟨rfl, y5⟩ := y5
    obtain rfl : V.ref t = x5 := Option.some.inj (hxi.symm.trans (y5 _ (SqL.of hp)))
    have I5' := I5.pinned (fpok fr5) (T.obj _ _ st5)
    obtain ⟨gM, hgM, qM⟩ := mom_assign (P := P) (w := w) (base := base) Z cdv A outer n0 pl (cut n0 sB) HB
    refine wpAny_mono (hgM.run _ s5 _ H5 (.ref t) u _ I5' r5 (qM t h (way f g h) _ _ _ _ _ _ _ _ H5 (fun σ' H' => σ' = [a0, a1, a2, some (.ref p), some (.ref kd), some (.ref nA), some (.str h), some (.int (way f g h))] ∧ H' = H5) hT ⟨rfl, rfl⟩)) (fun _ s6 ⟨σ6, H6, I6, e6, e6'⟩ => ?_) fun x s' hx => hx.elim
    subst e6 e6'
    have ebd : execs momBd (envOfC "moments" (defScope sMoments) n0 Z.gMoments cdv) = execs [momB1, .Expr (.Yield (some momE) yp) ep] (envOfC "moments" (defScope sMoments) n0 Z.gMoments cdv) := by rw [hbd]
    rw [ebd]
    refine tn_cons ?_
    obtain ⟨tB, hB, qB⟩ := mom_b1 (P := P) (w := w) (base := base) Z cdv A outer n0 pl hr (cut n0 sB) HB
    refine tn_wrap ?_
    rw [hovL]
    refine wpAny_mono (hB.run _ s6 _ H6 { nx := fun σ' H' => ∃ n2, σ' = [a0, a1, a2, some (.ref p), some (.ref kd), some (.ref n2), some (.str h), some (.int (way f g h))] ∧ Same H6 H' ∧ PtAt H' n2 ns (shift f (blkOf (gapsOf L) ns h) (way f g h)), rt := fun _ _ => False } I6
      (qB kd nA ns L f h (way f g h) _ _ _ _ H6 _ so hk hnA hh fun H' n2 e q => ⟨n2, rfl, e, q⟩)) (fun fl s7 hs => ?_) fun x s' hx => hx.elim
    cases fl with
    | brk => obtain ⟨_, _, _, q⟩ := hs; exact q.elim
    | cont => obtain ⟨_, _, _, q⟩ := hs; exact q.elim
    | ret v => obtain ⟨_, _, _, _, _, q⟩ := hs; exact q.elim
    | next =>
    obtain ⟨σ7, H7, I7, n2, rfl, sm7, hn2⟩ := hs
    refine tn_cons ?_
    obtain ⟨tE, hE, qE⟩ := mom_e (P := P) (w := w) (base := base) Z cdv A outer n0 pl (cut n0 sB) HB
    refine tn_exprYield rfl ?_
    rw [hovL]
    refine wpAny_mono (hE.run _ s7 _ H7 (fun xv H' => ∃ x, xv = .ref x ∧ H7 x = none ∧ H' = upd H7 x (.dK (pt ns (shift f (blkOf (gapsOf L) ns h) (way f g h))))) I7 (qE n2 ns _ _ _ _ _ _ _ _ H7 _ hn2 fun x hx => ⟨x, rfl, hx, rfl⟩)) (fun v s8 hv => ?_) fun x s' hx => hx.elim
    obtain ⟨xv, H8, I8, rv, x, rfl, hx, rfl⟩ := hv
    obtain rfl : v = Value.ref x := rv
    intro k l pp2 hk2
    have sm8 : Same H7 (upd H7 x (.dK (pt ns (shift f (blkOf (gapsOf L) ns h) (way f g h))))) := same_upd hx
    have smB : Same HB H7 := sm.trans sm7
    obtain ⟨o, ho, hno, hoc, wk⟩ := wake_inv (A0 := A) I8 hcell hfr hbz
    have hpins : ∀ q ∈ pinsAt fp s5.heap, q ∈ ([] ++ pinsAt fp s5.heap) := fun q hq => hq
    refine ⟨_, x, id false, l, k, _, pp2, _, (n0, o) :: ([] ++ pinsAt fp s5.heap), rfl, rfl, rel_of I8 (smB.trans sm8), smB.free hx, upd_same, fun q hq => ?_, fun s2 H2 la => hk2 s2 _ ?_⟩
    · rcases List.mem_cons.mp hq with z | z
      · rw [z]
        exact ⟨Nat.le_refl _, ho, hno, hoc⟩
      · obtain ⟨g1, g2, _, _, g5⟩ := I8.pin q (List.mem_append_right _ z)
        exact ⟨(hfp _ (of_pinsAt z).1).2.2.1, g1, g2, g5⟩
    · refine tn_again rfl ?_
      have I9 := wk pl s2 H2 hpl la
      have smA := la.same
      have sm29 : Same H6 H2 := (sm7.trans sm8).trans smA
      have obj : ∀ b ∈ fp, ∃ o, s5.heap.get? b = some o := fun b hb => let ⟨o, e, _⟩ := T.obj _ _ st5 b hb; ⟨o, e⟩
      refine ih _ (i + 1) s2 H2 s2 H2 n2 _ _ (Inv.unpinned (pl := pinsAt fp s5.heap) I9) (Same.refl _) (T.keep _ _ _ st5 fun b hb o e => (la.keep (b, o) (List.mem_append_left _ (.tail _ (mem_pinsAt hb e)))).1) (fun b hb => ?_) (hk.same sm29) (sm29 _ _ hp) (paired_mono (fun _ _ q => sm29 _ _ q) hts) hall2 hrest ((hn2.same sm8).same smA)
      obtain ⟨o', e⟩ := obj b hb
      exact (la.keep (b, o') (List.mem_append_left _ (.tail _ (mem_pinsAt hb e)))).2
end
end K73
set_option maxHeartbeats 4000000
/-! moments: its call, its first turn. -/
namespace K73
open PySem PySem.Spec PyProof.Rows GenW L2
def momS0 : Stmt := (defBody sMoments).getD 0 (.Pass ⟨0, 0, 0, 0⟩)
def momS1 : Stmt := (defBody sMoments).getD 1 (.Pass ⟨0, 0, 0, 0⟩)
def momS2 : Stmt := (defBody sMoments).getD 2 (.Pass ⟨0, 0, 0, 0⟩)
theorem momBody' : ∃ pos, defBody sMoments = [momS0, momS1, momS2, .For momTg momIt momBd [] pos] := ⟨_, rfl⟩
theorem tn_mono {M : Model} {A : Around} {c : Code} {t : Sem PySem.Fin} {fs : List Frame} {s : Shared} {Φ Φ' : End → Shared → Prop} (h : Tn M A c t fs s Φ) (k : ∀ e s, Φ e s → Φ' e s) : Tn M A c t fs s Φ' := fun Γ p h1 h2 =>
  let ⟨e, s', r, q⟩ := h Γ p h1 h2
  ⟨e, s', r, k _ _ q⟩
theorem mom_cells {n0 : Nat} {f : Addr} {cd : Value} : ∀ x c, (envOfC "moments" (defScope sMoments) n0 f cd).cells.lookup x = some c → False := fun x c h => by
  have e : ∀ n, (cellsFrom n (defScope sMoments).names []) = [] := fun n => rfl
  have h : (cellsFrom (n0 + 1) (defScope sMoments).names []).lookup x = some c := h
  rw [e] at h
  cases h
section
variable {P : Program} {w : World} {K : PySem.W.Frag} {mg : Str → Option Value} {base : Heap} (Z : Tp K mg) (cdv : Value) (A : Around) (outer : List Env) (n0 : Nat) (pl : List (Addr × Obj))
theorem mom_s0 (hr : Room 6 (A.deeper (envOfC "moments" (defScope sMoments) n0 Z.gMoments cdv))) (s0 : Shared) (H0 : Hp) : ∃ t, PS (mX Z cdv A outer n0 pl P w base s0 H0) momS0 t ∧ ∀ (sy d e : Addr) (ns : List Str) (L : List (Addr × Rul)) (f g : Str → Int) (H : Hp) (D : L2.Ends), SysAt Z.C H sy ns L → Sound ns L → AdmAt H d ns L f →
    AdmAt H e ns L g → dist (heads (gapsOf L) ns) f g ≤ 1000000 → (∀ H' p st, Same H H' → StepsAt H' p st → Way (gapsOf L) ns g f st → D.nx [some (.ref sy), some (.ref d), some (.ref e), some (.ref p), none, none, none, none] H') → t D (L2.start nMoments [.ref sy, .ref d, .ref e]) H := by
  have nd := scMom.nd
  have G := Z.sequence (P := P) (w := w) (base := base)
  refine ⟨_, ps_set (i := 3) nd rfl (Or.inl rfl) (pe_d Z.Sequence G hr rfl (pa_cons (pv 0) (pa_cons (pv 1) (pa_cons (pv 2) pa_nil)))), fun sy d e ns L f g H D hs so hd he hdi q => ?_⟩
  exact ⟨_, rfl, _, rfl, _, rfl, sy, d, e, ns, L, f, g, rfl, hs, so, hd, he, hdi, fun H' p st e3 _ h1 h2 => q H' p st e3 h1 h2⟩
theorem mom_s1 (hr : Room 5 (A.deeper (envOfC "moments" (defScope sMoments) n0 Z.gMoments cdv))) (s0 : Shared) (H0 : Hp) : ∃ t, PS (mX Z cdv A outer n0 pl P w base s0 H0) momS1 t ∧ ∀ (sy : Addr) (ns : List Str) (L : List (Addr × Rul)) (f : Str → Int) (a1 a2 a3 a4 a5 a6 a7 : Option V) (H : Hp) (D : L2.Ends), SysAt Z.C H sy ns L → Sound ns L → Adm (gapsOf L) f →
    (∀ H' kd, Same H H' → KnownAt H' kd ns L → D.nx [some (.ref sy), a1, a2, a3, some (.ref kd), a5, a6, a7] H') → t D [some (.ref sy), a1, a2, a3, a4, a5, a6, a7] H := by
  have nd := scMom.nd
  have G := Z.namedBlocks (P := P) (w := w) (base := base)
  refine ⟨_, ps_set (i := 4) nd rfl (Or.inl rfl) (pe_d Z.NamedBlocks G hr rfl (pa_cons (pv 0) pa_nil)), fun sy ns L f a1 a2 a3 a4 a5 a6 a7 H D hs so hf q => ?_⟩
  exact ⟨_, rfl, sy, ns, L, f, rfl, hs, so, hf, fun H' kd bs e _ h1 h2 => q H' kd e ⟨bs, h1, h2⟩⟩
theorem mom_s2 (s0 : Shared) (H0 : Hp) : ∃ t, PS (mX Z cdv A outer n0 pl P w base s0 H0) momS2 t ∧ ∀ (d : Addr) (a0 a2 a3 a4 a5 a6 a7 : Option V) (H : Hp) (D : L2.Ends), D.nx [a0, some (.ref d), a2, a3, a4, some (.ref d), a6, a7] H → t D [a0, some (.ref d), a2, a3, a4, a5, a6, a7] H := by
  have nd := scMom.nd
  refine ⟨_, ps_set (i := 5) nd rfl (Or.inl rfl) (pv 1), fun d a0 a2 a3 a4 a5 a6 a7 H D q => ?_⟩
  exact ⟨_, rfl, q⟩
theorem mom_it (s0 : Shared) (H0 : Hp) : ∃ t, PI (mX Z cdv A outer n0 pl P w base s0 H0) momTg momIt t ∧ ∀ (p : Addr) (xs : List V) (a0 a1 a2 a4 a5 a6 a7 : Option V) (H : Hp) (R : It → Hp → Prop), H p = some (.lst xs) → R (Itl K p) H → t [a0, a1, a2, some (.ref p), a4, a5, a6, a7] H R := by
  refine ⟨_, pi_list (pv 3), fun p xs a0 a1 a2 a4 a5 a6 a7 H R hp q => ?_⟩
  exact ⟨_, rfl, p, rfl, ⟨_, SqL.of hp⟩, q⟩
/-- the first turn -/
theorem mom_first (hr : Room 6 (A.deeper (envOfC "moments" (defScope sMoments) n0 Z.gMoments cdv))) (hfr : ∀ b ∈ frs outer, b < n0) {sy d e : Addr} {ns : List Str} {L : List (Addr × Rul)} {f g : Str → Int} {s : Shared} {H : Hp} (I : Inv (mX Z cdv A outer n0 pl P w base (cut n0 s) H) [] (L2.start nMoments [.ref sy, .ref d, .ref e]) H s) (hsz : n0 ≤ s.heap.objs.size) (hbz : base.objs.size ≤ n0)
    (hpl : ∀ p ∈ pl, p.1 ≠ n0 ∧ p.1 ∉ frs outer ∧ ∀ v, p.2.data ≠ .cell v) (hs : SysAt Z.C H sy ns L) (so : Sound ns L) (hd : AdmAt H d ns L f) (he : AdmAt H e ns L g) (hdi : dist (heads (gapsOf L) ns) f g ≤ 1000000) :
    Tn (model P w) A (.func (defBody sMoments) (envOfC "moments" (defScope sMoments) n0 Z.gMoments cdv)) ((model P w).den (.func (defBody sMoments) (envOfC "moments" (defScope sMoments) n0 Z.gMoments cdv))) [] s
      (fun en s1 => ∃ st, Way (gapsOf L) ns g f st ∧ Out P w K mg base A outer n0 pl (gapsOf L) ns st f s H en s1) := by
  have hov : A.over (.func (defBody sMoments) (envOfC "moments" (defScope sMoments) n0 Z.gMoments cdv)) [] = A.deeper (envOfC "moments" (defScope sMoments) n0 Z.gMoments cdv) := over_func
  refine tn_func ?_
  obtain ⟨pos, hbd⟩ := momBody'
  have ebd : execs (defBody sMoments) (envOfC "moments" (defScope sMoments) n0 Z.gMoments cdv) = execs [momS0, momS1, momS2, .For momTg momIt momBd [] pos] (envOfC "moments" (defScope sMoments) n0 Z.gMoments cdv) := by rw [← hbd]
  rw [ebd]
  obtain ⟨t0, h0, q0⟩ := mom_s0 (P := P) (w := w) (base := base) Z cdv A outer n0 pl hr (cut n0 s) H
  obtain ⟨t1, h1, q1⟩ := mom_s1 (P := P) (w := w) (base := base) Z cdv A outer n0 pl (hr.mono (by decide)) (cut n0 s) H
  obtain ⟨t2, h2, q2⟩ := mom_s2 (P := P) (w := w) (base := base) Z cdv A outer n0 pl (cut n0 s) H
  obtain ⟨t3, h3, q3⟩ := mom_it (P := P) (w := w) (base := base) Z cdv A outer n0 pl (cut n0 s) H
  refine tn_cons (tn_wrap ?_)
  rw [hov]
  refine wpAny_mono (h0.run _ s _ H { nx := fun σ' H' => ∃ p st, σ' = [some (.ref sy), some (.ref d), some (.ref e), some (.ref p), none, none, none, none] ∧ Same H H' ∧ StepsAt H' p st ∧ Way (gapsOf L) ns g f st, rt := fun _ _ => False } I
    (q0 sy d e ns L f g H _ hs so hd he hdi fun H' p st e3 k1 k2 => ⟨p, st, rfl, e3, k1, k2⟩)) (fun fl s1 hs1 => ?_) fun x s' hx => hx.elim
  cases fl with
  | brk => obtain ⟨_, _, _, q⟩ := hs1; exact q.elim
  | cont => obtain ⟨_, _, _, q⟩ := hs1; exact q.elim
  | ret v => obtain ⟨_, _, _, _, _, q⟩ := hs1; exact q.elim
  | next =>
  obtain ⟨σ1, H1, I1, p, st, rfl, e1, hst, hway⟩ := hs1
  refine tn_cons (tn_wrap ?_)
  rw [hov]
  refine wpAny_mono (h1.run _ s1 _ H1 { nx := fun σ' H' => ∃ kd, σ' = [some (.ref sy), some (.ref d), some (.ref e), some (.ref p), some (.ref kd), none, none, none] ∧ Same H1 H' ∧ KnownAt H' kd ns L, rt := fun _ _ => False } I1
    (q1 sy ns L f _ _ _ _ _ _ _ H1 _ (hs.same e1) so hd.2.2 fun H' kd e3 k1 => ⟨kd, rfl, e3, k1⟩)) (fun fl s2 hs2 => ?_) fun x s' hx => hx.elim
  cases fl with
  | brk => obtain ⟨_, _, _, q⟩ := hs2; exact q.elim
  | cont => obtain ⟨_, _, _, q⟩ := hs2; exact q.elim
  | ret v => obtain ⟨_, _, _, _, _, q⟩ := hs2; exact q.elim
  | next =>
  obtain ⟨σ2, H2, I2, kd, rfl, e2, hk⟩ := hs2
  refine tn_cons (tn_wrap ?_)
  rw [hov]
  refine wpAny_mono (h2.run _ s2 _ H2 { nx := fun σ' H' => σ' = [some (.ref sy), some (.ref d), some (.ref e), some (.ref p), some (.ref kd), some (.ref d), none, none] ∧ H' = H2, rt := fun _ _ => False } I2
    (q2 d _ _ _ _ _ _ _ H2 _ ⟨rfl, rfl⟩)) (fun fl s3 hs3 => ?_) fun x s' hx => hx.elim
  cases fl with
  | brk => obtain ⟨_, _, _, q⟩ := hs3; exact q.elim
  | cont => obtain ⟨_, _, _, q⟩ := hs3; exact q.elim
  | ret v => obtain ⟨_, _, _, _, _, q⟩ := hs3; exact q.elim
  | next =>
  obtain ⟨σ3, H3, I3, rfl, rfl⟩ := hs3
  refine tn_cons (tn_For ?_)
  rw [hov]
  obtain ⟨ts, hp, hts⟩ := hst.same e2
  refine wpAny_mono (h3.run _ s3 _ H3 (fun J H' => J = Itl K p ∧ H' = H3) I3 (q3 p _ _ _ _ _ _ _ _ H3 _ hp ⟨rfl, rfl⟩)) (fun v s4 h4 => wpAny_mono h4 (fun itv s5 h5 pp => ?_) fun x s' hx => hx.elim) fun x s' hx => hx.elim
  obtain ⟨it, fp, tn, J, H5, rfl, I5, T, st5, f5, rfl, rfl⟩ := h5
  have hsz0 : (cut n0 s).heap.objs.size = n0 := tr_size hsz
  have hfp : ∀ b ∈ fp, b ≠ n0 ∧ b ∉ frs outer ∧ n0 ≤ b ∧ ∀ q ∈ pl, q.1 ≠ b := fun b hb => by
    obtain ⟨_, g1, g2, g3, _, g5⟩ := f5 b hb
    refine ⟨g1, g2, ?_, fun q hq => g5 q (List.mem_append_left _ hq)⟩
    rcases g3 with z | z
    · cases z
    · have z : (cut n0 s).heap.objs.size ≤ b := z
      rw [hsz0] at z
      exact z
  have e02 := e1.trans e2
  exact tn_mono (mom_loop Z cdv A outer n0 pl (hr.mono (by decide)) mom_cells hfr hbz hpl hov (fun Φ s1 h => tn_end (.ok (.ret .none)) h) T hfp so st f 0 s H s5 H5 d none none I5 e02 st5 (fun b hb => (f5 b hb).1) hk hp hts rfl hway (hd.1.same e02)) fun en s1 q => ⟨st, hway, q⟩
end
/-- what a call of moments gives: a generator that has not begun -/
def MomMade (P : Program) (w : World) {K : PySem.W.Frag} {mg : Str → Option Value} (base : Heap) (Z : Tp K mg) (outer : List Env) (s : Shared) (H : Hp) (ns : List Str) (L : List (Addr × Rul)) (f g : Str → Int) (u : Value) (s' : Shared) : Prop :=
  ∃ (a : Addr) (g0 : Nat) (go o : Obj) (c : Code), u = .ref a ∧ s.heap.objs.size < a ∧ s'.heap.get? a = some go ∧ (∀ h : Heap, h.get? a = some go → h.IsGen a g0) ∧ (∀ v, go.data ≠ .cell v) ∧ s'.gens[g0]? = some (.fresh c) ∧ s'.os = s.os ∧ AllBare s'.gens ∧ s'.heap.NoLimit ∧
    (∀ b ob, s.heap.get? b = some ob → s'.heap.get? b = some ob) ∧ s'.heap.get? s.heap.objs.size = some o ∧ (∀ v, o.data ≠ .cell v) ∧
    ∀ (A : Around) (pl : List (Addr × Obj)) (s2 : Shared) (H2 : Hp), Room 7 A → A.frames = some outer → (∀ p ∈ pl, p.1 ≠ s.heap.objs.size ∧ p.1 ∉ frs outer ∧ ∀ v, p.2.data ≠ .cell v) → Later P w K mg base A outer s.heap.objs.size [(s.heap.objs.size, o)] pl H s2 H2 →
      Tn (model P w) A c ((model P w).den c) [] s2 (fun en s1 => ∃ st, Way (gapsOf L) ns g f st ∧ Out P w K mg base A outer s.heap.objs.size pl (gapsOf L) ns st f s2 H2 en s1)
theorem mom_call {P : Program} {w : World} {K : PySem.W.Frag} {mg : Str → Option Value} {base : Heap} (Z : Tp K mg) {A : Around} {outer : List Env} {s : Shared} {H : Hp} {args : Args} {us : List Value} {sy d e : Addr} {ns : List Str} {L : List (Addr × Rul)} {f g : Str → Int} (hr : Room 1 A) (e0 : Env0 P w K mg base A outer s H)
    (hb : BindsTo s Z.dMoments args ((["system", "old", "new"] : List Str).zip us)) (r : Vals [.ref sy, .ref d, .ref e] us) (hs : SysAt Z.C H sy ns L) (so : Sound ns L) (hd : AdmAt H d ns L f) (he : AdmAt H e ns L g) (hdi : dist (heads (gapsOf L) ns) f g ≤ 1000000) :
    codeAny (model P w) A (.call (.ref Z.gMoments) args) (fun r s' => match r with | .ok (.ret u) => MomMade P w base Z outer s H ns L f g u s' | _ => False) s := by
  obtain ⟨oc, od, kV, doc, pm, an, cdv, ct, osl, ed, lk, hcd⟩ := Z.Moments.ex
  rw [ed] at lk hb
  have S := scMom
  have KX : K.In s.heap := e0.mod.kin.keeps fun b o e => (e0.bs b o e).1
  have lim : s.heap.NoLimit := e0.mod.nolimit.keeps fun b o e => (e0.bs b o e).1
  have hkind : ∀ y ∈ (["system", "old", "new"] : List Str).zip us, (defScope sMoments).names.lookup y.1 = some .local ∨ ((defScope sMoments).names.lookup y.1 = some .cell ∧ ((cellsFrom (s.heap.objs.size + 1) (defScope sMoments).names []).lookup y.1).isSome = true) := fun ⟨n, v⟩ hy => by
    rcases S.par n (List.of_mem_zip hy).1 with q | q
    · exact .inl q
    · exact .inr ⟨q, PySem.W.cellsFrom_some _ _ _ (.inl q)⟩
  have hfr : ∀ b ∈ frs outer, b < s.heap.objs.size := fun b hb => by
    obtain ⟨_, o, ho, _⟩ := e0.funs.mem hb
    exact Heap.lt_size ho
  refine codeAny_call_generator hr.depth (KX _ _ lk) rfl S.co S.gen rfl (PySem.W.codeRec_of KX hcd) (hb _ _ _ _ ?_)
  refine wpAny_newFunctionEnv_cells S.kind hkind fun env hen s1 x => ?_
  subst hen
  have lim1 : s1.heap.NoLimit := lim.keeps x.toInCall.keep
  refine ⟨lim1, ?_⟩
  obtain ⟨h1, tk, es1, hk1⟩ := x.done
  have os1 : s1.os = s.os := by rw [es1]
  have gen1 : s1.gens = s.gens := by rw [es1]
  have lt1 : s.heap.objs.size < s1.heap.objs.size := x.toInCall.ns.lt
  have kp1 : ∀ b o, s.heap.get? b = some o → s1.heap.get? b = some o := x.toInCall.keep
  have inv : ∀ A', Room 1 A' → A'.frames = some outer → Inv (mX Z cdv A' outer s.heap.objs.size [] P w base s H) [] (L2.start nMoments [.ref sy, .ref d, .ref e]) H s1 := fun A' hr' hf' => by
    have e0w : Env0 P w K mg base A' outer s H := ⟨hf', e0.mod, e0.bs, e0.bsz, e0.funs, e0.frf, e0.hok, e0.bare⟩
    have I := inv_startG (E := E0) S hr'.hd e0w rfl r x
    exact ⟨⟨I.ok.mod, I.ok.kind, I.ok.glob, I.ok.blt, I.ok.above, I.ok.inj, I.ok.has, I.ok.cab, I.ok.hd, I.ok.frames, I.ok.stk, I.ok.exf, I.ok.bs, I.ok.bsz, I.ok.noex, I.ok.exfs, I.ok.funs, I.ok.frf⟩, I.os, I.bare, I.base, I.loc, I.cell, I.free, I.freeC, I.pin, I.hok, I.len⟩
  obtain ⟨o, ho, _, hoc, _⟩ := wake_inv (A0 := A) (inv A hr e0.frames) mom_cells hfr e0.bsz
  have main : ∀ (go : Obj) (nm qn : Value) (tk2 : Nat), go.cls = .type "generator" → go.data = .fields #[.int s1.gens.size 0, nm, qn] → go.slots = #[] → (∀ h : Heap, (h.push go).get? h.objs.size = some go) →
      MomMade P w base Z outer s H ns L f g (.ref s1.heap.objs.size) { s1 with gens := s1.gens.push (.fresh (.func (defBody sMoments) (envOfC "moments" (defScope sMoments) s.heap.objs.size Z.gMoments cdv))), toks := tk2, heap := s1.heap.push go } := by
    intro go nm qn tk2 hgc hgd hgs hgp
    refine ⟨s1.heap.objs.size, s1.gens.size, go, o, _, rfl, lt1, hgp _, fun h e => ⟨go, nm, qn, e, hgc, hgd, hgs⟩, fun v q => (by rw [hgd] at q; cases q), Array.getElem?_push_size .., os1, AllBare.push (by rw [gen1]; exact e0.bare) rfl, lim1.keeps fun b o e => Heap.get?_push_of_some _ e,
      fun b ob e => Heap.get?_push_of_some _ (kp1 b ob e), Heap.get?_push_of_some _ ho, hoc, fun A' pl s2 H2 hr2 hf2 hpl la => ?_⟩
    obtain ⟨o2, ho2, _, _, wk⟩ := wake_inv (A0 := A') (inv A' (hr2.mono (by decide)) hf2) mom_cells hfr e0.bsz
    rw [ho] at ho2
    cases ho2
    have I2 := wk pl s2 H2 hpl la
    have sm := la.same
    exact mom_first Z cdv A' outer s.heap.objs.size pl (hr2.deeper _) hfr I2 la.sz e0.bsz hpl (hs.same sm) so (hd.same sm) (he.same sm) hdi
  exact main _ _ _ _ rfl rfl rfl fun h => Heap.get?_push_size _ rfl
end K73
set_option maxHeartbeats 4000000
/-! for x in moments(..). -/
namespace K73
open PySem PySem.Spec PyProof.Rows GenW L2
theorem Tp.bMoments {K : PySem.W.Frag} {mg : Str → Option Value} (Z : Tp K mg) : Binds K Z.dMoments ["system", "old", "new"] [] := Z.Moments.binds fun kV doc pm an cdv ct us hl => by
  match us, hl with
  | [a, b, c], _ => rfl
theorem Tp.bSafeSteps {K : PySem.W.Frag} {mg : Str → Option Value} (Z : Tp K mg) : Binds K Z.dSafeSteps ["system", "numbers"] [] := Z.SafeSteps.binds fun kV doc pm an cdv ct us hl => by
  match us, hl with
  | [a, b], _ => rfl
/-- only the table of generators differs -/
theorem invG {X : Cx} {pins : List (Addr × Obj)} {σ : L2.St} {H : Hp} {s : Shared} (I : Inv X pins σ H s) {G : Array GenState} (hG : AllBare G) : Inv X pins σ H { s with gens := G } :=
  ⟨I.ok, I.os, hG, I.base, I.loc, I.cell, I.free, I.freeC, I.pin, I.hok, I.len⟩
section
variable {X : Cx} {mg : Str → Option Value} {K : PySem.W.Frag}
def tForM (C : Addr) (t : TA) (g : TG) (tb : TS) : TS := fun D σ H => t σ H fun vs H1 => ∃ (sy d e : Addr) (ns : List Str) (L : List (Addr × Rul)) (f f2 : Str → Int), vs = [.ref sy, .ref d, .ref e] ∧ SysAt C H1 sy ns L ∧ Sound ns L ∧ AdmAt H1 d ns L f ∧ AdmAt H1 e ns L f2 ∧ dist (heads (gapsOf L) ns) f f2 ≤ 1000000 ∧
  ∃ W : List (Str × Int) → (Str → Int) → L2.St → Hp → Prop, (∀ st, Way (gapsOf L) ns f2 f st → W st f σ H1) ∧
    (∀ st rest m σ H, W (st :: rest) m σ H → Way (gapsOf L) ns f2 m (st :: rest) → ∀ x H2, Same H H2 → H x = none → PtAt H2 x ns (shift m (blkOf (gapsOf L) ns st.1) st.2) →
      g (.ref x) σ H2 fun σ3 H3 => tb { D with nx := fun σ' H' => Same H2 H' ∧ W rest (shift m (blkOf (gapsOf L) ns st.1) st.2) σ' H', ct := fun σ' H' => Same H2 H' ∧ W rest (shift m (blkOf (gapsOf L) ns st.1) st.2) σ' H', bk := D.nx } σ3 H3) ∧
    ∀ m σ H H2, W [] m σ H → Way (gapsOf L) ns f2 m [] → Same H H2 → D.nx σ H2
theorem ps_forM {e : Expr} {es : List Expr} {t : TA} {g : TG} {tb : TS} {tg : Expr} {body : List Stmt} {p pos cpos : Pos} (Z : Tp X.K X.mg) (hxe : ∀ x s, X.xe x s → False) (hp : PassesOwn (model X.prog X.w) X.A X.env X.xe) (hc : X.calm = true) (hr : Room 8 X.A) (hg0 : Gl X "moments") (ha : PA X (e :: es) t) (hg : PG X tg g) (hb : PSs X body tb)
    (hs : ∀ x, foldedSetIterable (.Call (.Name "moments" p) (e :: es) [] cpos) X.env x = pure x := by intro _; rfl) (hdb : (("moments" : Str) == ("__debug__" : Str)) = false := by decide) (he : starEach (e :: es) X.env = (false, eval e X.env) :: starEach es X.env := by rfl) (hpl : (backTo cpos (starEach es X.env)).any (·.1) = false := by rfl) :
    PS X (.For tg (.Call (.Name "moments" p) (e :: es) [] cpos) body [] pos) (tForM Z.C t g tb) := by
  refine ⟨fun pins s σ H D I h => ?_⟩
  refine wpAny_For ?_ hs
  refine wpAny_Call_Name_kw (ld_glob I hg0 Z.imMo ?_ hdb)
  refine PySem.W.callWith_K (h₀ := X.base) I.ok.mod.kin Z.Moments.kp (thn (ha.run cpos pins s σ H _ I h) fun us s1 ⟨vs, H1, I1, r, q⟩ => ⟨I1.kIn, ?_⟩) he hpl
  obtain ⟨sy, d, e', ns, L, f, f2, rfl, hsy, so, hd, hee, hdi, W, hW0, hWs, hWe⟩ := q
  have r2 : Vals [V.ref sy, .ref d, .ref e'] (us ++ []) := by rw [List.append_nil]; exact r
  have hl : (us ++ []).length = 3 := r2.length.symm
  have hfsAll : ∀ b ∈ X.fs, b < s1.heap.objs.size := fun b hb => by
    obtain ⟨_, ob, hob, _⟩ := I1.ok.funs.mem hb
    exact Nat.lt_of_lt_of_le (Heap.lt_size hob) I1.sz
  have hclAll : ∀ x c, X.env.cells.lookup x = some c → c < s1.heap.objs.size := fun x c hx => let ⟨_, q⟩ := I1.cell x c hx; q.lt
  have hstk : ∀ b ∈ frs X.stack, b = X.env.locals ∨ b ∈ X.fs := fun b hb => List.mem_cons.mp (I1.stkSub b hb)
  refine wpAny_call (codeAny_mono (mom_call Z (hr.mono (by decide)) I1.env0 (Z.bMoments s1 us I1.kIn hl) r2 hsy so hd hee hdi) fun rr s2 hq => ?_)
  cases rr with
  | error x => exact hq.elim
  | ok fl =>
  cases fl with
  | next => exact hq.elim
  | brk => exact hq.elim
  | cont => exact hq.elim
  | ret u =>
  obtain ⟨a, g0, go, o, c, rfl, hna, hgo, hgen, hgoc, hgs, hos, hbare, hlim, hkp, ho, hoc, run⟩ := hq
  have I2 : Inv X pins σ H1 s2 := I1.call' (ch := []) hos (Un.kept hkp) (I1.hok.kept hkp) hbare fun b z => by simp at z
  have I3 : Inv X ((a, go) :: pins) σ H1 s2 := I2.pins_of fun q hq => by
    rcases List.mem_cons.mp hq with z | z
    · rw [z]
      exact ⟨hgo, I1.hok.fresh (Nat.le_of_lt hna), Nat.ne_of_gt (Nat.lt_trans I1.lt hna), I1.nofs (Nat.le_of_lt hna), hgoc⟩
    · exact I2.pin q (List.mem_append_right _ z)
  have hpls : ∀ q ∈ X.pn ++ ((a, go) :: pins), q.1 ≠ s1.heap.objs.size ∧ q.1 ∉ frs X.stack ∧ ∀ v, q.2.data ≠ .cell v := fun q hq => by
    have h3 := I3.pin q hq
    refine ⟨?_, fun z => (hstk _ z).elim h3.2.2.1 h3.2.2.2.1, h3.2.2.2.2⟩
    rcases List.mem_append.mp hq with z | z
    · exact Nat.ne_of_lt (Heap.lt_size (I1.pin q (List.mem_append_left _ z)).1)
    · rcases List.mem_cons.mp z with z | z
      · rw [z]
        exact Nat.ne_of_gt hna
      · exact Nat.ne_of_lt (Heap.lt_size (I1.pin q (List.mem_append_right _ z)).1)
  refine wpAny_pyIter_gen (hgen _ hgo) ?_
  refine codeAny_forLoop_any (fun n s' => ∃ (σ' : L2.St) (H' Hg : Hp) (m : Str → Int) (gs : GenState) (priv : List (Addr × Obj)) (Wy : List (Str × Int) → Prop), n = dist (heads (gapsOf L) ns) m f2 ∧ Inv X ((a, go) :: pins) σ' H' s' ∧ s'.gens[g0]? = some gs ∧ Same Hg H' ∧ (∀ q ∈ priv, s'.heap.get? q.1 = some q.2 ∧ H' q.1 = none) ∧
      (∀ st, Wy st → Way (gapsOf L) ns f2 m st ∧ W st m σ' H') ∧ ∀ s3 H3, Later X.prog X.w X.K X.mg X.base X.A.in1 X.stack s1.heap.objs.size priv (X.pn ++ ((a, go) :: pins)) Hg s3 H3 →
        Wake (model X.prog X.w) X.A.in1 gs s3 (fun en s4 => ∃ st, Wy st ∧ Out X.prog X.w X.K X.mg X.base X.A.in1 X.stack s1.heap.objs.size (X.pn ++ ((a, go) :: pins)) (gapsOf L) ns st m s3 H3 en s4)) ?_ _
    ⟨σ, H1, H1, f, .fresh c, [(s1.heap.objs.size, o)], fun st => Way (gapsOf L) ns f2 f st, rfl, I3, hgs, Same.refl _, fun q hq => ?_, fun st h => ⟨h, hW0 st h⟩, fun s3 H3 la => run X.A.in1 _ s3 H3 hr.in1 I1.ok.frames hpls la⟩
  rotate_left
  · rw [List.mem_singleton.mp hq]
    exact ⟨ho, I1.hok.fresh (Nat.le_refl _)⟩
  rintro n s3 ⟨σ3, H3, Hg, m, gs, priv, Wy, rfl, I3, hgs3, smg, hpr, hWy, wake⟩
  have hgo3 := (I3.pin (a, go) (List.mem_append_right _ (.head _))).1
  have hglt : g0 < s3.gens.size := (Array.getElem?_eq_some_iff.mp hgs3).1
  have hsz3 : s1.heap.objs.size ≤ s3.heap.objs.size := Nat.le_of_lt (Nat.lt_trans hna (Heap.lt_size hgo3))
  have I3' : Inv X ((a, go) :: pins) σ3 H3 (s3.setGen g0 .running) := invG I3 (allBare_setGen I3.bare rfl)
  have e0 : Env0 X.prog X.w X.K X.mg X.base X.A.in1 X.stack (s3.setGen g0 .running) H3 := by
    have q := I3'.env0
    exact ⟨q.frames, q.mod, q.bs, q.bsz, q.funs, q.frf, q.hok, q.bare⟩
  have la : Later X.prog X.w X.K X.mg X.base X.A.in1 X.stack s1.heap.objs.size priv (X.pn ++ ((a, go) :: pins)) Hg (s3.setGen g0 .running) H3 := ⟨e0, hsz3, fun q hq => by
    rcases List.mem_append.mp hq with z | z
    · exact hpr q z
    · exact ⟨(I3.pin q z).1, (I3.pin q z).2.1⟩, smg⟩
  refine wpAny_passesOwn hp ?_
  refine wpAny_gsz (n := g0 + 1) hglt (next_tn (I3.ok.hd hc) I3.nolimit hr.depth (hgen _ hgo3) hgs3 (wake _ H3 la) fun en s4 hΦ => ?_)
  obtain ⟨st, hwy, hout⟩ := hΦ
  obtain ⟨hway, hw⟩ := hWy st hwy
  cases st with
  | nil =>
    obtain ⟨H4, rfl, rel⟩ := hout
    refine .inl ⟨rfl, fun h' hk' _ => ?_⟩
    have I4 := Inv.behind I3' rel I1.lt hclAll I1.sz hfsAll
    have I5 : Inv X ((a, go) :: pins) σ3 H4 (s4.setGen g0 .finished) := invG I4 (allBare_setGen rel.bare rfl)
    have I6 : Inv X ((a, go) :: pins) σ3 H4 { s4.setGen g0 .finished with heap := h' } := I5.kept (t' := s4.toks) hk'
    exact wpAny_execs_nil ⟨σ3, H4, I6.pins_of fun q hq => I6.pin q (List.mem_append_right _ (.tail _ hq)), hWe m σ3 H3 H4 hw hway rel.same⟩
  | cons st rest =>
    obtain ⟨H4, x, gd, l, k, cc, pp, fs, priv', rfl, hqt, rel, hx, hpt, hpriv, cont⟩ := hout
    refine .inr ⟨_, _, _, _, _, _, _, rfl, hqt, fun hsz => ?_⟩
    have I4 := Inv.behind I3' rel I1.lt hclAll I1.sz hfsAll
    have I5 : Inv X ((a, go) :: pins) σ3 H4 (s4.setGen g0 (End.susp (.ref x) gd l k cc pp fs).genState) := invG I4 (allBare_setGen rel.bare (End.bare_of_quiet hqt))
    have hg4 : g0 < s4.gens.size := by
      have q : (s4.setGen g0 (End.susp (.ref x) gd l k cc pp fs).genState).gens.size = s4.gens.size := setGen_size _ _ _
      omega
    have hgs5 : (s4.setGen g0 (End.susp (.ref x) gd l k cc pp fs).genState).gens[g0]? = some (End.susp (.ref x) gd l k cc pp fs).genState := setGen_at hg4
    have hps : ∀ q ∈ priv', (s4.setGen g0 (End.susp (.ref x) gd l k cc pp fs).genState).heap.get? q.1 = some q.2 := fun q hq => (hpriv q hq).2.1
    generalize s4.setGen g0 (End.susp (.ref x) gd l k cc pp fs).genState = s5 at I5 hgs5 hps ⊢
    have I6 : Inv X (((a, go) :: pins) ++ priv') σ3 H4 s5 := I5.pins_of fun q hq => by
      rcases List.mem_append.mp hq with z | z
      · exact I5.pin q (List.mem_append_right _ z)
      · obtain ⟨h1, h2, h3, h4⟩ := hpriv q z
        exact ⟨hps q z, h3, Nat.ne_of_gt (Nat.lt_of_lt_of_le I1.lt h1), fun z => absurd (hfsAll _ z) (Nat.not_lt.mpr h1), h4⟩
    have hgo5 := (I5.pin (a, go) (List.mem_append_right _ (.head _))).1
    obtain ⟨ob, nm, qn, eo, ecls, edat, _⟩ := hgen _ hgo5
    refine go_of eo ecls edat (by decide) ?_
    -- the target
    refine wpAny_mono (wpAny_sleepers (hg.run _ (beside s5) σ3 H4 (.ref x) (.ref x) _ (invG I6 (bare_beside I6.bare)) rfl (hWs st rest m σ3 H3 hw hway x H4 rel.same hx hpt))) (fun _ s6 h6 => ?_) fun y s6 h6 => (hxe _ _ h6.choose_spec.1).elim
    obtain ⟨s6', ⟨σ6, H6, I6', q6⟩, ⟨G6, rfl⟩, sl6, br6⟩ := h6
    have I7 := invG I6' (br6 I6.bare I6'.bare)
    -- the body
    refine wpAny_passesOwn hp (wpAny_mono (wpAny_sleepers (hb.run _ (beside { s6' with gens := G6 }) σ6 H6 _ (invG I7 (bare_beside I7.bare)) q6)) (fun fl s7 h7 => ?_) fun y s7 h7 => (hxe _ _ h7.choose_spec.1).elim)
    obtain ⟨s7', q7, ⟨G7, rfl⟩, sl7, br7⟩ := h7
    have hgs7 : G7[g0]? = some (End.susp (.ref x) gd l k cc pp fs).genState := sl7 g0 _ (sl6 g0 _ hgs5 rfl) rfl
    have again : ∀ {σ7 : L2.St} {H7 : Hp}, Inv X (((a, go) :: pins) ++ priv') σ7 H7 s7' → (Same H4 H7 ∧ W rest (shift m (blkOf (gapsOf L) ns st.1) st.2) σ7 H7) → ∃ n', n' < dist (heads (gapsOf L) ns) m f2 ∧ ∃ (σ' : L2.St) (H' Hg : Hp) (m : Str → Int) (gs : GenState) (priv : List (Addr × Obj)) (Wy : List (Str × Int) → Prop), n' = dist (heads (gapsOf L) ns) m f2 ∧ Inv X ((a, go) :: pins) σ' H' { s7' with gens := G7 } ∧ ({ s7' with gens := G7 } : Shared).gens[g0]? = some gs ∧ Same Hg H' ∧ (∀ q ∈ priv, ({ s7' with gens := G7 } : Shared).heap.get? q.1 = some q.2 ∧ H' q.1 = none) ∧
        (∀ st, Wy st → Way (gapsOf L) ns f2 m st ∧ W st m σ' H') ∧ ∀ s3 H3, Later X.prog X.w X.K X.mg X.base X.A.in1 X.stack s1.heap.objs.size priv (X.pn ++ ((a, go) :: pins)) Hg s3 H3 →
          Wake (model X.prog X.w) X.A.in1 gs s3 (fun en s4 => ∃ st, Wy st ∧ Out X.prog X.w X.K X.mg X.base X.A.in1 X.stack s1.heap.objs.size (X.pn ++ ((a, go) :: pins)) (gapsOf L) ns st m s3 H3 en s4) := fun {σ7 H7} J n7 => by
      have J2 := invG J (br7 I7.bare J.bare)
      have hrest : Way (gapsOf L) ns f2 (shift m (blkOf (gapsOf L) ns st.1) st.2) rest := by
        cases hway with
        | cons _ _ _ q => exact q
      have hl1 := hway.len so.nd
      have hl2 := hrest.len so.nd
      rw [List.length_cons] at hl1
      refine ⟨dist (heads (gapsOf L) ns) (shift m (blkOf (gapsOf L) ns st.1) st.2) f2, by omega, σ7, H7, H4, shift m (blkOf (gapsOf L) ns st.1) st.2, _, priv', fun st => st = rest, rfl, Inv.unpinned (pl := priv') J2, hgs7, n7.1, fun q hq => ⟨(J2.pin q (List.mem_append_right _ (List.mem_append_right _ hq))).1, (J2.pin q (List.mem_append_right _ (List.mem_append_right _ hq))).2.1⟩, fun st e => by subst e; exact ⟨hrest, n7.2⟩, fun s8 H8 la => ?_⟩
      exact tn_mono (cont s8 H8 la) fun en s9 q => ⟨rest, rfl, q⟩
    have free : ∀ {σ7 : L2.St} {H7 : Hp}, Inv X (((a, go) :: pins) ++ priv') σ7 H7 s7' → Inv X pins σ7 H7 { s7' with gens := G7 } := fun {σ7 H7} J => by
      have J2 := invG J (br7 I7.bare J.bare)
      exact J2.pins_of fun q hq => J2.pin q (List.mem_append_right _ (List.mem_append_left _ (.tail _ hq)))
    cases fl with
    | next => obtain ⟨σ7, H7, J, n7⟩ := q7; exact again J n7
    | cont => obtain ⟨σ7, H7, J, n7⟩ := q7; exact again J n7
    | brk => obtain ⟨σ7, H7, J, q7⟩ := q7; exact ⟨σ7, H7, free J, q7⟩
    | ret v => obtain ⟨x7, σ7, H7, J, r7, q7⟩ := q7; exact ⟨x7, σ7, H7, free J, r7, q7⟩
end
end K73
set_option maxHeartbeats 4000000
/-! _law_pair_right. -/
namespace K73
open PySem PySem.Spec PyProof.Rows L2
section
variable {P : Program} {w : World} {K : PySem.W.Frag} {mg : Str → Option Value} {base : Heap}
/-- the same rules, in whatever order -/
def SameRules (L L' : List (Addr × Rul)) : Prop := ∀ r, r ∈ gapsOf L ↔ r ∈ gapsOf L'
theorem SameRules.adm {L L' : List (Addr × Rul)} (h : SameRules L L') {f : Str → Int} : Adm (gapsOf L) f ↔ Adm (gapsOf L') f := ⟨fun q r hr => q r ((h r).mpr hr), fun q r hr => q r ((h r).mp hr)⟩
def spLPair (C : Addr) : Sp := fun vs H Q _ => ∃ (sy g pa d e : Addr) (S : List Str) (L L' : List (Addr × Rul)) (f f2 : Str → Int) (bs : List Addr), vs = [.ref sy, .ref g, .ref pa, .ref d, .ref e] ∧ SysAt C H sy S L' ∧ Sound S L' ∧ H g = some (.lst (refs L)) ∧ Rules H L ∧ OkL L ∧ L.length ≤ 900 ∧ Within (gapsOf L) S ∧ SameRules L L' ∧
  H pa = some (.lst (bs.map V.ref)) ∧ BlksAt H (gapsOf L') S bs ∧ AdmAt H d S L' f ∧ AdmAt H e S L' f2 ∧ (∀ n ∈ S, -9000 ≤ f n ∧ f n ≤ 9000) ∧ dist (heads (gapsOf L') S) f f2 ≤ 1000000 ∧ ∀ H', Same H H' → Q (.bl true) H'
theorem Tp.lPairRight (Z : Tp K mg) : FnOk P w K mg base CX0 9 Z.gLPairRight Z.dLPairRight ["_law_made_here", "_law_gaps_here", "_law_parts", "_law_one", "_law_two"] (spLPair Z.C) := by
  have T := Z.nm
  have G1 := Z.leastSteps (P := P) (w := w) (base := base)
  have G2 := Z.sequence (P := P) (w := w) (base := base)
  have G3 := Z.isSequence (P := P) (w := w) (base := base)
  have G4 := Z.lBroken (P := P) (w := w) (base := base)
  have G5 := Z.lAfter (P := P) (w := w) (base := base)
  refine Z.LPairRight.fn.ok cLPairRight (fun vs H Q E h => ?_) (fun cdv A outer s H vs Q E hr h => ?_)
  · obtain ⟨sy, g, pa, d, e, S, L, L', f, f2, bs, rfl, _⟩ := h
    rfl
  · obtain ⟨sy, g, pa, d, e, S, L, L', f, f2, bs, rfl, hs, so, hg, hR, okl, few, wi, sr, hpa, hbs, hd, he, bf, hdi, k⟩ := h
    have hu := hu_of hr
    have hu0 := Nat.lt_of_succ_lt hu
    have nd := cLPairRight.nd
    refine ⟨_, pss_cons (ps_set (i := 5) nd rfl (Or.inl rfl) (pe_d Z.LeastSteps G1 (hr.mono (by decide)) rfl (pa_cons (pv 0) (pa_cons (pv 3) (pa_cons (pv 4) pa_nil)))))
      (pss_cons (ps_set (i := 6) nd rfl (Or.inl rfl) (pe_d Z.Sequence G2 (hr.mono (by decide)) rfl (pa_cons (pv 0) (pa_cons (pv 3) (pa_cons (pv 4) pa_nil)))))
      (pss_cons (ps_if (PW.pt (pw_or (pt_cmpR op_ne (pe_callB call_len_seq (by rfl) T.len PySem.boot_len (pa_cons (pv 6) pa_nil)) (pv 5) (nomark _)) (pw_or1 (pt_not (ptv (pe_d Z.IsSequence G3 (hr.mono (by decide)) rfl (pa_cons (pv 0) (pa_cons (pv 3) (pa_cons (pv 4) (pa_cons (pv 6) pa_nil)))))))))) pss_no pss_nil)
      (pss_cons (ps_set (i := 7) nd rfl (Or.inl rfl) (pv 3))
      (pss_cons (ps_forM Z (fun _ _ h => h) PassesOwn.never rfl hr rfl (pa_cons (pv 0) (pa_cons (pv 3) (pa_cons (pv 4) pa_nil))) (pg_name (i := 8) nd rfl (Or.inl rfl))
        (pss_cons (ps_if (pt_cmpR (op_neNil hu0) (pe_d Z.LBroken G4 (hr.mono (by decide)) rfl (pa_cons (pv 1) (pa_cons (pv 8) pa_nil))) (pe_lst pa_nil) (nomark _)) pss_no pss_nil)
        (pss_cons (ps_lock (ps_for PassesOwn.never rfl (pi_keys (pv 8)) (pg_name (i := 9) nd rfl (Or.inl rfl))
          (pss_one (ps_if (pt_not (pt_chain op_le op_le (pe_callB (call_min2 rfl) (by rfl) T.min boot_min (pa_cons (pe_dget hu (pv 7) (pv 9) (fun _ _ => rfl)) (pa_cons (pe_dget hu (pv 4) (pv 9) (fun _ _ => rfl)) pa_nil))) (pe_dget hu (pv 8) (pv 9) (fun _ _ => rfl))
            (pe_callB (call_max2 rfl) (by rfl) T.max boot_max (pa_cons (pe_dget hu (pv 7) (pv 9) (fun _ _ => rfl)) (pa_cons (pe_dget hu (pv 4) (pv 9) (fun _ _ => rfl)) pa_nil))))) pss_no pss_nil))))
        (pss_one (ps_set (i := 7) nd rfl (Or.inl rfl) (pv 8))))))
      (pss_cons (ps_for PassesOwn.never rfl (pi_list (pv 2)) (pg_name (i := 10) nd rfl (Or.inl rfl))
        (pss_one (ps_if (pt_cmpR op_ne (pe_dget hu (pv 3) (pe_ix ix_list (pv 10) pe_int (fun _ _ => rfl)) (fun _ _ => rfl)) (pe_dget hu (pv 4) (pe_ix ix_list (pv 10) pe_int (fun _ _ => rfl)) (fun _ _ => rfl)) (nomark _))
          (pss_cons (ps_set (i := 11) nd rfl (Or.inl rfl) (pe_d Z.LAfter G5 (hr.mono (by decide)) rfl (pa_cons (pv 3) (pa_cons (pv 10) (pa_cons (pe_ifExp (pt_cmpR op_lt (pe_dget hu (pv 3) (pe_ix ix_list (pv 10) pe_int (fun _ _ => rfl)) (fun _ _ => rfl)) (pe_dget hu (pv 4) (pe_ix ix_list (pv 10) pe_int (fun _ _ => rfl)) (fun _ _ => rfl)) (nomark _)) pe_int (pe_un un_neg pe_int)) pa_nil)))))
          (pss_one (ps_if (PW.pt (pw_and (pt_cmpR (op_eqNil hu0) (pe_d Z.LBroken G4 (hr.mono (by decide)) rfl (pa_cons (pv 1) (pa_cons (pv 11) pa_nil))) (pe_lst pa_nil) (nomark _)) (pw_and1 (pt_cmpR op_ne (pe_d Z.LeastSteps G1 (hr.mono (by decide)) rfl (pa_cons (pv 0) (pa_cons (pv 11) (pa_cons (pv 4) pa_nil)))) (pe_op op_sub (pv 5) pe_int) (nomark _))))) pss_no pss_nil)))
          pss_nil)))
      (pss_one (ps_ret (pe_cmpR (op_eqPt hu0) (pv 7) (pv 4) (nomark _))))))))), ?_⟩
    have big : (1000000 : Nat) < sizeLine := by decide
    refine ⟨_, rfl, _, rfl, _, rfl, sy, d, e, S, L', f, f2, rfl, hs, so, hd, he, fun H1 e1 => ?_⟩
    refine nx_of ?_
    refine ⟨_, rfl, _, rfl, _, rfl, sy, d, e, S, L', f, f2, rfl, hs.same e1, so, hd.same e1, he.same e1, hdi, fun H2 p st e2 p0 hst hway => ?_⟩
    refine nx_of ?_
    have e02 := e1.trans e2
    obtain ⟨ts, hp2, hts⟩ := id hst
    have hlen := hway.len so.nd
    have hlt : (ts.map V.ref).length = dist (heads (gapsOf L') S) f f2 := by rw [List.length_map, paired_len hts, hlen]
    refine ⟨_, rfl, p, _, rfl, .inl (SqL.of hp2), _, rfl, rfl, _, rfl, ?_⟩
    rw [hlt]
    have e0 : (!decide (V.int ((dist (heads (gapsOf L') S) f f2 : Nat) : Int) = V.int ((dist (heads (gapsOf L') S) f f2 : Nat) : Int))) = false := by simp
    rw [e0]
    refine iteF ⟨_, rfl, _, rfl, _, rfl, _, rfl, sy, d, e, p, S, L', f, f2, st, rfl, hs.same e02, so, hd.same e02, he.same e02, hst, hway, by omega, fun H3 e3 => ⟨_, rfl, iteF ?_⟩⟩
    have e03 := e02.trans e3
    refine nx_of ⟨_, rfl, ?_⟩
    refine nx_of ?_
    refine ⟨_, rfl, _, rfl, _, rfl, sy, d, e, S, L', f, f2, rfl, hs.same e03, so, hd.same e03, he.same e03, hdi, fun st m σ H' => ∃ (b : Addr) (u8 u9 : Option V), σ = [some (.ref sy), some (.ref g), some (.ref pa), some (.ref d), some (.ref e), some (.int ((dist (heads (gapsOf L') S) f f2 : Nat) : Int)), some (.ref p), some (.ref b), u8, u9, none, none] ∧ Same H3 H' ∧ PtAt H' b S m ∧ Adm (gapsOf L') m,
      fun st _ => ⟨d, none, none, rfl, Same.refl _, hd.1.same e03, hd.2.2⟩, ?_, ?_⟩
    · rintro st rest m σ H4 ⟨b, u8, u9, rfl, e4, hb, adm⟩ hw x H5 e5 hx hpt
      cases hw with
      | @cons _ h _ hh hne had hrest =>
      have e45 := e4.trans e5
      have e05 := e03.trans e45
      have nbx : b ≠ x := fun z => by
        have hb : H4 b = _ := hb
        rw [z, hx] at hb
        cases hb
      have nex : e ≠ x := fun z => by
        have := (he.1.same (e03.trans e4))
        have this : H4 e = _ := this
        rw [z, hx] at this
        cases this
      refine ⟨_, rfl, _, rfl, g, x, L, S, _, rfl, e05 _ _ hg, hR.same e05, okl, few, hpt, wi, fun H6 q B e6 q0 hq hB => ?_⟩
      obtain rfl : B = [] := hB.mpr (sr.adm.mpr had)
      refine ⟨Nat.zero_le _, fun z hz => ?_⟩
      have nqz : q ≠ z := ne_of_none hq hz
      refine ⟨q, z, _, rfl, rfl, SqL.of (by rw [upd_ne nqz]; exact hq), SqL.of upd_same, _, rfl, ite_no rfl ?_⟩
      have e57 : Same H5 (upd H6 z (.lst [])) := e6.trans (same_upd hz)
      generalize upd H6 z (.lst []) = H7 at e57 ⊢
      have hx7 : H7 x = some (.dK (pt S (shift m (blkOf (gapsOf L') S h) (way m f2 h)))) := e57 _ _ hpt
      have hb7 : PtAt H7 b S m := (hb.same e5).same e57
      have he7 : PtAt H7 e S f2 := (he.1.same e05).same e57
      refine nx_of ⟨x, _, hx7, trivial, fun od => ?_⟩
      refine ⟨_, rfl, x, od, rfl, .inl ⟨_, upd_same, ?_⟩⟩
      refine for_it walk_keys (fun i σ H' => (∃ u9, σ = [some (.ref sy), some (.ref g), some (.ref pa), some (.ref d), some (.ref e), some (.int ((dist (heads (gapsOf L') S) f f2 : Nat) : Int)), some (.ref p), some (.ref b), some (.ref x), u9, none, none]) ∧ Same (upd H7 x (.frz od (.dK (pt S (shift m (blkOf (gapsOf L') S h) (way m f2 h)))))) H') ⟨⟨u9, rfl⟩, Same.refl _⟩ (fun i σ H' _ e => e.2 _ _ upd_same) ?_ ?_
      · rintro i y σ H8 H9 hi ⟨⟨v9, rfl⟩, e8⟩ ⟨rfl, kk, v, hk, rfl⟩
        obtain ⟨n, hn, rfl⟩ : ∃ n, n ∈ S ∧ kk = Sum.inr n := by
          have hk := hk
          unfold pt at hk
          rw [List.getElem?_map] at hk
          cases hq : S[i]? with
          | none => rw [hq] at hk; cases hk
          | some n =>
            rw [hq] at hk
            have hk := Option.some.inj hk
            exact ⟨n, List.mem_of_getElem? hq, (congrArg Prod.fst hk).symm⟩
        have hb9 : PtAt H9 b S m := e8 _ _ (by rw [upd_ne nbx]; exact hb7)
        have he9 : PtAt H9 e S f2 := e8 _ _ (by rw [upd_ne nex]; exact he7)
        have hx9 : DGet H9 x (.str n) (some (.int (shift m (blkOf (gapsOf L') S h) (way m f2 h) n))) := .inl ⟨_, .inr n, .inr ⟨od, e8 _ _ upd_same⟩, rfl, (pt_get hn).symm⟩
        have bw := way_between (ns := S) (h := h) (x := n) adm he.2.2 hh hne
        refine ⟨_, rfl, _, rfl, b, _, rfl, hb9.get hn, _, rfl, _, rfl, e, _, rfl, he9.get hn, _, _, rfl, ?_⟩
        refine ⟨_, rfl, _, rfl, x, _, rfl, hx9, _, _, rfl, rfl, true, congrArg V.bl (decide_eq_true ?_), iteT ?_⟩
        · split <;> omega
        refine ⟨_, rfl, _, rfl, b, _, rfl, hb9.get hn, _, rfl, _, rfl, e, _, rfl, he9.get hn, _, _, rfl, ?_⟩
        refine ⟨_, _, rfl, rfl, true, congrArg V.bl (decide_eq_true ?_), iteF ?_⟩
        · split <;> omega
        exact ⟨⟨_, rfl⟩, e8⟩
      · rintro σ H8 ⟨⟨v9, rfl⟩, e8⟩
        have e78 := same_unlock hx7 e8
        refine ⟨e8 _ _ upd_same, ?_⟩
        refine ⟨_, rfl, e57.trans e78, x, _, _, rfl, e45.trans (e57.trans e78), upd_same, had⟩
    · rintro m σ H4 H5 ⟨b, u8, u9, rfl, e4, hb, adm⟩ hw e5
      cases hw with
      | nil hall =>
      have e05 := e03.trans (e4.trans e5)
      have hb5 := hb.same e5
      refine ⟨_, rfl, pa, rfl, ⟨_, SqL.of (e05 _ _ hpa)⟩, ?_⟩
      refine for_list (K := K) (a := pa) (xs := bs.map V.ref) (fun i σ H' => (∃ u10 u11, σ = [some (.ref sy), some (.ref g), some (.ref pa), some (.ref d), some (.ref e), some (.int ((dist (heads (gapsOf L') S) f f2 : Nat) : Int)), some (.ref p), some (.ref b), u8, u9, u10, u11]) ∧ Same H5 H') ⟨⟨none, none, rfl⟩, Same.refl _⟩ (fun i σ H' _ e => SqL.of (e.2 _ _ (e05 _ _ hpa))) ?_ ?_
      · rintro i y σ H6 hi ⟨⟨u10, u11, rfl⟩, e6⟩
        obtain ⟨b', hb', rfl⟩ := ref_get hi
        obtain ⟨h, hh, hblk⟩ := paired_nth' hbs hb'
        have hhm : h ∈ heads (gapsOf L') S := List.mem_of_getElem? hh
        have hhS := (mem_heads.mp hhm).1
        have e06 := e05.trans e6
        have hblk6 := e06 _ _ hblk
        have h0 : ((blkOf (gapsOf L') S h).map V.str)[0]? = some (.str h) := by
          rw [List.getElem?_map, ← List.head?_eq_getElem?, (mem_heads.mp hhm).2.2]
          rfl
        have hd6 := (hd.1.same e06).get hhS
        have he6 := (he.1.same e06).get hhS
        refine ⟨_, rfl, _, rfl, b', _, _, _, rfl, rfl, SqL.of hblk6, atI_nat (j := 0) h0, d, _, rfl, hd6, _, rfl, _, rfl, b', _, _, _, rfl, rfl, SqL.of hblk6, atI_nat (j := 0) h0, e, _, rfl, he6, rfl, _, rfl, ?_⟩
        by_cases hne : f h = f2 h
        · exact ite_no (by simp [hne]) ⟨⟨_, _, rfl⟩, e6⟩
        refine ite_yes (by simp [hne]) ?_
        have hset : ∀ {Qs : VK}, Qs (.int (way f f2 h)) H6 → tIf (tTest (tOp (rI0 fun i j => .bl (decide (i < j))) (tDGet (tVar 3) (tOp (rIxL K) (tVar 10) (tC (.int 0)))) (tDGet (tVar 4) (tOp (rIxL K) (tVar 10) (tC (.int 0)))))) (tC (.int 1)) (tUn (rU fun i => .int (-i)) (tC (.int 1))) [some (.ref sy), some (.ref g), some (.ref pa), some (.ref d), some (.ref e), some (.int ((dist (heads (gapsOf L') S) f f2 : Nat) : Int)), some (.ref p), some (.ref b), u8, u9, some (.ref b'), u11] H6 Qs := fun {Qs} q => by
          refine ⟨_, rfl, _, rfl, b', _, _, _, rfl, rfl, SqL.of hblk6, atI_nat (j := 0) h0, d, _, rfl, hd6, _, rfl, _, rfl, b', _, _, _, rfl, rfl, SqL.of hblk6, atI_nat (j := 0) h0, e, _, rfl, he6, _, _, rfl, rfl, _, rfl, ?_⟩
          unfold way at q
          by_cases lt : f h < f2 h
          · rw [if_pos lt] at q
            rw [decide_eq_true lt]
            exact iteT q
          · rw [if_neg lt] at q
            rw [decide_eq_false lt]
            exact iteF ⟨1, rfl, q⟩
        refine ⟨_, rfl, _, rfl, hset ?_⟩
        refine ⟨d, b', way f f2 h, S, blkOf (gapsOf L') S h, f, rfl, way_one f f2 h, (hd.1.same e06), hblk6, so.ord, so.few, fun H7 q e7 q0 hq7 => ?_⟩
        refine nx_of ?_
        have e07 := e06.trans e7
        refine ⟨_, rfl, _, rfl, g, q, L, S, _, rfl, e07 _ _ hg, hR.same e07, okl, few, hq7, wi, fun H8 r B e8 r0 hr8 hB => ?_⟩
        refine ⟨Nat.zero_le _, fun z hz => ?_⟩
        have nrz : r ≠ z := ne_of_none hr8 hz
        refine ⟨r, z, _, rfl, rfl, SqL.of (by rw [upd_ne nrz]; exact hr8), SqL.of upd_same, _, rfl, ?_⟩
        have e79 : Same H7 (upd H8 z (.lst [])) := e8.trans (same_upd hz)
        generalize upd H8 z (.lst []) = H9 at e79 ⊢
        have e09 := e07.trans e79
        have e69 := e6.trans (e7.trans e79)
        by_cases had : Adm (gapsOf L') (shift f (blkOf (gapsOf L') S h) (way f f2 h))
        · obtain rfl : B = [] := hB.mpr (sr.adm.mpr had)
          refine iteT ?_
          have hdd := dist_on (G := gapsOf L') so.nd hhm hne
          refine ⟨_, rfl, _, rfl, _, rfl, sy, q, e, S, L', _, f2, rfl, hs.same e09, so, ⟨hq7.same e79, fun n hn => ?_, had⟩, he.same e09, fun H10 e10 => ?_⟩
          · have b1 := bf n hn
            have b2 := way_one f f2 h
            unfold shift
            split <;> omega
          refine ⟨_, rfl, _, _, rfl, rfl, ?_⟩
          have hsimp : (!decide (V.int ((dist (heads (gapsOf L') S) (shift f (blkOf (gapsOf L') S h) (way f f2 h)) f2 : Nat) : Int) = V.int (((dist (heads (gapsOf L') S) f f2 : Nat) : Int) - 1))) = false := by
            simp
            omega
          exact ⟨rfl, _, rfl, ite_no hsimp ⟨⟨_, _, rfl⟩, e69.trans e10⟩⟩
        · have hB0 : (refs B).isEmpty = false := by
            cases B with
            | nil => exact absurd (sr.adm.mp (hB.mp rfl)) had
            | cons a b => rfl
          exact ite_no hB0 (ite_no rfl ⟨⟨_, _, rfl⟩, e69⟩)
      · rintro σ H6 ⟨⟨u10, u11, rfl⟩, e6⟩
        refine ⟨_, rfl, _, rfl, b, e, S, m, f2, rfl, rfl, hb5.same e6, (he.1.same e05).same e6, ?_⟩
        rw [sameAll_iff.mpr hall]
        exact k H6 (e05.trans e6)
end
end K73
set_option maxHeartbeats 4000000
/-! plain parts of the law. -/
namespace K73
open PySem PySem.Spec PyProof.Rows L2
theorem ch_sub {N : Type} {G G' : List (Rl N)} (h : ∀ r, r ∈ G → r ∈ G') {a b : Option N} {t : Int} (c : Ch G a b t) : Ch G' a b t := by
  induction c with
  | nil => exact .nil _
  | snoc r _ hr e ih => exact .snoc r ih (h r hr) e
theorem mate_same {N : Type} {G G' : List (Rl N)} (h : ∀ r, r ∈ G ↔ r ∈ G') {a b : Option N} : Mate G a b ↔ Mate G' a b :=
  ⟨fun ⟨t, q1, q2⟩ => ⟨t, ch_sub (fun r => (h r).mp) q1, ch_sub (fun r => (h r).mp) q2⟩, fun ⟨t, q1, q2⟩ => ⟨t, ch_sub (fun r => (h r).mpr) q1, ch_sub (fun r => (h r).mpr) q2⟩⟩
theorem merge_has (k : Key) : ∀ (more acc : List (Key × V)), (valV (mergeK acc more) k).isSome = true ↔ (valV acc k).isSome = true ∨ ∃ kv ∈ more, kv.1 = k
  | [], acc => by
    constructor
    · exact .inl
    · rintro (h | ⟨kv, h, _⟩)
      · exact h
      · cases h
  | kv :: more, acc => by
    show (valV (mergeK (putK acc kv.1 kv.2) more) k).isSome = true ↔ _
    rw [merge_has k more, valV_put]
    by_cases e : k = kv.1
    · rw [if_pos e]
      exact ⟨fun _ => .inr ⟨kv, .head _, e.symm⟩, fun _ => .inl rfl⟩
    · rw [if_neg e]
      constructor
      · rintro (h | ⟨q, h, hq⟩)
        · exact .inl h
        · exact .inr ⟨q, .tail _ h, hq⟩
      · rintro (h | ⟨q, h, hq⟩)
        · exact .inl h
        · rcases List.mem_cons.mp h with z | z
          · exact absurd (by rw [← hq, z]) e
          · exact .inr ⟨q, z, hq⟩
theorem pt_inj {S : List Str} {f g : Str → Int} (h : pt S f = pt S g) : ∀ n ∈ S, f n = g n := fun n hn => by
  unfold pt at h
  have q := List.map_inj_left.mp h n hn
  exact V.int.inj (congrArg Prod.snd q)
theorem PtAt.one {H : Hp} {a : Addr} {S : List Str} {f g : Str → Int} (h : PtAt H a S f) (h' : PtAt H a S g) : ∀ n ∈ S, f n = g n := by
  unfold PtAt at h h'
  rw [h] at h'
  exact pt_inj (by injection h' with q; injection q)
def TextAt (E : List (Addr × (Str → Int))) (S : List Str) (x y : V) (H : Hp) : Prop := ∃ q ∈ E, x = .ref q.1 ∧ ∃ t, y = .ref t ∧ H t = some (.tup [.str (shownOf S q.2), .bl true])
theorem texts_of {K : PySem.W.Frag} {E : List (Addr × (Str → Int))} {S : List Str} {H : Hp} : ∀ {xs ys : List V}, Paired (fun x y => TextAt E S x y H) xs ys →
    ∃ (ts : List Addr) (kvs : List (Key × V)), ys = ts.map V.ref ∧ Paired (fun t kv => SqT K H t [kV kv.1, kv.2]) ts kvs ∧ (∀ kv ∈ kvs, ∃ q ∈ E, kv.1 = .inr (shownOf S q.2)) ∧ ∀ x ∈ xs, ∃ kv ∈ kvs, ∃ q ∈ E, x = .ref q.1 ∧ kv.1 = .inr (shownOf S q.2)
  | [], _, .nil => ⟨[], [], rfl, .nil, fun _ h => absurd h List.not_mem_nil, fun _ h => absurd h List.not_mem_nil⟩
  | x :: xs, _, .cons ⟨q, hq, ex, t, ey, ht⟩ r => by
    obtain ⟨ts, kvs, e1, e2, e3, e4⟩ := texts_of (K := K) r
    refine ⟨t :: ts, (.inr (shownOf S q.2), .bl true) :: kvs, by rw [ey, e1]; rfl, .cons (SqT.of ht) e2, fun kv h => ?_, fun z h => ?_⟩
    · rcases List.mem_cons.mp h with h | h
      · exact ⟨q, hq, by rw [h]⟩
      · exact e3 kv h
    · rcases List.mem_cons.mp h with h | h
      · exact ⟨_, .head _, q, hq, h.trans ex, rfl⟩
      · obtain ⟨kv, h1, h2⟩ := e4 z h
        exact ⟨kv, .tail _ h1, h2⟩
theorem good_at {K : PySem.W.Frag} {E : List (Addr × (Str → Int))} {S : List Str} {H H' : Hp} {G : List Rul} {gd : Addr} {kvs : List (Key × V)} (wi : Within G S)
    (pts : ∀ q ∈ E, PtAt H q.1 S q.2 ∧ Adm G q.2 ∧ ∀ n ∈ S, -950 ≤ q.2 n ∧ q.2 n ≤ 950) (all : ∀ m : Str → Int, Adm G m → ∃ q ∈ E, ∀ n ∈ S, q.2 n = m n)
    (h1 : ∀ kv ∈ kvs, ∃ q ∈ E, kv.1 = .inr (shownOf S q.2)) (h2 : ∀ x ∈ E.map (fun q => V.ref q.1), ∃ kv ∈ kvs, ∃ q ∈ E, x = .ref q.1 ∧ kv.1 = .inr (shownOf S q.2)) (hg : H' gd = some (.dK (mergeK [] kvs))) : GoodAt H' gd G S := by
  refine ⟨_, hg, fun m hm => ?_⟩
  rw [merge_has]
  constructor
  · rintro (h | ⟨kv, hk, e⟩)
    · cases h
    · obtain ⟨q, hq, e2⟩ := h1 kv hk
      obtain ⟨_, ad, bd⟩ := pts q hq
      have e3 : shownOf S q.2 = shownOf S m := Sum.inr.inj (e2.symm.trans e)
      have e4 := shown_inj (fun n hn => ⟨by have := bd n hn; omega, hm n hn⟩) e3
      exact adm_congr wi e4 ad
  · intro ad
    obtain ⟨q, hq, e⟩ := all m ad
    obtain ⟨kv, hk, q2, hq2, e2, e3⟩ := h2 _ (List.mem_map.mpr ⟨q, hq, rfl⟩)
    have ea : q.1 = q2.1 := V.ref.inj e2
    have p1 := (pts q hq).1
    rw [ea] at p1
    have e4 := p1.one (pts q2 hq2).1
    exact .inr ⟨kv, hk, by rw [e3, shown_congr fun n hn => (e4 n hn).symm.trans (e n hn)]⟩
def stepD (l : List (Str × Int)) : PyData := .list (l.map fun s => .tuple [.str s.1, .int s.2])
theorem dp_all {K : PySem.W.Frag} {H : Hp} : ∀ {l : List (Str × Int)} {ts : List Addr}, Paired (fun s t => StepAt H t s) l ts → DpAll K H (ts.map V.ref) (l.map fun s => PyData.tuple [.str s.1, .int s.2])
  | [], _, .nil => .nil
  | _ :: _, _, .cons h r => .cons (.tup (SqT.of h) (.cons (.str _) (.cons (.int _) .nil))) (dp_all r)
theorem dp_steps {K : PySem.W.Frag} {H : Hp} {a : Addr} {l : List (Str × Int)} {ts : List Addr} (h : H a = some (.lst (ts.map V.ref))) (r : Paired (fun s t => StepAt H t s) l ts) : Dp K H (.ref a) (stepD l) := .lst (SqL.of h) (dp_all r)
theorem can_steps : ∀ {l : List (Str × Int)}, (∀ s ∈ l, OkName s.1) → PyData.canLayAll0 (l.map fun s => PyData.tuple [.str s.1, .int s.2]) = true ∧ PyData.depthAll (l.map fun s => PyData.tuple [.str s.1, .int s.2]) ≤ 5
  | [], _ => ⟨rfl, by decide⟩
  | s :: l, h => by
    obtain ⟨e1, e2⟩ := can_steps (l := l) fun x hx => h x (.tail _ hx)
    have e3 := okName_strOk (h s (.head _))
    rw [List.map_cons]
    constructor
    · simp [PyData.canLay0, PyData.canLayAll0, e1, e3]
    · simp [PyData.depth, PyData.depthAll]
      omega
theorem shaped_steps {l : List (Str × Int)} (h : ∀ s ∈ l, OkName s.1) : SeqAt.shaped (stepD l) = true := by
  obtain ⟨e1, e2⟩ := can_steps h
  unfold SeqAt.shaped stepD
  rw [Bool.and_eq_true]
  refine ⟨by unfold PyData.canLay0; exact e1, decide_eq_true ?_⟩
  unfold PyData.depth
  omega
theorem eqv_steps {l : List (Str × Int)} (h : ∀ s ∈ l, OkName s.1) : PyData.eqv (stepD l) (stepD l) = true := SeqAt.eqv_refl _ (SeqAt.canLay_of_shaped (shaped_steps h))
theorem pen_ne {H : Hp} {p c a : Addr} {n : Nat} {o : HO} (h : PenB H p c n) (ha : H a = some o) (ho : ∀ x y z, o ≠ .lst [.ref x, .int y, .int z]) : a ≠ p := fun e => by
  obtain ⟨_, i, cur, h1, _⟩ := h
  rw [e, h1] at ha
  exact ho _ _ _ (Option.some.inj ha).symm
theorem strs_no (ns : List Str) : ∀ x y z, HO.lst (ns.map V.str) ≠ .lst [.ref x, .int y, .int z] := fun x y z e => by
  injection e with e
  cases ns with
  | nil => cases e
  | cons a t => injection e with e1 _; cases e1
theorem refs_no (as : List Addr) : ∀ x y z, HO.lst (as.map V.ref) ≠ .lst [.ref x, .int y, .int z] := fun x y z e => by
  injection e with e
  match as, e with
  | [a], e => injection e with _ e2; cases e2
  | a :: b :: t, e =>
    injection e with _ e2
    injection e2 with e3 _
    cases e3
theorem refsL_no (L : List (Addr × Rul)) : ∀ x y z, HO.lst (refs L) ≠ .lst [.ref x, .int y, .int z] := by
  have e : refs L = (L.map (·.1)).map V.ref := by rw [List.map_map]; rfl
  rw [e]
  exact refs_no _
section
variable {H H' : Hp} {p c : Addr} {n : Nat}
theorem But.rules {L : List (Addr × Rul)} (b : But p H H') (hP : PenB H p c n) (h : Rules H L) : Rules H' L := fun q hq => b _ _ (pen_ne hP (h q hq) (fun _ _ _ e => by cases e)) (h q hq)
theorem But.sys {C x : Addr} {S : List Str} {L : List (Addr × Rul)} (b : But p H H') (hP : PenB H p c n) (h : SysAt C H x S L) : SysAt C H' x S L := by
  obtain ⟨dx, sl, gl, h1, h2, h3, h4⟩ := h
  exact ⟨dx, sl, gl, b _ _ (pen_ne hP h1 (fun _ _ _ e => by cases e)) h1, b _ _ (pen_ne hP h2 (strs_no _)) h2, b _ _ (pen_ne hP h3 (refsL_no _)) h3, b.rules hP h4⟩
theorem But.pt {a : Addr} {S : List Str} {f : Str → Int} (b : But p H H') (hP : PenB H p c n) (h : PtAt H a S f) : PtAt H' a S f := b _ _ (pen_ne hP h (fun _ _ _ e => by cases e)) h
theorem But.blks {G : List Rul} {S : List Str} {bs : List Addr} (b : But p H H') (hP : PenB H p c n) (h : BlksAt H G S bs) : BlksAt H' G S bs := paired_mono (fun _ _ q => b _ _ (pen_ne hP q (strs_no _)) q) h
theorem But.good {gd : Addr} {G : List Rul} {S : List Str} (b : But p H H') (hP : PenB H p c n) (h : GoodAt H gd G S) : GoodAt H' gd G S := let ⟨kvs, h1, h2⟩ := h; ⟨kvs, b _ _ (pen_ne hP h1 (fun _ _ _ e => by cases e)) h1, h2⟩
end
theorem GoodAt.same {H H' : Hp} {gd : Addr} {G : List Rul} {S : List Str} (h : GoodAt H gd G S) (e : Same H H') : GoodAt H' gd G S := let ⟨kvs, h1, h2⟩ := h; ⟨kvs, e _ _ h1, h2⟩
theorem lt_is {xs ys : List Str} (hp : xs.Perm ys) (h1 : xs.Pairwise sLt) (h2 : ys.Pairwise sLt) : xs = ys :=
  List.Perm.eq_of_pairwise (fun a b _ _ h h' => absurd (sLt_trans h h') (sLt_irrefl _)) h1 h2 hp
theorem dist_congr {N : Type} {hs : List N} {m v v' : N → Int} (h : ∀ k ∈ hs, v k = v' k) : dist hs m v = dist hs m v' := by
  unfold dist
  congr 1
  exact List.map_congr_left fun k hk => by rw [h k hk]
theorem dist_le {N : Type} {m v : N → Int} {B : Nat} : ∀ {hs : List N}, (∀ k ∈ hs, (v k - m k).natAbs ≤ B) → dist hs m v ≤ hs.length * B
  | [], _ => Nat.zero_le _
  | k :: hs, h => by
    have q := dist_le (hs := hs) fun x hx => h x (.tail _ hx)
    have q1 := h k (.head _)
    unfold dist at q ⊢
    rw [List.map_cons, List.sum_cons, List.length_cons, Nat.add_mul]
    omega
theorem heads_len {N : Type} [DecidableEq N] {G : List (Rl N)} {ns : List N} : (heads G ns).length ≤ ns.length := by
  unfold heads
  exact List.length_filter_le _ _
end K73
set_option maxHeartbeats 4000000
/-! the law. -/
namespace K73
open PySem PySem.Spec PyProof.Rows L2
section
variable {P : Program} {w : World} {K : PySem.W.Frag} {mg : Str → Option Value} {base : Heap}
def spLaw (K : PySem.W.Frag) : Sp := fun vs H Q _ => ∃ (a : Addr) (ns : List Int), vs = [.ref a] ∧ SqL K H a (ns.map V.int) ∧ ns.length ≤ 63 ∧ ∀ H', Q (.bl true) H'
theorem Tp.law (Z : Tp K mg) : FnG P w K mg base 10 Z.gLaw Z.dLaw ["_law_script"] (spLaw K) := by
  have T := Z.nm
  have G1 := Z.lPen (P := P) (w := w) (base := base)
  have G2 := Z.lBox (P := P) (w := w) (base := base)
  have G3 := Z.lMade (P := P) (w := w) (base := base)
  have G4 := Z.lFar (P := P) (w := w) (base := base)
  have G5 := Z.lBlocks (P := P) (w := w) (base := base)
  have G6 := Z.lDraw (P := P) (w := w) (base := base)
  have G7 := Z.lDistances (P := P) (w := w) (base := base)
  have G8 := Z.leastSteps (P := P) (w := w) (base := base)
  have G9 := Z.lPairRight (P := P) (w := w) (base := base)
  have GA := Z.lAfter (P := P) (w := w) (base := base)
  have GB := Z.safeSteps (P := P) (w := w) (base := base)
  refine Fun_okG Z.Law.fn cLaw (fun vs H Q E h => ?_) (fun cdv A outer s H vs Q E hr hgd h => ?_)
  · obtain ⟨a, ns, rfl, _⟩ := h
    rfl
  · obtain ⟨a, ns, rfl, ha, few, k⟩ := h
    have nd := cLaw.nd
    have hu := hu_of hr
    have hu0 := Nat.lt_of_succ_lt hu
    have hu64 := hr.units
    refine ⟨_, pss_cons (ps_set (i := 1) nd rfl (Or.inl rfl) (pe_d Z.LPen G1 (hr.mono (by decide)) rfl (pa_cons (pv 0) pa_nil)))
      (pss_cons (ps_for PassesOwn.never rfl (pi_range1 rfl T.range (pa_cons pe_int pa_nil)) (pg_name (i := 2) nd rfl (Or.inl rfl))
        (pss_cons (ps_asg (pe_d Z.LBox G2 (hr.mono (by decide)) rfl (pa_cons (pv 1) pa_nil)) (pg_tup rfl (pgs_cons (pg_name (i := 3) nd rfl (Or.inl rfl)) (pgs_cons (pg_name (i := 4) nd rfl (Or.inl rfl)) (pgs_cons (pg_name (i := 5) nd rfl (Or.inl rfl)) pgs_nil)))))
        (pss_cons (ps_par rfl nd (i := 6) (j := 7) rfl rfl (by decide) rfl rfl (pa_cons (pe_d Z.LMade G3 (hr.mono (by decide)) rfl (pa_cons (pv 3) (pa_cons (pv 4) pa_nil))) (pa_cons (pe_d Z.LBlocks G5 (hr.mono (by decide)) rfl (pa_cons (pv 3) (pa_cons (pe_d Z.LFar G4 (hr.mono (by decide)) rfl (pa_cons (pv 3) (pa_cons (pv 4) pa_nil))) pa_nil))) pa_nil)) rfl)
        (pss_cons (ps_set (i := 9) nd rfl (Or.inl rfl) (pe_callTy (call_dictP rfl) (by rfl) T.dict boot_dict (pa_cons (pe_lc (own := [("_law_held", 8)]) (g := gName 8) (tt := tYes) rfl nd (pi_list (pv 5)) (blkOk_by (N := nLaw) (sc := defScope sLaw) (by decide +kernel))
            (fun _ _ _ _ _ => pg_name (i := 8) nd rfl (Or.inl rfl)) (fun _ _ _ _ _ => pts_nil)
            (fun _ _ _ _ _ => pe_tup (pa_cons (pe_callB (call_reprPt hgd hu64) (by rfl) T.repr boot_reprK (pa_cons (pv 8) pa_nil)) (pa_cons pe_bl pa_nil)))) pa_nil)))
        (pss_cons (ps_par rfl nd (i := 10) (j := 11) rfl rfl (by decide) rfl rfl (pa_cons (pe_ix ix_list (pv 5) (pe_d Z.LDraw G6 (hr.mono (by decide)) rfl (pa_cons (pv 1) (pa_cons (pe_callB call_len_seq (by rfl) T.len PySem.boot_len (pa_cons (pv 5) pa_nil)) pa_nil))) (fun _ _ => rfl)) (pa_cons (pe_ix ix_list (pv 5) (pe_d Z.LDraw G6 (hr.mono (by decide)) rfl (pa_cons (pv 1) (pa_cons (pe_callB call_len_seq (by rfl) T.len PySem.boot_len (pa_cons (pv 5) pa_nil)) pa_nil))) (fun _ _ => rfl)) pa_nil)) rfl)
        (pss_cons (ps_set (i := 12) nd rfl (Or.inl rfl) (pe_dG Z.LDistances G7 (hr.mono (by decide)) hgd rfl (pa_cons (pv 9) (pa_cons (pv 7) (pa_cons (pv 10) pa_nil)))))
        (pss_cons (ps_for PassesOwn.never rfl (pi_list (pv 5)) (pg_name (i := 8) nd rfl (Or.inl rfl))
          (pss_one (ps_if (pt_cmpR op_ne (pe_xget2 hu (pv 12) (pe_callB (call_reprPt hgd hu64) (by rfl) T.repr boot_reprK (pa_cons (pv 8) pa_nil)) (pe_un un_neg pe_int) ⟨rfl, rfl, rfl, rfl⟩) (pe_d Z.LeastSteps G8 (hr.mono (by decide)) rfl (pa_cons (pv 6) (pa_cons (pv 10) (pa_cons (pv 8) pa_nil)))) (nomark _)) pss_no pss_nil)))
        (pss_cons (ps_if (PW.pt (pw_or (pt_not (ptv (pe_d Z.LPairRight G9 hr rfl (pa_cons (pv 6) (pa_cons (pv 4) (pa_cons (pv 7) (pa_cons (pv 10) (pa_cons (pv 11) pa_nil)))))))) (pw_or1 (pt_not (ptv (pe_d Z.LPairRight G9 hr rfl (pa_cons (pv 6) (pa_cons (pv 4) (pa_cons (pv 7) (pa_cons (pv 11) (pa_cons (pv 10) pa_nil))))))))))) pss_no pss_nil)
        (pss_cons (ps_set (i := 13) nd rfl (Or.inl rfl) (pe_lst pa_nil))
        (pss_cons (ps_for PassesOwn.never rfl (pi_list (pv 7)) (pg_name (i := 14) nd rfl (Or.inl rfl))
          (pss_one (ps_for PassesOwn.never rfl (pi_tup (pe_tup (pa_cons (pe_un un_neg pe_int) (pa_cons pe_int pa_nil)))) (pg_name (i := 15) nd rfl (Or.inl rfl))
            (pss_one (ps_if (pt_cmp (pc_din hu (pe_callB (call_reprPt hgd hu64) (by rfl) T.repr boot_reprK (pa_cons (pe_d Z.LAfter GA (hr.mono (by decide)) rfl (pa_cons (pv 10) (pa_cons (pv 14) (pa_cons (pv 15) pa_nil)))) pa_nil)) (pv 9)))
              (pss_one (ps_expr (pe_bm PySem.F.plainAttrs_list PySem.F.slot_list_append PySem.F.type_list_append mt_append (pv 13) (pa_cons (pe_tup (pa_cons (pe_ix ix_list (pv 14) pe_int (fun _ _ => rfl)) (pa_cons (pv 15) pa_nil))) pa_nil)))) pss_nil)))))
        (pss_one (ps_if (pt_cmpR (op_neD hu64) (pe_listG (E := E0) (pgen_call GB (hr.mono (by decide)) rfl Z.imSS Z.SafeSteps.kp Z.bSafeSteps .nil (pa_cons (pv 6) (pa_cons (pv 10) pa_nil))) (fun _ _ _ _ _ _ _ h => let ⟨_, _, _, _, _, _, _, _, _, _, _, _, h⟩ := h; h.elim) (fun _ _ _ h => h.elim) hr rfl T.list boot_list) (pv 13) (nomark _)) pss_no pss_nil))))))))))))
      (pss_one (ps_ret pe_bl))), ?_⟩
    have big : (1000000 : Nat) < sizeLine := by decide
    refine ⟨_, rfl, a, ns, rfl, ha, few, fun H1 p c e1 p0 c0 hP1 => ?_⟩
    refine nx_of ⟨3, rfl, by decide, by decide, ?_⟩
    refine for_range (n := 3) (fun i σ H' => ∃ (u2 u3 u4 u5 u6 u7 u8 u9 u10 u11 u12 u13 u14 u15 : Option V) (n : Nat), σ = [some (.ref a), some (.ref p), u2, u3, u4, u5, u6, u7, u8, u9, u10, u11, u12, u13, u14, u15] ∧ PenB H' p c n ∧ n ≤ i * 100) ⟨none, none, none, none, none, none, none, none, none, none, none, none, none, none, 0, rfl, hP1, Nat.zero_le _⟩ ?_ (fun σ H' _ => k H')
    rintro i σ H2 hi ⟨u2, u3, u4, u5, u6, u7, u8, u9, u10, u11, u12, u13, u14, u15, n, rfl, hP2, hn⟩
    refine ⟨_, rfl, p, c, n, rfl, hP2, by omega, fun H3 r a3 g e ny S L E b3 r0 hP3 hr3 hB nap ngp nep => ?_⟩
    refine ⟨r, _, rfl, SqT.of hr3, rfl, _, _, rfl, _, _, rfl, _, _, rfl, ⟨rfl, ?_⟩⟩
    refine nx_of ?_
    obtain ⟨hny, okN, hpm, ord, hg, hR, fewL, wi, okR, he, hpts, hall, fewE, someE⟩ := hB
    have fewS : S.length ≤ 3 := by rw [hpm.length_eq]; exact okN.few
    have fewN := okN.few
    have Snd : S.Nodup := lt_nodup ord
    have okS : ∀ z ∈ S, OkName z := fun z hz => okN.ok z (hpm.mem_iff.mp hz)
    have wiS : Within (gapsOf L) S := fun r hr => ⟨fun x hx => hpm.mem_iff.mpr ((wi r hr).1 x hx), fun x hx => hpm.mem_iff.mpr ((wi r hr).2 x hx)⟩
    obtain ⟨qa, hqa⟩ := List.exists_mem_of_ne_nil E someE
    have ada := (hpts qa hqa).2.1
    -- the system, the blocks
    refine ⟨_, rfl, _, rfl, a3, g, ny, L, rfl, hny, hg, hR, okN.nd, by omega, okN.ok, by omega, okR, wi, fun H4 x S' L' e4 x0 hS4 pm4 so4 hL' hlen => ?_⟩
    obtain rfl : S = S' := (lt_is (pm4.trans hpm.symm) so4 ord).symm
    have sr : ∀ r, r ∈ gapsOf L ↔ r ∈ gapsOf L' := fun r => (hL' r).symm
    refine ⟨_, rfl, _, rfl, _, rfl, a3, g, ny, L, rfl, e4 _ _ hny, e4 _ _ hg, hR.same e4, okN.nd, by omega, by omega, wi, fun H5 d5 e5 d0 hF => ?_⟩
    have e35 := e4.trans e5
    refine ⟨a3, d5, ny, S, gapsOf L', farAll (gapsOf L) ny, rfl, e35 _ _ hny, hF, hpm, ord, by omega, okS, fun a ha b hb => (joined_mate wi ada okN.nd ha hb).trans (mate_same sr), fun H6 q bs e6 q0 hq6 hbs => ?_⟩
    refine ⟨_, _, rfl, ?_⟩
    refine nx_of ?_
    have so : Sound S L' := ⟨by omega, by omega, fun r hr => wiS r ((sr r).mpr hr), Snd, ord⟩
    have sad : ∀ {f : Str → Int}, Adm (gapsOf L) f ↔ Adm (gapsOf L') f := fun {f} => ⟨fun h r hr => h r ((sr r).mpr hr), fun h r hr => h r ((sr r).mp hr)⟩
    have e36 := e35.trans e6
    have hS6 := hS4.same (e5.trans e6)
    have pts6 : ∀ q ∈ E, PtAt H6 q.1 S q.2 ∧ Adm (gapsOf L') q.2 ∧ ∀ n ∈ S, -950 ≤ q.2 n ∧ q.2 n ≤ 950 := fun q hq => ⟨(hpts q hq).1.same e36, sad.mp (hpts q hq).2.1, (hpts q hq).2.2⟩
    have all' : ∀ m : Str → Int, Adm (gapsOf L') m → ∃ q ∈ E, ∀ n ∈ S, q.2 n = m n := fun m hm => hall m (sad.mpr hm)
    have fits : ∀ m : Str → Int, (∀ n ∈ S, -1000 ≤ m n ∧ m n ≤ 1000) → (shownOf S m).length ≤ sizeLine := fun m hm => shown_fits (by omega) fun n hn => ⟨okS n hn, hm n hn⟩
    have mil : ∀ m : Str → Int, (∀ n ∈ S, -1000 ≤ m n ∧ m n ≤ 1000) → ∀ n ∈ S, -1000000 ≤ m n ∧ m n ≤ 1000000 := fun m hm n hn => by have := hm n hn; omega
    have bdE : ∀ q ∈ E, ∀ n ∈ S, -1000 ≤ q.2 n ∧ q.2 n ≤ 1000 := fun q hq n hn => by have := (hpts q hq).2.2 n hn; omega
    have bdA : ∀ m : Str → Int, Adm (gapsOf L') m → ∀ n ∈ S, -950 ≤ m n ∧ m n ≤ 950 := fun m hm n hn => by
      obtain ⟨q, hq, e⟩ := all' m hm
      rw [← e n hn]
      exact (hpts q hq).2.2 n hn
    have he6 := e36 _ _ he
    have hP6 := hP3.same e36
    -- the good texts
    refine ⟨_, rfl, e, rfl, ⟨_, SqL.of he6⟩, fun D hD => ?_⟩
    refine lc_rel walk_list hD (E.map fun q => V.ref q.1) rfl (by rw [List.length_map]; omega) (fun H' e' => SqL.of (e' _ _ he6)) (fun i H x H' _ y => y) (fun _ => true) (TextAt E S) (fun x y H H' e' h => let ⟨q, h1, h2, t, h3, h4⟩ := h; ⟨q, h1, h2, t, h3, e' _ _ h4⟩)
      (fun _ H' _ _ _ q => q H' (Same.refl _)) ?_ ?_
    · intro y H' Qe hy _ e' ⟨uD, huD⟩ qq
      obtain ⟨q0, hq0, rfl⟩ := List.mem_map.mp hy
      refine ⟨_, rfl, q0.1, S, q0.2, rfl, (pts6 q0 hq0).1.same e', mil _ (bdE q0 hq0), fits _ (bdE q0 hq0), (by show 2 ≤ sizeLine; decide), fun T hT => ?_⟩
      have nTD : T ≠ D := fun z => by rw [z, huD] at hT; cases hT
      exact qq _ _ (same_upd hT) fun H5 hk => ⟨q0, hq0, rfl, T, rfl, hk _ _ nTD upd_same⟩
    intro H7 ys e7 hD7 r7
    have hfil : ((E.map fun q => V.ref q.1).filter fun _ => true) = E.map fun q => V.ref q.1 := List.filter_eq_self.mpr fun _ _ => rfl
    rw [hfil] at r7
    obtain ⟨ts, kvs, rfl, t1, t2, t3⟩ := texts_of (K := K) r7
    refine ⟨D, ts, kvs, rfl, SqL.of hD7, t1, fun gd hgd7 => ?_⟩
    refine nx_of ?_
    have e68 := e7.trans (same_upd (o := .dK (mergeK [] kvs)) hgd7)
    have good : GoodAt (upd H7 gd (.dK (mergeK [] kvs))) gd (gapsOf L') S := good_at (K := K) so.wi pts6 all' t2 t3 upd_same
    generalize upd H7 gd (.dK (mergeK [] kvs)) = H8 at e68 good ⊢
    have e38 := e36.trans e68
    have hP8 := hP6.same e68
    have he8 := e68 _ _ he6
    have someE' : 1 ≤ E.length := List.length_pos_iff.mpr someE
    -- two points
    refine ⟨_, rfl, _, rfl, _, rfl, e, _, rfl, .inl (SqL.of he8), p, c, n + 60, _, rfl, hP8, by omega, ?_, ?_, fun H9 d1 d10 d11 b9 hP9 => ?_⟩
    · rw [List.length_map]; omega
    · rw [List.length_map]; omega
    obtain ⟨j1, rfl⟩ := Int.eq_ofNat_of_zero_le d10
    have hj1 : j1 < E.length := by rw [List.length_map] at d11; omega
    have hq1 : E[j1]? = some E[j1] := List.getElem?_eq_getElem hj1
    have mq1 : E[j1] ∈ E := List.getElem_mem hj1
    generalize E[j1] = q1 at hq1 mq1
    have ix1 : (E.map fun q => V.ref q.1)[j1]? = some (.ref q1.1) := by rw [List.getElem?_map, hq1]; rfl
    have he9 := b9 _ _ nep he8
    refine ⟨e, _, _, _, rfl, rfl, SqL.of he9, atI_nat ix1, ?_⟩
    refine ⟨_, rfl, _, rfl, _, rfl, e, _, rfl, .inl (SqL.of he9), p, c, n + 60 + 1, _, rfl, hP9, by omega, ?_, ?_, fun H10 d2 d20 d21 b10 hP10 => ?_⟩
    · rw [List.length_map]; omega
    · rw [List.length_map]; omega
    obtain ⟨j2, rfl⟩ := Int.eq_ofNat_of_zero_le d20
    have hj2 : j2 < E.length := by rw [List.length_map] at d21; omega
    have hq2 : E[j2]? = some E[j2] := List.getElem?_eq_getElem hj2
    have mq2 : E[j2] ∈ E := List.getElem_mem hj2
    generalize E[j2] = q2 at hq2 mq2
    have ix2 : (E.map fun q => V.ref q.1)[j2]? = some (.ref q2.1) := by rw [List.getElem?_map, hq2]; rfl
    have he10 := b10 _ _ nep he9
    refine ⟨e, _, _, _, rfl, rfl, SqL.of he10, atI_nat ix2, ?_⟩
    refine ⟨_, _, rfl, ?_⟩
    refine nx_of ?_
    have bb : But p H8 H10 := b9.trans b10
    have hS10 := bb.sys hP8 (hS6.same e68)
    have pts10 : ∀ q ∈ E, PtAt H10 q.1 S q.2 := fun q hq => bb.pt hP8 ((pts6 q hq).1.same e68)
    have hbs10 := bb.blks hP8 (hbs.same e68)
    have hq10 := bb _ _ (pen_ne hP8 (e68 _ _ hq6) (refs_no bs)) (e68 _ _ hq6)
    have good10 := bb.good hP8 good
    have hg10 := bb _ _ ngp (e38 _ _ hg)
    have hR10 := (hR.same e38).but hP8 bb
    have adE : ∀ q ∈ E, Adm (gapsOf L') q.2 := fun q hq => (pts6 q hq).2.1
    have smE : ∀ q ∈ E, Small S q.2 := fun q hq n hn => by have := bdE q hq n hn; omega
    clear b3 r0 hr3 ngp nap hny hg hR he e4 x0 hS4 e5 d0 hF e35 e6 q0 hq6 hbs e36 hS6 hpts he6 hD hD7 e7 r7 t1 hgd7 e68 good hP6 e38 hP8 he8 b9 b10 he9 hP9 hP3 hP2 bb
    -- the distances
    refine ⟨_, rfl, _, rfl, _, rfl, gd, q, q1.1, S, gapsOf L', q1.2, bs, rfl, good10, hq10, hbs10, pts10 q1 mq1, adE q1 mq1, ord, fewS, okS, so.wi, bdA, ⟨E.map (·.2), by rw [List.length_map]; omega, fun m hm => ?_⟩, fun H11 fd fnd e11 fd0 hfnd hcov => ?_⟩
    · obtain ⟨z, hz, e⟩ := all' m hm
      exact ⟨z.2, List.mem_map.mpr ⟨z, hz, rfl⟩, e⟩
    refine nx_of ?_
    have he11 := e11 _ _ he10
    refine ⟨_, rfl, e, rfl, ⟨_, SqL.of he11⟩, ?_⟩
    refine for_list (K := K) (a := e) (xs := E.map fun q => V.ref q.1) (fun j σ H' => (∃ u8, σ = [some (.ref a), some (.ref p), some (.int (0 + (i : Int))), some (.ref a3), some (.ref g), some (.ref e), some (.ref x), some (.ref q), u8, some (.ref gd), some (.ref q1.1), some (.ref q2.1), some (.ref fd), u13, u14, u15]) ∧ Same H11 H') ⟨⟨_, rfl⟩, Same.refl _⟩ (fun j σ H' _ e' => SqL.of (e'.2 _ _ he11)) ?_ ?_
    · rintro j y σ H12 hj ⟨⟨v8, rfl⟩, e12⟩
      obtain ⟨q0, hq0, rfl⟩ := List.mem_map.mp (List.mem_of_getElem? hj)
      have e1012 := e11.trans e12
      obtain ⟨m, hN, hm⟩ := hfnd
      obtain ⟨z, hz, ez⟩ := hcov q0.2 (adE q0 hq0)
      have hget := (hN.same e12).get (some (shownOf S q0.2))
      have hv : m (some (shownOf S q0.2)) = some (.int ((dist (heads (gapsOf L') S) q1.2 q0.2 : Nat) : Int)) := by rw [← shown_congr ez, hm z hz, dist_congr (fun k hk => ez k (mem_heads.mp hk).1)]
      rw [hv] at hget
      refine ⟨_, rfl, fd, rfl, (hN.same e12).isX, _, rfl, q0.1, S, q0.2, rfl, (pts10 q0 hq0).same e1012, mil _ (bdE q0 hq0), fits _ (bdE q0 hq0), 1, rfl, _, hget, ?_⟩
      refine ⟨_, rfl, _, rfl, _, rfl, x, q1.1, q0.1, S, L', q1.2, q0.2, rfl, hS10.same e1012, so, ⟨(pts10 q1 mq1).same e1012, smE q1 mq1, adE q1 mq1⟩, ⟨(pts10 q0 hq0).same e1012, smE q0 hq0, adE q0 hq0⟩, fun H13 e13 => ?_⟩
      refine ⟨rfl, _, rfl, ite_no (by simp) ⟨⟨_, rfl⟩, e12.trans e13⟩⟩
    rintro σ H12 ⟨⟨v8, rfl⟩, e12⟩
    have e1012 := e11.trans e12
    have okl : OkL L := fun q hq => ⟨(okR q hq).lo, (okR q hq).hi⟩
    have b9000 : ∀ q ∈ E, ∀ n ∈ S, -9000 ≤ q.2 n ∧ q.2 n ≤ 9000 := fun q hq n hn => by have := bdE q hq n hn; omega
    have far : ∀ q ∈ E, ∀ q' ∈ E, dist (heads (gapsOf L') S) q.2 q'.2 ≤ 1000000 := fun q hq q' hq' => by
      have h1 : dist (heads (gapsOf L') S) q.2 q'.2 ≤ (heads (gapsOf L') S).length * 2000 := dist_le fun k hk => by
        have hk' := (mem_heads.mp hk).1
        have := bdE q hq k hk'
        have := bdE q' hq' k hk'
        omega
      have h2 := heads_len (G := gapsOf L') (ns := S)
      have h3 : (heads (gapsOf L') S).length * 2000 ≤ 3 * 2000 := Nat.mul_le_mul_right _ (by omega)
      omega
    have adm1 : ∀ {H' : Hp}, Same H10 H' → ∀ q ∈ E, AdmAt H' q.1 S L' q.2 := fun e' q hq => ⟨(pts10 q hq).same e', smE q hq, adE q hq⟩
    refine ⟨_, rfl, _, rfl, _, rfl, _, rfl, _, rfl, x, g, q, q1.1, q2.1, S, L, L', q1.2, q2.2, bs, rfl, hS10.same e1012, so, e1012 _ _ hg10, hR10.same e1012, okl, by omega, wiS, sr, e1012 _ _ hq10, hbs10.same e1012, adm1 e1012 q1 mq1, adm1 e1012 q2 mq2, b9000 q1 mq1, far q1 mq1 q2 mq2, fun H13 e13 => ⟨_, rfl, iteF ?_⟩⟩
    have e1013 := e1012.trans e13
    refine ⟨_, rfl, _, rfl, _, rfl, _, rfl, _, rfl, x, g, q, q2.1, q1.1, S, L, L', q2.2, q1.2, bs, rfl, hS10.same e1013, so, e1013 _ _ hg10, hR10.same e1013, okl, by omega, wiS, sr, e1013 _ _ hq10, hbs10.same e1013, adm1 e1013 q2 mq2, adm1 e1013 q1 mq1, b9000 q2 mq2, far q2 mq2 q1 mq1, fun H14 e14 => ⟨_, rfl, iteF ?_⟩⟩
    have e1014 := e1013.trans e14
    -- what is due
    refine nx_of ⟨Nat.zero_le _, fun du hdu => ?_⟩
    refine nx_of ?_
    have hdu0 : (upd H14 du (.lst [])) du = some (.lst (([] : List Addr).map V.ref)) := upd_same
    have e15 : Same H14 (upd H14 du (.lst [])) := same_upd hdu
    generalize upd H14 du (.lst []) = H15 at hdu0 e15 ⊢
    have e1015 := e1014.trans e15
    refine ⟨_, rfl, q, rfl, ⟨_, SqL.of (e1015 _ _ hq10)⟩, ?_⟩
    have e1415 : Same H14 H15 := e15
    have hpq : H14 q = some (.lst (bs.map V.ref)) := e1014 _ _ hq10
    have hbs14 := hbs10.same e1014
    refine for_list (K := K) (a := q) (xs := bs.map V.ref) (fun j σ H' => (∃ u14 u15, σ = [some (.ref a), some (.ref p), some (.int (0 + (i : Int))), some (.ref a3), some (.ref g), some (.ref e), some (.ref x), some (.ref q), v8, some (.ref gd), some (.ref q1.1), some (.ref q2.1), some (.ref fd), some (.ref du), u14, u15]) ∧ Same H14 H' ∧ ∃ ts : List Addr, H' du = some (.lst (ts.map V.ref)) ∧ Paired (fun s t => StepAt H' t s) (safeOf (gapsOf L') S q1.2 (stepsOf ((heads (gapsOf L') S).take j))) ts)
      ⟨⟨_, _, rfl⟩, e1415, [], hdu0, .nil⟩ (fun j σ H' _ e' => SqL.of (e'.2.1 _ _ hpq)) ?_ ?_
    · rintro j y σ H16 hj ⟨⟨v14, v15, rfl⟩, e16, ts1, hd1, hp1⟩
      obtain ⟨b', hb', rfl⟩ := ref_get hj
      obtain ⟨h, hh, hblk⟩ := paired_nth' hbs14 hb'
      have hhm : h ∈ heads (gapsOf L') S := List.mem_of_getElem? hh
      refine ⟨_, rfl, (by show 2 ≤ sizeLine; decide), fun t ht => ?_⟩
      have e17 := same_upd (o := .tup [.int (-1), .int 1]) ht
      have ht17 : (upd H16 t (.tup [.int (-1), .int 1])) t = some (.tup [.int (-1), .int 1]) := upd_same
      have ndt : du ≠ t := ne_of_none hd1 ht
      generalize upd H16 t (.tup [.int (-1), .int 1]) = H17 at e17 ht17 ⊢
      refine ⟨t, rfl, ⟨_, SqT.of ht17⟩, ?_⟩
      refine for_tup (K := K) (a := t) (xs := [.int (-1), .int 1]) (fun j' σ H' => (∃ u15, σ = [some (.ref a), some (.ref p), some (.int (0 + (i : Int))), some (.ref a3), some (.ref g), some (.ref e), some (.ref x), some (.ref q), v8, some (.ref gd), some (.ref q1.1), some (.ref q2.1), some (.ref fd), some (.ref du), some (.ref b'), u15]) ∧ Same H14 H' ∧ H' t = some (.tup [.int (-1), .int 1]) ∧ ∃ ts : List Addr, H' du = some (.lst (ts.map V.ref)) ∧ Paired (fun s t => StepAt H' t s) (safeOf (gapsOf L') S q1.2 (stepsOf ((heads (gapsOf L') S).take j) ++ (twoOf h).take j')) ts)
        ⟨⟨_, rfl⟩, e16.trans e17, ht17, ts1, e17 _ _ hd1, by rw [List.take_zero, List.append_nil]; exact paired_mono (fun _ _ q => e17 _ _ q) hp1⟩ (fun j σ H' _ e' => SqT.of e'.2.2.1) ?_ ?_
      · rintro j' y σ H18 hj' ⟨⟨w15, rfl⟩, e18, ht18, ts2, hd2, hp2⟩
        obtain ⟨c', hc, rfl, hcj⟩ : ∃ c : Int, (c = 1 ∨ c = -1) ∧ y = .int c ∧ (twoOf h)[j']? = some (h, c) := by
          match j', hj' with
          | 0, hj => exact ⟨-1, .inr rfl, (Option.some.inj hj).symm, rfl⟩
          | 1, hj => exact ⟨1, .inl rfl, (Option.some.inj hj).symm, rfl⟩
        have e1018 := e1014.trans e18
        refine ⟨_, rfl, _, rfl, _, rfl, q1.1, b', c', S, blkOf (gapsOf L') S h, q1.2, rfl, hc, (pts10 q1 mq1).same e1018, e18 _ _ hblk, ord, by omega, fun H19 t9 e19 t90 hp9 => ?_⟩
        have bl : ∀ n ∈ S, -1000 ≤ shift q1.2 (blkOf (gapsOf L') S h) c' n ∧ shift q1.2 (blkOf (gapsOf L') S h) c' n ≤ 1000 := fun n hn => by
          have := bdA _ (adE q1 mq1) n hn
          unfold shift
          split <;> omega
        have e1019 := e1018.trans e19
        obtain ⟨kg, hg1, hg2⟩ := good10
        have hgd9 := e1019 _ _ hg1
        have hiff := hg2 _ bl
        have hd9 := e19 _ _ hd2
        have hp9' : Paired (fun s t => StepAt H19 t s) (safeOf (gapsOf L') S q1.2 (stepsOf ((heads (gapsOf L') S).take j) ++ (twoOf h).take j')) ts2 := paired_mono (fun _ _ q => e19 _ _ q) hp2
        have htk : stepsOf ((heads (gapsOf L') S).take j) ++ (twoOf h).take (j' + 1) = (stepsOf ((heads (gapsOf L') S).take j) ++ (twoOf h).take j') ++ [(h, c')] := by rw [take_snoc hcj, List.append_assoc]
        refine ⟨t9, S, _, rfl, hp9, mil _ bl, fits _ bl, _, rfl, gd, _, rfl, DGet.k (k := Sum.inr (shownOf S (shift q1.2 (blkOf (gapsOf L') S h) c'))) hgd9, _, rfl, ?_⟩
        cases hin : (valV kg (.inr (shownOf S (shift q1.2 (blkOf (gapsOf L') S h) c')))).isSome with
        | false =>
          have nad : ¬ Adm (gapsOf L') (shift q1.2 (blkOf (gapsOf L') S h) c') := fun z => by
            rw [hiff.mpr z] at hin
            cases hin
          refine iteF ⟨⟨_, rfl⟩, e18.trans e19, e19 _ _ ht18, ts2, hd9, ?_⟩
          rw [htk, safeOf_app, safeOf_no nad, List.append_nil]
          exact hp9'
        | true =>
          have yad := hiff.mp hin
          have h0 : ((blkOf (gapsOf L') S h).map V.str)[0]? = some (.str h) := by
            rw [List.getElem?_map, ← List.head?_eq_getElem?, (mem_heads.mp hhm).2.2]
            rfl
          refine iteT ⟨_, rfl, .inl ⟨rfl, _, SqL.of hd9⟩, _, rfl, b', _, _, _, rfl, rfl, SqL.of (e19 _ _ (e18 _ _ hblk)), atI_nat (j := 0) h0, _, rfl, (by show 2 ≤ sizeLine; decide), fun T hT => ?_⟩
          have nTd : T ≠ du := fun z => by rw [z, hd9] at hT; cases hT
          have hd20 := (same_upd (o := .tup [.str h, .int c']) hT) _ _ hd9
          have hlen : ts2.length ≤ 8 := by
            rw [← paired_len hp9']
            have h1 : (safeOf (gapsOf L') S q1.2 (stepsOf ((heads (gapsOf L') S).take j) ++ (twoOf h).take j')).length ≤ (stepsOf ((heads (gapsOf L') S).take j) ++ (twoOf h).take j').length := List.length_filter_le _ _
            have h2 := stepsOf_len ((heads (gapsOf L') S).take j)
            have h3 : ((heads (gapsOf L') S).take j).length ≤ (heads (gapsOf L') S).length := List.length_take_le' _ _
            have h4 := heads_len (G := gapsOf L') (ns := S)
            have h5 : ((twoOf h).take j').length ≤ 2 := List.length_take_le' _ _
            rw [List.length_append] at h1
            omega
          refine ⟨du, _, _, rfl, rfl, hd20, by rw [List.length_map]; omega, ?_⟩
          have kp : ∀ b o, b ≠ du → H19 b = some o → (upd (upd H19 T (.tup [.str h, .int c'])) du (.lst (ts2.map V.ref ++ [.ref T]))) b = some o := fun b o h1 e => by
            rw [upd_ne h1]
            exact (same_upd hT) _ _ e
          refine ⟨⟨_, rfl⟩, fun b o e => kp b o (ne_of_none e hdu) (e19 _ _ (e18 _ _ e)), kp _ _ ndt.symm (e19 _ _ ht18), ts2 ++ [T], by rw [upd_same, List.map_append]; rfl, ?_⟩
          rw [htk, safeOf_app, safeOf_yes yad]
          refine paired_snoc (paired_mono (fun s t q => kp _ _ (fun z => ?_) q) hp9') ?_
          · have q : H19 t = some (.tup [.str s.1, .int s.2]) := q
            rw [z, hd9] at q
            cases q
          · show (upd (upd H19 T (.tup [.str h, .int c'])) du (.lst (ts2.map V.ref ++ [.ref T]))) T = _
            rw [upd_ne nTd, upd_same]
      · rintro σ H18 ⟨⟨w15, rfl⟩, e18, ht18, ts2, hd2, hp2⟩
        refine ⟨⟨_, _, rfl⟩, e18, ts2, hd2, ?_⟩
        rw [take_snoc hh, stepsOf_snoc]
        exact hp2
    rintro σ H16 ⟨⟨v14, v15, rfl⟩, e16, ts1, hd1, hp1⟩
    have e1016 := e1014.trans e16
    have hall0 : (heads (gapsOf L') S).take (bs.map V.ref).length = heads (gapsOf L') S := by rw [List.length_map, ← paired_len hbs14, List.take_length]
    rw [hall0] at hp1
    refine ⟨_, rfl, _, rfl, x, q1.1, S, L', q1.2, rfl, hS10.same e1016, so, adm1 e1016 q1 mq1, fun H17 ts3 e17 hp3 lp hlp => ?_⟩
    have e18 := same_upd (o := .lst (ts3.map V.ref)) hlp
    have okSt : ∀ s ∈ safeOf (gapsOf L') S q1.2 (stepsOf (heads (gapsOf L') S)), OkName s.1 := fun s hs => okS _ (mem_heads.mp (stepsOf_mem (List.mem_filter.mp hs).1).1).1
    refine ⟨_, rfl, stepD _, stepD _, dp_steps upd_same (paired_mono (fun _ _ q => e18 _ _ q) hp3), dp_steps (e18 _ _ (e17 _ _ hd1)) (paired_mono (fun _ _ q => e18 _ _ (e17 _ _ q)) hp1), shaped_steps okSt, shaped_steps okSt, _, rfl, ite_no (by rw [eqv_steps okSt]; rfl) ?_⟩
    exact ⟨_, _, _, _, _, _, _, _, _, _, _, _, _, _, n + 60 + 1 + 1, rfl, (hP10.same e1016).same (e17.trans e18), by omega⟩
end
end K73
set_option maxHeartbeats 200000
/-! The end of a law whose promise asks where the run stands (no repr under way). -/
namespace K73
open PySem PySem.Spec PyProof.Rows L2
abbrev listO (us : List Value) : Obj := { cls := .type "list", data := .seq us.toArray }
/-- what is tracked at the law's call: the script, if the top does not own it -/
def scr (K : PySem.W.Frag) (o : Obj) (a : Addr) (zs : List V) : Hp := fun b => if b = a ∧ K.lookup a = none then some (.frz o (.lst zs)) else none
section
variable {K : PySem.W.Frag} {o : Obj} {a b : Addr} {zs : List V} {u : HO}
theorem scr_some (e : scr K o a zs b = some u) : b = a ∧ K.lookup a = none ∧ u = .frz o (.lst zs) := by
  unfold scr at e
  split at e
  · rename_i h
    exact ⟨h.1, h.2, (Option.some.inj e).symm⟩
  · cases e
theorem scr_dict {h : Heap} {ob : Obj} {us : List Value} {es : Array DictEntry} {ep : Nat} (ha : h.get? a = some (listO us)) (e : h.get? b = some ob) (d : ob.data = .dict es ep) : scr K o a zs b = none := by
  cases hs : scr K o a zs b with
  | none => rfl
  | some u =>
    rw [(scr_some hs).1, ha] at e
    rw [← Option.some.inj e] at d
    cases d
theorem scr_ns {h : Heap} {us : List Value} {m : Str → Option Value} (ha : h.get? a = some (listO us)) (n : h.Ns b m) : (hidT h (scr K o a zs)).Ns b m :=
  let ⟨ob, es, ep, e, d, r⟩ := n
  ⟨ob, es, ep, hidT_get e (scr_dict ha e d), d, r⟩
theorem scr_in {h : Heap} (X : K.In h) : K.In (hidT h (scr K o a zs)) := fun b ob e => by
  refine hidT_get (X b ob e) ?_
  cases hs : scr K o a zs b with
  | none => rfl
  | some u =>
    obtain ⟨e1, e2, _⟩ := scr_some hs
    rw [e1, e2] at e
    cases e
end
theorem g_call {P : Program} {w : World} {K : PySem.W.Frag} {mg mb : Str → Option Value} {k : Nat} {fa a : Addr} {fd : FuncData} {x : Str} {sp : Sp} {s : Shared} {us : List Value} {ns : List Int}
    (X : K.In s.heap) (n1 : s.heap.Ns mainGlobals mg) (n2 : s.heap.Ns builtinsNs mb) (n3 : ∀ y : Str, y ≠ "__name__" → mb y = bootBuiltins y) (n4 : s.heap.NoLimit) (n5 : s.gens = #[])
    (ha : s.heap.get? a = some (listO us)) (hi : IntsAre us ns) (hl : ns.length ≤ sizeLine) (hr : Room k callerA)
    (F : ∀ base : Heap, K.In base → base.Ns mainGlobals mg → FnG P w K mg base k fa fd [x] sp) (hb : ∀ (s : Shared) (u : Value), BindsTo s fd ⟨[u], []⟩ [(x, u)])
    (hsp : ∀ H : Hp, SqL K H a (ns.map V.int) → sp [.ref a] H (fun v _ => v = .bl true) E0) :
    codeAny (model P w) callerA (.call (.ref fa) ⟨[.ref a], []⟩) (fun r t => r = .ok (.ret (.bool true)) ∧ OldK s.heap t.heap ∧ t.os = s.os ∧ AllBare t.gens) s := by
  have rel := vals_ints hi
  have len := hi.length
  let T : Hp := scr K (listO us) a (ns.map V.int)
  have sq : SqL K T a (ns.map V.int) := by
    cases hk : K.lookup a with
    | none => exact .inl (.inr ⟨listO us, if_pos ⟨rfl, hk⟩⟩)
    | some ob =>
      have e := X a ob hk
      rw [ha] at e
      have e := Option.some.inj e
      rw [← e] at hk
      exact .inr ⟨_, us.toArray, _, hk, rfl, rfl, rfl, by rw [List.size_toArray, len]; exact hl, by simpa using rel⟩
  have ok : HOk P w T s.heap := fun b u hu => by
    obtain ⟨e1, _, e3⟩ := scr_some hu
    subst e1 e3
    exact ⟨ha, by rw [List.length_map]; exact hl, us, _, rel, ha⟩
  have md : Mod K mg (hidT s.heap T) := ⟨scr_in X, scr_ns ha n1, ⟨mb, scr_ns ha n2, n3⟩, let ⟨mc, q1, q2⟩ := n4; ⟨mc, scr_ns ha q1, q2⟩⟩
  have env : Env0 P w K mg (hidT s.heap T) callerA [] s T :=
    { frames := rfl, mod := md, bs := fun _ _ e => of_hidT e, bsz := Nat.le_of_eq (hidT_size _ _), funs := trivial, frf := fun b hb => absurd (show b ∈ ([] : List Addr) from hb) List.not_mem_nil, hok := ok, bare := .of_eq n5 }
  have run := (F _ md.kin md.glob).run callerA [] s T ⟨[.ref a], []⟩ [.ref a] [.ref a] (fun v _ => v = .bl true) E0 hr rfl env (hb s (.ref a)) (.cons rfl .nil) (hsp T sq)
  refine codeAny_mono run fun r t q => ?_
  match r, q with
  | .error _, q => exact q.elim
  | .ok .next, q => exact q.elim
  | .ok .brk, q => exact q.elim
  | .ok .cont, q => exact q.elim
  | .ok (.ret u), q =>
    obtain ⟨v, T', os, bare, un, ok', rv, hv⟩ := q
    have hv : v = .bl true := hv
    rw [hv] at rv
    have eu : u = Value.bool true := rv
    rw [eu]
    refine ⟨rfl, OldK.of_keep fun b ob e => ?_, os, bare⟩
    cases hs : T b with
    | none => exact un.keep b ob e hs (fun z => absurd (show b ∈ ([] : List Addr) from z) List.not_mem_nil) List.not_mem_nil
    | some y =>
      obtain ⟨_, _, e3⟩ := scr_some hs
      rw [e3] at hs
      have k1 := (ok b _ hs).1
      have k2 := (ok' b _ (un.frzs b _ _ hs)).1
      rw [k1] at e
      rw [k2, Option.some.inj e]
theorem walk_g {l : PySem.W.OpenLaw} {n k : Nat} {q : Program} {loose : List Str} {XP : (Str → Option Value) → Heap → Prop} {YP : World → Heap → Prop} {d : DefRec} {x : Str}
    (hn : l.most = some n) (hz : n ≤ sizeLine) (hd : d.params.defaults = []) (hr : Room k callerA)
    (F : ∀ (w : World) (mg : Str → Option Value) (fa : Addr) (h : Heap), YP w h → h.Ns mainGlobals mg → mg d.name = some (.ref fa) →
      ∃ (K : PySem.W.Frag) (fd : FuncData) (sp : Sp), K.In h ∧ (∀ (s : Shared) (u : Value), BindsTo s fd ⟨[u], []⟩ [(x, u)]) ∧
        (∀ (H : Hp) (a : Addr) (ns : List Int), ns.length ≤ n → SqL K H a (ns.map V.int) → sp [.ref a] H (fun v _ => v = .bl true) E0) ∧
        ∀ base : Heap, K.In base → base.Ns mainGlobals mg → FnG l.prog w K mg base k fa fd [x] sp) :
    PySem.W.WalkO q loose XP YP l.row.toRowW d [] (fun f vs => PySem.call f vs) :=
  Att.attach_call hn hd fun w _ s mg mb fa ob _ _ _ a us ns gr yp hob hdat hcd him hscr hint hlen hgen =>
    let ⟨K, fd, sp, X, hb, hsp, hF⟩ := F w mg fa s.heap yp gr.T.g him
    g_call X gr.T.g gr.T.b gr.T.builtins gr.T.nolimit hgen hscr hint (Nat.le_trans hlen hz) hr hF hb fun H sq => hsp H a ns hlen sq
end K73
set_option maxHeartbeats 0
/-! What the top leaves: the run, the facts. -/
namespace K73
open PySem PySem.Spec PyProof.Rows L2
abbrev LRow : PySem.W.OpenRow := PySem.W.OpenLaw.row PySem.Challenge.rw_windowsteps_k73_whole_least_steps
def dG (x : Str) (st : Stmt) : He5.DefA := ⟨fun K => He.ga K x, x, x, defArgs st, defBody st, defScope st, [], []⟩
def dI (C q : Str) (st : Stmt) : He5.DefA := ⟨fun K => He.ma K (He.ga K C) "__init__", "__init__", q, defArgs st, defBody st, defScope st, [], []⟩
def dRule : He5.DefA := ⟨fun K => He5.wf K (He.ga K "System") "staticmethod" "is_rule", "is_rule", "System.is_rule", defArgs sIsRule, defBody sIsRule, defScope sIsRule, [], []⟩
def hDefs1 : List He5.DefA := [dI "System" "System.__init__" sInitS, dRule, dI "Reach" "Reach.__init__" sInitR, dG "check_numbers" sCheckNumbers, dG "safe_steps" sSafeSteps, dG "moments" sMoments, dG "is_integer" sIsInteger, dG "is_name" sIsName, dG "rule_key" sRuleKey, dG "is_thing" sIsThing, dG "are_numbers" sAreNumbers, dG "number_at" sNumberAt, dG "short_by" sShortBy, dG "broken_rules" sBrokenRules, dG "first_breach" sFirstBreach, dG "ring_through" sRingThrough, dG "contradiction" sContradiction, dG "check_consistent" sCheckConsistent, dG "block_table" sBlockTable, dG "blocks" sBlocks, dG "named_blocks" sNamedBlocks, dG "is_step" sIsStep, dG "shifted" sShifted, dG "check_admitted" sCheckAdmitted, dG "least_steps" sLeastSteps]
def hDefs2 : List He5.DefA := [dG "next_step" sNextStep, dG "sequence" sSequence, dG "is_sequence" sIsSequence, dG "_law_pen" sLPen, dG "_law_next" sLNext, dG "_law_draw" sLDraw, dG "_law_some" sLSome, dG "_law_nyms" sLNyms, dG "_law_goal" sLGoal, dG "_law_at" sLAt, dG "_law_gaps" sLGaps, dG "_law_key" sLKey, dG "_law_sorted" sLSorted, dG "_law_short" sLShort, dG "_law_broken" sLBroken, dG "_law_far" sLFar, dG "_law_joined" sLJoined, dG "_law_blocks" sLBlocks, dG "_law_made" sLMade, dG "_law_after" sLAfter, dG "_law_box" sLBox, dG "_law_distances" sLDistances, dG "_law_pair_right" sLPairRight, dG "law" sLaw]
def hDefs : List He5.DefA := hDefs1 ++ hDefs2
def hGlo1 : List He.Fa := [.glo "check_numbers", .glo "safe_steps", .glo "moments", .glo "is_integer", .glo "is_name", .glo "rule_key", .glo "is_thing", .glo "are_numbers", .glo "number_at", .glo "short_by", .glo "broken_rules", .glo "first_breach", .glo "ring_through", .glo "contradiction", .glo "check_consistent", .glo "block_table", .glo "blocks", .glo "named_blocks", .glo "is_step", .glo "shifted", .glo "check_admitted", .glo "least_steps", .glo "next_step", .glo "sequence", .glo "is_sequence"]
def hGlo2 : List He.Fa := [.glo "_law_pen", .glo "_law_next", .glo "_law_draw", .glo "_law_some", .glo "_law_nyms", .glo "_law_goal", .glo "_law_at", .glo "_law_gaps", .glo "_law_key", .glo "_law_sorted", .glo "_law_short", .glo "_law_broken", .glo "_law_far", .glo "_law_joined", .glo "_law_blocks", .glo "_law_made", .glo "_law_after", .glo "_law_box", .glo "_law_distances", .glo "_law_pair_right", .glo "law", .glo "System", .glo "Reach"]
def hFree : List He.Fa := [.free "isinstance", .free "int", .free "bool", .free "str", .free "len", .free "all", .free "list", .free "set", .free "sorted", .free "tuple", .free "dict", .free "range", .free "min", .free "max", .free "sum", .free "abs", .free "repr"]
def hRest : List He.Fa := [.int "MAX_NAME" 8, .int "MAX_GAP" 999, .int "MAX_NUMBER" 99999, .str "LETTERS" "abcdefghijklmnopqrstuvwxyz", .cls "System", .cls "Reach", .mkr "System", .mkr "Reach", .noat "System" "settings", .noat "System" "gaps", .noat "Reach" "start", .noat "Reach" "best", .noat "Reach" "last"]
def hFa : List He.Fa := (hGlo1 ++ hGlo2) ++ (hFree ++ hRest)
def hEx (K : PySem.W.Frag) : Bool := PySem.W.readsIn K (He.ga K "System") (.type "type") && (He.eqO (PySem.W.specialIn K (.ref (He.ga K "System")) "__getattribute__") (some (some (.builtin "type.__getattribute__"))) && (He5.wrapB K (He.ga K "System") "staticmethod" "staticmethod.__get__" "is_rule" && PySem.W.fnIn K (He5.wf K (He.ga K "System") "staticmethod" "is_rule")))
abbrev HAl : Type := He.AlD × Bool
def hObs (g : Addr → Option Obj) : HAl := (He5.obsA hFa hDefs (He.frG g (He5.asA g 5)), hEx (He.frG g (He5.asA g 5)))
def hHook : PySem.W.Hook where
  α := HAl
  obs := fun s => hObs s.heap.get?
  val := fun _ => (He5.valA hDefs, true)
  says := fun _ h => ∃ K : PySem.W.Frag, K.In h ∧ He5.SaysA hFa hDefs K ∧ hEx K = true
  of := fun _ _ e => ⟨_, He.frG_in, congrArg Prod.fst e, congrArg Prod.snd e⟩
  keeps := fun _ _ _ ⟨K, hK, c⟩ k => ⟨K, PySem.W.Frag.In.keeps hK k, c⟩
def hOb (s : PySem.W.SharedT) : HAl := hObs (HandSHeadRun.getT s)
theorem hOb_eq (s : PySem.W.SharedT) : hOb s = hHook.obs s.abs := congrArg hObs (funext (HandSHeadRun.getT_eq s))
def hLoose1 : List PySem.Str := ["_wall", "WindowError", "NotAdmitted", "InvalidSystem", "InvalidNumbers", "Contradiction", "LETTERS", "MAX_NAME", "MAX_GAP", "is_integer", "is_name", "rule_key", "is_thing", "System", "MAX_NUMBER", "are_numbers", "check_numbers", "number_at", "short_by", "broken_rules", "first_breach", "ring_through", "contradiction", "check_consistent", "Reach", "block_table", "blocks", "named_blocks", "is_step", "shifted"]
def hLoose2 : List PySem.Str := ["safe_steps", "check_admitted", "least_steps", "next_step", "sequence", "is_sequence", "moments", "_law_pen", "_law_next", "_law_draw", "_law_some", "_law_nyms", "_law_goal", "_law_at", "_law_gaps", "_law_key", "_law_sorted", "_law_short", "_law_broken", "_law_far", "_law_joined", "_law_blocks", "_law_made", "_law_after", "_law_box", "_law_distances", "_law_pair_right"]
def hLoose : List PySem.Str := hLoose1 ++ hLoose2
end K73
set_option maxHeartbeats 0
namespace K73
open PySem PySem.Spec PyProof.Rows L2
theorem hRun (w : World) : HandSHeadRun.RunEq LRow (PySem.W.view LRow.prog [65]) hHook hOb 4000 hLoose w := by
  intro os
  kernel_rfl
end K73
set_option maxHeartbeats 4000000
/-! Every def stands where Tp says. -/
namespace K73
open PySem PySem.Spec PyProof.Rows L2
theorem tp_of {K : PySem.W.Frag} {h : Heap} {mg : Str → Option Value} (X : K.In h) (G : h.Ns mainGlobals mg) (c : He5.SaysA hFa hDefs K) (c2 : hEx K = true) : ∃ Z : Tp K mg, Z.gLaw = He.ga K "law" := by
  obtain ⟨x1, c2⟩ := He.ba c2
  obtain ⟨x2, c2⟩ := He.ba c2
  obtain ⟨x3, x4⟩ := He.ba c2
  obtain ⟨x5, rest, x6⟩ := He5.wrapB_ok x3
  obtain ⟨d0, e0⟩ := c.def_ 0 (d := dI "System" "System.__init__" sInitS) rfl
  have F0 : Fun K "__init__" "System.__init__" sInitS _ d0 := He5.fun_of e0
  obtain ⟨d1, e1⟩ := c.def_ 1 (d := dRule) rfl
  have F1 : Fun K "is_rule" "System.is_rule" sIsRule _ d1 := He5.fun_of e1
  obtain ⟨d2, e2⟩ := c.def_ 2 (d := dI "Reach" "Reach.__init__" sInitR) rfl
  have F2 : Fun K "__init__" "Reach.__init__" sInitR _ d2 := He5.fun_of e2
  obtain ⟨d3, e3⟩ := c.def_ 3 (d := dG "check_numbers" sCheckNumbers) rfl
  have F3 : Fun K "check_numbers" "check_numbers" sCheckNumbers _ d3 := He5.fun_of e3
  obtain ⟨d4, e4⟩ := c.def_ 4 (d := dG "safe_steps" sSafeSteps) rfl
  have F4 : Fun K "safe_steps" "safe_steps" sSafeSteps _ d4 := He5.fun_of e4
  obtain ⟨d5, e5⟩ := c.def_ 5 (d := dG "moments" sMoments) rfl
  have F5 : Fun K "moments" "moments" sMoments _ d5 := He5.fun_of e5
  obtain ⟨d6, e6⟩ := c.def_ 6 (d := dG "is_integer" sIsInteger) rfl
  have F6 : Fun K "is_integer" "is_integer" sIsInteger _ d6 := He5.fun_of e6
  obtain ⟨d7, e7⟩ := c.def_ 7 (d := dG "is_name" sIsName) rfl
  have F7 : Fun K "is_name" "is_name" sIsName _ d7 := He5.fun_of e7
  obtain ⟨d8, e8⟩ := c.def_ 8 (d := dG "rule_key" sRuleKey) rfl
  have F8 : Fun K "rule_key" "rule_key" sRuleKey _ d8 := He5.fun_of e8
  obtain ⟨d9, e9⟩ := c.def_ 9 (d := dG "is_thing" sIsThing) rfl
  have F9 : Fun K "is_thing" "is_thing" sIsThing _ d9 := He5.fun_of e9
  obtain ⟨d10, e10⟩ := c.def_ 10 (d := dG "are_numbers" sAreNumbers) rfl
  have F10 : Fun K "are_numbers" "are_numbers" sAreNumbers _ d10 := He5.fun_of e10
  obtain ⟨d11, e11⟩ := c.def_ 11 (d := dG "number_at" sNumberAt) rfl
  have F11 : Fun K "number_at" "number_at" sNumberAt _ d11 := He5.fun_of e11
  obtain ⟨d12, e12⟩ := c.def_ 12 (d := dG "short_by" sShortBy) rfl
  have F12 : Fun K "short_by" "short_by" sShortBy _ d12 := He5.fun_of e12
  obtain ⟨d13, e13⟩ := c.def_ 13 (d := dG "broken_rules" sBrokenRules) rfl
  have F13 : Fun K "broken_rules" "broken_rules" sBrokenRules _ d13 := He5.fun_of e13
  obtain ⟨d14, e14⟩ := c.def_ 14 (d := dG "first_breach" sFirstBreach) rfl
  have F14 : Fun K "first_breach" "first_breach" sFirstBreach _ d14 := He5.fun_of e14
  obtain ⟨d15, e15⟩ := c.def_ 15 (d := dG "ring_through" sRingThrough) rfl
  have F15 : Fun K "ring_through" "ring_through" sRingThrough _ d15 := He5.fun_of e15
  obtain ⟨d16, e16⟩ := c.def_ 16 (d := dG "contradiction" sContradiction) rfl
  have F16 : Fun K "contradiction" "contradiction" sContradiction _ d16 := He5.fun_of e16
  obtain ⟨d17, e17⟩ := c.def_ 17 (d := dG "check_consistent" sCheckConsistent) rfl
  have F17 : Fun K "check_consistent" "check_consistent" sCheckConsistent _ d17 := He5.fun_of e17
  obtain ⟨d18, e18⟩ := c.def_ 18 (d := dG "block_table" sBlockTable) rfl
  have F18 : Fun K "block_table" "block_table" sBlockTable _ d18 := He5.fun_of e18
  obtain ⟨d19, e19⟩ := c.def_ 19 (d := dG "blocks" sBlocks) rfl
  have F19 : Fun K "blocks" "blocks" sBlocks _ d19 := He5.fun_of e19
  obtain ⟨d20, e20⟩ := c.def_ 20 (d := dG "named_blocks" sNamedBlocks) rfl
  have F20 : Fun K "named_blocks" "named_blocks" sNamedBlocks _ d20 := He5.fun_of e20
  obtain ⟨d21, e21⟩ := c.def_ 21 (d := dG "is_step" sIsStep) rfl
  have F21 : Fun K "is_step" "is_step" sIsStep _ d21 := He5.fun_of e21
  obtain ⟨d22, e22⟩ := c.def_ 22 (d := dG "shifted" sShifted) rfl
  have F22 : Fun K "shifted" "shifted" sShifted _ d22 := He5.fun_of e22
  obtain ⟨d23, e23⟩ := c.def_ 23 (d := dG "check_admitted" sCheckAdmitted) rfl
  have F23 : Fun K "check_admitted" "check_admitted" sCheckAdmitted _ d23 := He5.fun_of e23
  obtain ⟨d24, e24⟩ := c.def_ 24 (d := dG "least_steps" sLeastSteps) rfl
  have F24 : Fun K "least_steps" "least_steps" sLeastSteps _ d24 := He5.fun_of e24
  obtain ⟨d25, e25⟩ := c.def_ 25 (d := dG "next_step" sNextStep) rfl
  have F25 : Fun K "next_step" "next_step" sNextStep _ d25 := He5.fun_of e25
  obtain ⟨d26, e26⟩ := c.def_ 26 (d := dG "sequence" sSequence) rfl
  have F26 : Fun K "sequence" "sequence" sSequence _ d26 := He5.fun_of e26
  obtain ⟨d27, e27⟩ := c.def_ 27 (d := dG "is_sequence" sIsSequence) rfl
  have F27 : Fun K "is_sequence" "is_sequence" sIsSequence _ d27 := He5.fun_of e27
  obtain ⟨d28, e28⟩ := c.def_ 28 (d := dG "_law_pen" sLPen) rfl
  have F28 : Fun K "_law_pen" "_law_pen" sLPen _ d28 := He5.fun_of e28
  obtain ⟨d29, e29⟩ := c.def_ 29 (d := dG "_law_next" sLNext) rfl
  have F29 : Fun K "_law_next" "_law_next" sLNext _ d29 := He5.fun_of e29
  obtain ⟨d30, e30⟩ := c.def_ 30 (d := dG "_law_draw" sLDraw) rfl
  have F30 : Fun K "_law_draw" "_law_draw" sLDraw _ d30 := He5.fun_of e30
  obtain ⟨d31, e31⟩ := c.def_ 31 (d := dG "_law_some" sLSome) rfl
  have F31 : Fun K "_law_some" "_law_some" sLSome _ d31 := He5.fun_of e31
  obtain ⟨d32, e32⟩ := c.def_ 32 (d := dG "_law_nyms" sLNyms) rfl
  have F32 : Fun K "_law_nyms" "_law_nyms" sLNyms _ d32 := He5.fun_of e32
  obtain ⟨d33, e33⟩ := c.def_ 33 (d := dG "_law_goal" sLGoal) rfl
  have F33 : Fun K "_law_goal" "_law_goal" sLGoal _ d33 := He5.fun_of e33
  obtain ⟨d34, e34⟩ := c.def_ 34 (d := dG "_law_at" sLAt) rfl
  have F34 : Fun K "_law_at" "_law_at" sLAt _ d34 := He5.fun_of e34
  obtain ⟨d35, e35⟩ := c.def_ 35 (d := dG "_law_gaps" sLGaps) rfl
  have F35 : Fun K "_law_gaps" "_law_gaps" sLGaps _ d35 := He5.fun_of e35
  obtain ⟨d36, e36⟩ := c.def_ 36 (d := dG "_law_key" sLKey) rfl
  have F36 : Fun K "_law_key" "_law_key" sLKey _ d36 := He5.fun_of e36
  obtain ⟨d37, e37⟩ := c.def_ 37 (d := dG "_law_sorted" sLSorted) rfl
  have F37 : Fun K "_law_sorted" "_law_sorted" sLSorted _ d37 := He5.fun_of e37
  obtain ⟨d38, e38⟩ := c.def_ 38 (d := dG "_law_short" sLShort) rfl
  have F38 : Fun K "_law_short" "_law_short" sLShort _ d38 := He5.fun_of e38
  obtain ⟨d39, e39⟩ := c.def_ 39 (d := dG "_law_broken" sLBroken) rfl
  have F39 : Fun K "_law_broken" "_law_broken" sLBroken _ d39 := He5.fun_of e39
  obtain ⟨d40, e40⟩ := c.def_ 40 (d := dG "_law_far" sLFar) rfl
  have F40 : Fun K "_law_far" "_law_far" sLFar _ d40 := He5.fun_of e40
  obtain ⟨d41, e41⟩ := c.def_ 41 (d := dG "_law_joined" sLJoined) rfl
  have F41 : Fun K "_law_joined" "_law_joined" sLJoined _ d41 := He5.fun_of e41
  obtain ⟨d42, e42⟩ := c.def_ 42 (d := dG "_law_blocks" sLBlocks) rfl
  have F42 : Fun K "_law_blocks" "_law_blocks" sLBlocks _ d42 := He5.fun_of e42
  obtain ⟨d43, e43⟩ := c.def_ 43 (d := dG "_law_made" sLMade) rfl
  have F43 : Fun K "_law_made" "_law_made" sLMade _ d43 := He5.fun_of e43
  obtain ⟨d44, e44⟩ := c.def_ 44 (d := dG "_law_after" sLAfter) rfl
  have F44 : Fun K "_law_after" "_law_after" sLAfter _ d44 := He5.fun_of e44
  obtain ⟨d45, e45⟩ := c.def_ 45 (d := dG "_law_box" sLBox) rfl
  have F45 : Fun K "_law_box" "_law_box" sLBox _ d45 := He5.fun_of e45
  obtain ⟨d46, e46⟩ := c.def_ 46 (d := dG "_law_distances" sLDistances) rfl
  have F46 : Fun K "_law_distances" "_law_distances" sLDistances _ d46 := He5.fun_of e46
  obtain ⟨d47, e47⟩ := c.def_ 47 (d := dG "_law_pair_right" sLPairRight) rfl
  have F47 : Fun K "_law_pair_right" "_law_pair_right" sLPairRight _ d47 := He5.fun_of e47
  obtain ⟨d48, e48⟩ := c.def_ 48 (d := dG "law" sLaw) rfl
  have F48 : Fun K "law" "law" sLaw _ d48 := He5.fun_of e48
  exact ⟨{
    nm := { isinstance := He.free_ok X G (c.fact 48 (f := .free "isinstance") rfl), int := He.free_ok X G (c.fact 49 (f := .free "int") rfl), bool := He.free_ok X G (c.fact 50 (f := .free "bool") rfl), str := He.free_ok X G (c.fact 51 (f := .free "str") rfl), len := He.free_ok X G (c.fact 52 (f := .free "len") rfl), all := He.free_ok X G (c.fact 53 (f := .free "all") rfl), list := He.free_ok X G (c.fact 54 (f := .free "list") rfl), set := He.free_ok X G (c.fact 55 (f := .free "set") rfl), sorted := He.free_ok X G (c.fact 56 (f := .free "sorted") rfl), tuple := He.free_ok X G (c.fact 57 (f := .free "tuple") rfl), dict := He.free_ok X G (c.fact 58 (f := .free "dict") rfl), range := He.free_ok X G (c.fact 59 (f := .free "range") rfl), min := He.free_ok X G (c.fact 60 (f := .free "min") rfl), max := He.free_ok X G (c.fact 61 (f := .free "max") rfl), sum := He.free_ok X G (c.fact 62 (f := .free "sum") rfl), abs := He.free_ok X G (c.fact 63 (f := .free "abs") rfl), repr := He.free_ok X G (c.fact 64 (f := .free "repr") rfl), maxName := He.int_ok X G (c.fact 65 (f := .int "MAX_NAME" 8) rfl), maxGap := He.int_ok X G (c.fact 66 (f := .int "MAX_GAP" 999) rfl), maxNumber := He.int_ok X G (c.fact 67 (f := .int "MAX_NUMBER" 99999) rfl), letters := He.str_ok X G (c.fact 68 (f := .str "LETTERS" "abcdefghijklmnopqrstuvwxyz") rfl) },
    C := He.ga K "System",
    S := { cl := He.cls_ok (c.fact 69 (f := .cls "System") rfl), nS := He.noat_ok (c.fact 73 (f := .noat "System" "settings") rfl), nG := He.noat_ok (c.fact 74 (f := .noat "System" "gaps") rfl), im := He.glo_ok X G (c.fact 46 (f := .glo "System") rfl) },
    gInitS := He.ma K (He.ga K "System") "__init__",
    dInitS := d0,
    InitS := F0,
    gIsRule := He5.wf K (He.ga K "System") "staticmethod" "is_rule",
    dIsRule := d1,
    IsRule := F1,
    gInitR := He.ma K (He.ga K "Reach") "__init__",
    dInitR := d2,
    InitR := F2,
    gCheckNumbers := He.ga K "check_numbers",
    dCheckNumbers := d3,
    CheckNumbers := F3,
    gSafeSteps := He.ga K "safe_steps",
    dSafeSteps := d4,
    SafeSteps := F4,
    gMoments := He.ga K "moments",
    dMoments := d5,
    Moments := F5,
    gIsInteger := He.ga K "is_integer",
    dIsInteger := d6,
    IsInteger := { fn := F6, bi := F6.binds fun _ _ _ _ _ _ us hl => match us, hl with | [_, _, _], _ => rfl, im := He.glo_ok X G (c.fact 3 (f := .glo "is_integer") rfl) },
    gIsName := He.ga K "is_name",
    dIsName := d7,
    IsName := { fn := F7, bi := F7.binds fun _ _ _ _ _ _ us hl => match us, hl with | [_], _ => rfl, im := He.glo_ok X G (c.fact 4 (f := .glo "is_name") rfl) },
    gRuleKey := He.ga K "rule_key",
    dRuleKey := d8,
    RuleKey := { fn := F8, bi := F8.binds fun _ _ _ _ _ _ us hl => match us, hl with | [_], _ => rfl, im := He.glo_ok X G (c.fact 5 (f := .glo "rule_key") rfl) },
    gIsThing := He.ga K "is_thing",
    dIsThing := d9,
    IsThing := { fn := F9, bi := F9.binds fun _ _ _ _ _ _ us hl => match us, hl with | [_], _ => rfl, im := He.glo_ok X G (c.fact 6 (f := .glo "is_thing") rfl) },
    gAreNumbers := He.ga K "are_numbers",
    dAreNumbers := d10,
    AreNumbers := { fn := F10, bi := F10.binds fun _ _ _ _ _ _ us hl => match us, hl with | [_, _], _ => rfl, im := He.glo_ok X G (c.fact 7 (f := .glo "are_numbers") rfl) },
    gNumberAt := He.ga K "number_at",
    dNumberAt := d11,
    NumberAt := { fn := F11, bi := F11.binds fun _ _ _ _ _ _ us hl => match us, hl with | [_, _], _ => rfl, im := He.glo_ok X G (c.fact 8 (f := .glo "number_at") rfl) },
    gShortBy := He.ga K "short_by",
    dShortBy := d12,
    ShortBy := { fn := F12, bi := F12.binds fun _ _ _ _ _ _ us hl => match us, hl with | [_, _], _ => rfl, im := He.glo_ok X G (c.fact 9 (f := .glo "short_by") rfl) },
    gBrokenRules := He.ga K "broken_rules",
    dBrokenRules := d13,
    BrokenRules := { fn := F13, bi := F13.binds fun _ _ _ _ _ _ us hl => match us, hl with | [_, _], _ => rfl, im := He.glo_ok X G (c.fact 10 (f := .glo "broken_rules") rfl) },
    gFirstBreach := He.ga K "first_breach",
    dFirstBreach := d14,
    FirstBreach := { fn := F14, bi := F14.binds fun _ _ _ _ _ _ us hl => match us, hl with | [_, _], _ => rfl, im := He.glo_ok X G (c.fact 11 (f := .glo "first_breach") rfl) },
    gRingThrough := He.ga K "ring_through",
    dRingThrough := d15,
    RingThrough := { fn := F15, bi := F15.binds fun _ _ _ _ _ _ us hl => match us, hl with | [_, _, _], _ => rfl, im := He.glo_ok X G (c.fact 12 (f := .glo "ring_through") rfl) },
    gContradiction := He.ga K "contradiction",
    dContradiction := d16,
    Contradiction := { fn := F16, bi := F16.binds fun _ _ _ _ _ _ us hl => match us, hl with | [_], _ => rfl, im := He.glo_ok X G (c.fact 13 (f := .glo "contradiction") rfl) },
    gCheckConsistent := He.ga K "check_consistent",
    dCheckConsistent := d17,
    CheckConsistent := { fn := F17, bi := F17.binds fun _ _ _ _ _ _ us hl => match us, hl with | [_], _ => rfl, im := He.glo_ok X G (c.fact 14 (f := .glo "check_consistent") rfl) },
    gBlockTable := He.ga K "block_table",
    dBlockTable := d18,
    BlockTable := { fn := F18, bi := F18.binds fun _ _ _ _ _ _ us hl => match us, hl with | [_], _ => rfl, im := He.glo_ok X G (c.fact 15 (f := .glo "block_table") rfl) },
    gBlocks := He.ga K "blocks",
    dBlocks := d19,
    Blocks := { fn := F19, bi := F19.binds fun _ _ _ _ _ _ us hl => match us, hl with | [_], _ => rfl, im := He.glo_ok X G (c.fact 16 (f := .glo "blocks") rfl) },
    gNamedBlocks := He.ga K "named_blocks",
    dNamedBlocks := d20,
    NamedBlocks := { fn := F20, bi := F20.binds fun _ _ _ _ _ _ us hl => match us, hl with | [_], _ => rfl, im := He.glo_ok X G (c.fact 17 (f := .glo "named_blocks") rfl) },
    gIsStep := He.ga K "is_step",
    dIsStep := d21,
    IsStep := { fn := F21, bi := F21.binds fun _ _ _ _ _ _ us hl => match us, hl with | [_, _], _ => rfl, im := He.glo_ok X G (c.fact 18 (f := .glo "is_step") rfl) },
    gShifted := He.ga K "shifted",
    dShifted := d22,
    Shifted := { fn := F22, bi := F22.binds fun _ _ _ _ _ _ us hl => match us, hl with | [_, _, _], _ => rfl, im := He.glo_ok X G (c.fact 19 (f := .glo "shifted") rfl) },
    gCheckAdmitted := He.ga K "check_admitted",
    dCheckAdmitted := d23,
    CheckAdmitted := { fn := F23, bi := F23.binds fun _ _ _ _ _ _ us hl => match us, hl with | [_, _, _], _ => rfl, im := He.glo_ok X G (c.fact 20 (f := .glo "check_admitted") rfl) },
    gLeastSteps := He.ga K "least_steps",
    dLeastSteps := d24,
    LeastSteps := { fn := F24, bi := F24.binds fun _ _ _ _ _ _ us hl => match us, hl with | [_, _, _], _ => rfl, im := He.glo_ok X G (c.fact 21 (f := .glo "least_steps") rfl) },
    gNextStep := He.ga K "next_step",
    dNextStep := d25,
    NextStep := { fn := F25, bi := F25.binds fun _ _ _ _ _ _ us hl => match us, hl with | [_, _, _, _], _ => rfl, im := He.glo_ok X G (c.fact 22 (f := .glo "next_step") rfl) },
    gSequence := He.ga K "sequence",
    dSequence := d26,
    Sequence := { fn := F26, bi := F26.binds fun _ _ _ _ _ _ us hl => match us, hl with | [_, _, _], _ => rfl, im := He.glo_ok X G (c.fact 23 (f := .glo "sequence") rfl) },
    gIsSequence := He.ga K "is_sequence",
    dIsSequence := d27,
    IsSequence := { fn := F27, bi := F27.binds fun _ _ _ _ _ _ us hl => match us, hl with | [_, _, _, _], _ => rfl, im := He.glo_ok X G (c.fact 24 (f := .glo "is_sequence") rfl) },
    gLPen := He.ga K "_law_pen",
    dLPen := d28,
    LPen := { fn := F28, bi := F28.binds fun _ _ _ _ _ _ us hl => match us, hl with | [_], _ => rfl, im := He.glo_ok X G (c.fact 25 (f := .glo "_law_pen") rfl) },
    gLNext := He.ga K "_law_next",
    dLNext := d29,
    LNext := { fn := F29, bi := F29.binds fun _ _ _ _ _ _ us hl => match us, hl with | [_], _ => rfl, im := He.glo_ok X G (c.fact 26 (f := .glo "_law_next") rfl) },
    gLDraw := He.ga K "_law_draw",
    dLDraw := d30,
    LDraw := { fn := F30, bi := F30.binds fun _ _ _ _ _ _ us hl => match us, hl with | [_, _], _ => rfl, im := He.glo_ok X G (c.fact 27 (f := .glo "_law_draw") rfl) },
    gLSome := He.ga K "_law_some",
    dLSome := d31,
    LSome := { fn := F31, bi := F31.binds fun _ _ _ _ _ _ us hl => match us, hl with | [_, _, _], _ => rfl, im := He.glo_ok X G (c.fact 28 (f := .glo "_law_some") rfl) },
    gLNyms := He.ga K "_law_nyms",
    dLNyms := d32,
    LNyms := { fn := F32, bi := F32.binds fun _ _ _ _ _ _ us hl => match us, hl with | [_, _], _ => rfl, im := He.glo_ok X G (c.fact 29 (f := .glo "_law_nyms") rfl) },
    gLGoal := He.ga K "_law_goal",
    dLGoal := d33,
    LGoal := { fn := F33, bi := F33.binds fun _ _ _ _ _ _ us hl => match us, hl with | [_, _], _ => rfl, im := He.glo_ok X G (c.fact 30 (f := .glo "_law_goal") rfl) },
    gLAt := He.ga K "_law_at",
    dLAt := d34,
    LAt := { fn := F34, bi := F34.binds fun _ _ _ _ _ _ us hl => match us, hl with | [_, _], _ => rfl, im := He.glo_ok X G (c.fact 31 (f := .glo "_law_at") rfl) },
    gLGaps := He.ga K "_law_gaps",
    dLGaps := d35,
    LGaps := { fn := F35, bi := F35.binds fun _ _ _ _ _ _ us hl => match us, hl with | [_, _, _, _], _ => rfl, im := He.glo_ok X G (c.fact 32 (f := .glo "_law_gaps") rfl) },
    gLKey := He.ga K "_law_key",
    dLKey := d36,
    LKey := { fn := F36, bi := F36.binds fun _ _ _ _ _ _ us hl => match us, hl with | [_], _ => rfl, im := He.glo_ok X G (c.fact 33 (f := .glo "_law_key") rfl) },
    gLSorted := He.ga K "_law_sorted",
    dLSorted := d37,
    LSorted := { fn := F37, bi := F37.binds fun _ _ _ _ _ _ us hl => match us, hl with | [_], _ => rfl, im := He.glo_ok X G (c.fact 34 (f := .glo "_law_sorted") rfl) },
    gLShort := He.ga K "_law_short",
    dLShort := d38,
    LShort := { fn := F38, bi := F38.binds fun _ _ _ _ _ _ us hl => match us, hl with | [_, _], _ => rfl, im := He.glo_ok X G (c.fact 35 (f := .glo "_law_short") rfl) },
    gLBroken := He.ga K "_law_broken",
    dLBroken := d39,
    LBroken := { fn := F39, bi := F39.binds fun _ _ _ _ _ _ us hl => match us, hl with | [_, _], _ => rfl, im := He.glo_ok X G (c.fact 36 (f := .glo "_law_broken") rfl) },
    gLFar := He.ga K "_law_far",
    dLFar := d40,
    LFar := { fn := F40, bi := F40.binds fun _ _ _ _ _ _ us hl => match us, hl with | [_, _], _ => rfl, im := He.glo_ok X G (c.fact 37 (f := .glo "_law_far") rfl) },
    gLJoined := He.ga K "_law_joined",
    dLJoined := d41,
    LJoined := { fn := F41, bi := F41.binds fun _ _ _ _ _ _ us hl => match us, hl with | [_, _, _], _ => rfl, im := He.glo_ok X G (c.fact 38 (f := .glo "_law_joined") rfl) },
    gLBlocks := He.ga K "_law_blocks",
    dLBlocks := d42,
    LBlocks := { fn := F42, bi := F42.binds fun _ _ _ _ _ _ us hl => match us, hl with | [_, _], _ => rfl, im := He.glo_ok X G (c.fact 39 (f := .glo "_law_blocks") rfl) },
    gLMade := He.ga K "_law_made",
    dLMade := d43,
    LMade := { fn := F43, bi := F43.binds fun _ _ _ _ _ _ us hl => match us, hl with | [_, _], _ => rfl, im := He.glo_ok X G (c.fact 40 (f := .glo "_law_made") rfl) },
    gLAfter := He.ga K "_law_after",
    dLAfter := d44,
    LAfter := { fn := F44, bi := F44.binds fun _ _ _ _ _ _ us hl => match us, hl with | [_, _, _], _ => rfl, im := He.glo_ok X G (c.fact 41 (f := .glo "_law_after") rfl) },
    gLBox := He.ga K "_law_box",
    dLBox := d45,
    LBox := { fn := F45, bi := F45.binds fun _ _ _ _ _ _ us hl => match us, hl with | [_], _ => rfl, im := He.glo_ok X G (c.fact 42 (f := .glo "_law_box") rfl) },
    gLDistances := He.ga K "_law_distances",
    dLDistances := d46,
    LDistances := { fn := F46, bi := F46.binds fun _ _ _ _ _ _ us hl => match us, hl with | [_, _, _], _ => rfl, im := He.glo_ok X G (c.fact 43 (f := .glo "_law_distances") rfl) },
    gLPairRight := He.ga K "_law_pair_right",
    dLPairRight := d47,
    LPairRight := { fn := F47, bi := F47.binds fun _ _ _ _ _ _ us hl => match us, hl with | [_, _, _, _, _], _ => rfl, im := He.glo_ok X G (c.fact 44 (f := .glo "_law_pair_right") rfl) },
    gLaw := He.ga K "law",
    dLaw := d48,
    Law := { fn := F48, bi := F48.binds fun _ _ _ _ _ _ us hl => match us, hl with | [_], _ => rfl, im := He.glo_ok X G (c.fact 45 (f := .glo "law") rfl) },
    bInitS := F0.binds fun _ _ _ _ _ _ us hl => match us, hl with | [_, _, _], _ => rfl,
    mkS := He.mkr_ok (c.fact 71 (f := .mkr "System") rfl),
    bIsRule := F1.binds fun _ _ _ _ _ _ us hl => match us, hl with | [_], _ => rfl,
    pIsRule := He.ma K (He.ga K "System") "is_rule",
    rest := rest,
    rdS := x1,
    gaS := He.eqO_ok x2,
    smS := x5,
    rcS := x6,
    fiS := x4,
    CR := He.ga K "Reach",
    clR := He.cls_ok (c.fact 70 (f := .cls "Reach") rfl),
    nStart := He.noat_ok (c.fact 75 (f := .noat "Reach" "start") rfl),
    nBest := He.noat_ok (c.fact 76 (f := .noat "Reach" "best") rfl),
    nLast := He.noat_ok (c.fact 77 (f := .noat "Reach" "last") rfl),
    imR := He.glo_ok X G (c.fact 47 (f := .glo "Reach") rfl),
    bInitR := F2.binds fun _ _ _ _ _ _ us hl => match us, hl with | [_, _, _], _ => rfl,
    mkR := He.mkr_ok (c.fact 72 (f := .mkr "Reach") rfl),
    imCN := He.glo_ok X G (c.fact 0 (f := .glo "check_numbers") rfl),
    imSS := He.glo_ok X G (c.fact 1 (f := .glo "safe_steps") rfl),
    imMo := He.glo_ok X G (c.fact 2 (f := .glo "moments") rfl)
  }, rfl⟩
end K73
set_option maxHeartbeats 0
namespace K73
open PySem PySem.Spec PyProof.Rows L2
/-- the law's promise at what the top leaves -/
theorem law_at {P : Program} {w : World} {K : PySem.W.Frag} {h : Heap} {mg : Str → Option Value} {fa : Addr} (X : K.In h) (G : h.Ns mainGlobals mg) (him : mg "law" = some (.ref fa)) (c : He5.SaysA hFa hDefs K) (c2 : hEx K = true) :
    ∃ fd : FuncData, (∀ (s : Shared) (u : Value), BindsTo s fd ⟨[u], []⟩ [("_law_script", u)]) ∧ ∀ base : Heap, K.In base → base.Ns mainGlobals mg → FnG P w K mg base 10 fa fd ["_law_script"] (spLaw K) := by
  obtain ⟨Z, _⟩ := tp_of X G c c2
  have e := him.symm.trans Z.Law.im
  obtain rfl : fa = Z.gLaw := Value.ref.inj (Option.some.inj e)
  obtain ⟨oc, od, kV, doc, pm, an, cdv, ct, osl, efd, lk, hcd⟩ := Z.Law.fn.ex
  refine ⟨Z.dLaw, fun s u => ?_, fun base _ _ => Z.law⟩
  rw [efd]
  exact .of_eq rfl
end K73
open PySem PySem.W PySem.Calls PyProof.Rows
theorem PySem.Challenge.cw_windowsteps_k73_whole_least_steps_holds : PySem.Challenge.rw_windowsteps_k73_whole_least_steps.Holds := by
  w_on; o_law
  refine HandSHeadRun.head_any (r := OpenLaw.row PySem.Challenge.rw_windowsteps_k73_whole_least_steps) (q := view (OpenLaw.row PySem.Challenge.rw_windowsteps_k73_whole_least_steps).prog [65]) (H := K73.hHook) (ob := K73.hOb) (M := 4000) (loose := K73.hLoose) (d := HandSHeadRun.topDef (OpenLaw.row PySem.Challenge.rw_windowsteps_k73_whole_least_steps).prog 65) (kwd := []) K73.hOb_eq
    (by kernel_rfl) (fun s => by kernel_rfl) K73.hRun (by kernel_rfl) (by kernel_rfl) (by kernel_rfl) (by rfl) (by first | assumption | decide +kernel) (by decide +kernel) ⟨rfl, rfl, rfl, rfl, rfl, by decide +kernel⟩ ?hw ?hc
  case hw => w_witness2
  case hc =>
    refine K73.walk_g (l := PySem.Challenge.rw_windowsteps_k73_whole_least_steps) (n := 63) (k := 10) (x := "_law_script") rfl (by decide) (by kernel_rfl) ⟨rfl, by decide, by decide⟩ ?F
    intro w mg fa h ⟨K, X, c, c2⟩ G him
    have him : mg ("law" : PySem.Str) = some (.ref fa) := by
      have e : (HandSHeadRun.topDef (OpenLaw.row PySem.Challenge.rw_windowsteps_k73_whole_least_steps).prog 65).name = ("law" : PySem.Str) := by kernel_rfl
      rw [← e]
      exact him
    obtain ⟨fd, hb, hF⟩ := K73.law_at (P := (PySem.Challenge.rw_windowsteps_k73_whole_least_steps).prog) (w := w) X G him c c2
    exact ⟨K, fd, K73.spLaw K, X, hb, fun H a ns hl hS => ⟨a, ns, rfl, hS, hl, fun _ => rfl⟩, hF⟩
