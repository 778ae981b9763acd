import PyProof.Rows.All
import Wide.All
import OpenK.AllK
import Wide.FinOn
import HandS.ForMost
import KE.GoesRaise
import HandS.Exc
import HandS.ExcOwn
import HandS.TryOnly
import HandS.WordsExc
import HandS.IsInst
import HandS.ExcIs
import HandS.More
import HandS.SuiteRaise
import HandS.Codes
import PySem.Challenge.RW_guessroom_k46_whole_texts_of_houses
set_option Elab.async false
set_option linter.all false
set_option maxRecDepth 100000
set_option maxHeartbeats 8000000
/-! The plain mathematics of house texts, over lists of sign codes. -/
namespace K46
open PySem TL

/-- parts one behind another, the sign s ahead of each -/
def ahead (s : Nat) (ps : List (List Nat)) : List Nat := (ps.map fun p => s :: p).flatten
/-- parts one behind another, the sign s behind each -/
def behind (s : Nat) (ps : List (List Nat)) : List Nat := (ps.map fun p => p ++ [s]).flatten
theorem ahead_cons (s : Nat) (p : List Nat) (ps : List (List Nat)) : ahead s (p :: ps) = s :: (p ++ ahead s ps) := by
  unfold ahead
  rw [List.map_cons, List.flatten_cons]
  rfl
theorem behind_cons (s : Nat) (p : List Nat) (ps : List (List Nat)) : behind s (p :: ps) = p ++ (s :: behind s ps) := by
  unfold behind
  rw [List.map_cons, List.flatten_cons, List.append_assoc]
  rfl
theorem ahead_append (s : Nat) (ps qs : List (List Nat)) : ahead s (ps ++ qs) = ahead s ps ++ ahead s qs := by
  unfold ahead
  rw [List.map_append, List.flatten_append]
theorem behind_append (s : Nat) (ps qs : List (List Nat)) : behind s (ps ++ qs) = behind s ps ++ behind s qs := by
  unfold behind
  rw [List.map_append, List.flatten_append]
theorem joinL_ahead (s : Nat) : ∀ (ps : List (List Nat)) (p : List Nat), joinL [s] (p :: ps) = p ++ ahead s ps
  | [], p => by
    show p = p ++ []
    rw [List.append_nil]
  | q :: r, p => by
    show p ++ ([s] ++ joinL [s] (q :: r)) = _
    rw [joinL_ahead s r q, ahead_cons]
    rfl
theorem joinL_behind (s : Nat) : ∀ (ps : List (List Nat)) (p : List Nat), joinL [s] (p :: ps) ++ [s] = behind s (p :: ps)
  | [], p => by
    rw [behind_cons]
    rfl
  | q :: r, p => by
    show p ++ ([s] ++ joinL [s] (q :: r)) ++ [s] = _
    rw [behind_cons, ← joinL_behind s r q, List.append_assoc, List.append_assoc]
    rfl

/-! ### a text cut and joined again -/
theorem pre_one (s c : Nat) (r : List Nat) : pre [s] (c :: r) = decide (c = s) := by
  unfold pre
  by_cases h : c = s
  · subst h
    simp
  · simp [h]
theorem spl_join_one (s : Nat) : ∀ (L acc : List Nat), joinL [s] (spl [s] 0 acc L) = acc ++ L
  | [], acc => by
    rw [spl_nil]
    show acc = acc ++ []
    rw [List.append_nil]
  | c :: r, acc => by
    by_cases h : c = s
    · have hp : pre [s] (c :: r) = true := by rw [pre_one, decide_eq_true h]
      have ih := spl_join_one s r []
      rw [spl_hit hp]
      show joinL [s] (acc :: spl [s] 0 [] r) = _
      rw [joinL_ahead]
      cases e : spl [s] 0 [] r with
      | nil =>
        exfalso
        cases r with
        | nil => rw [spl_nil] at e; cases e
        | cons d t =>
          by_cases k : pre [s] (d :: t) = true
          · rw [spl_hit k] at e; cases e
          · have k' : pre [s] (d :: t) = false := by
              cases z : pre [s] (d :: t) with
              | true => exact absurd z k
              | false => rfl
            have ne : ∀ (L' acc' : List Nat), spl [s] 0 acc' L' ≠ [] := by
              intro L'
              induction L' with
              | nil => intro acc' z; rw [spl_nil] at z; cases z
              | cons x y iy =>
                intro acc' z
                by_cases k2 : pre [s] (x :: y) = true
                · rw [spl_hit k2] at z; cases z
                · have k3 : pre [s] (x :: y) = false := by
                    cases w : pre [s] (x :: y) with
                    | true => exact absurd w k2
                    | false => rfl
                  rw [spl_miss k3] at z
                  exact iy _ z
            exact ne _ _ e
      | cons q t =>
        rw [e, joinL_ahead] at ih
        rw [ahead_cons, ih, h]
        rfl
    · have hp : pre [s] (c :: r) = false := by rw [pre_one, decide_eq_false h]
      rw [spl_miss hp, spl_join_one s r (acc ++ [c]), List.append_assoc]
      rfl
theorem spl_ne (s : Nat) : ∀ (L acc : List Nat), spl [s] 0 acc L ≠ []
  | [], acc => by rw [spl_nil]; simp
  | c :: r, acc => by
    by_cases h : c = s
    · rw [spl_hit (by rw [pre_one, decide_eq_true h])]; simp
    · rw [spl_miss (by rw [pre_one, decide_eq_false h])]
      exact spl_ne s r _
theorem split_back {x y : Str} {s : Nat} (ey : tl y = [s]) (hs : s < 256) : joinL [s] ((Txt.split x y).map tl) = tl x ∧ (Txt.split x y).map tl ≠ [] := by
  have hk : y.cps.all (· < 256) = true := by
    rw [Array.all_eq_true']
    intro c hc
    have z : c ∈ tl y := by simpa using hc
    rw [ey, List.mem_singleton] at z
    rw [z]
    exact decide_eq_true hs
  rw [split_spl x y (by rw [ey]; simp) (kind_ok hk), ey]
  refine ⟨?_, spl_ne s _ _⟩
  rw [spl_join_one]
  rfl
theorem tl_join_one {y : Str} {s : Nat} (ey : tl y = [s]) (ps : List Str) : tl (Txt.join y ps) = joinL [s] (ps.map tl) := by
  rw [join_eq, tl_join, ey]

/-! ### numbers -/
theorem numL_zero : numL 0 = [48] := numL_lt (by decide)
/-- the digits of a number that is not zero begin with no nought -/
theorem val_snoc (l : List Nat) (c : Nat) : NumText.digitsVal (l ++ [c]) = NumText.digitsVal l * 10 + (c - 48) := by
  unfold NumText.digitsVal
  rw [List.foldl_append]
  rfl
theorem val_pos : ∀ (l : List Nat) (acc : Nat), 0 < acc → 0 < l.foldl (fun a c => a * 10 + (c - 48)) acc
  | [], _, h => h
  | c :: r, acc, h => by
    rw [List.foldl_cons]
    exact val_pos r _ (by omega)
theorem num_back : ∀ (n : Nat) (l : List Nat), l.length = n → NumText.AllDigits l → l ≠ [] → (l.head? = some 48 → l.length = 1) → numL (NumText.digitsVal l) = l
  | 0, l, hn, _, h0, _ => absurd (List.length_eq_zero_iff.mp hn) h0
  | 1, l, hn, hd, _, _ => by
    obtain ⟨c, rfl⟩ := List.length_eq_one_iff.mp hn
    have hc := hd c (List.mem_singleton.mpr rfl)
    have e : NumText.digitsVal [c] = c - 48 := by
      show 0 * 10 + (c - 48) = _
      omega
    rw [e, numL_lt (by omega)]
    congr 1
    omega
  | n + 2, l, hn, hd, h0, hz => by
    have hb : l = l.dropLast ++ [l.getLast h0] := (List.dropLast_concat_getLast h0).symm
    generalize hd0 : l.dropLast = d at hb
    generalize hc0 : l.getLast h0 = c at hb
    have hlen : d.length = n + 1 := by
      have := congrArg List.length hb
      rw [List.length_append, List.length_singleton, hn] at this
      omega
    have dne : d ≠ [] := by
      intro z
      rw [z] at hlen
      cases hlen
    have dd : NumText.AllDigits d := fun x hx => hd x (by rw [hb]; exact List.mem_append_left _ hx)
    have hc := hd c (by rw [hb]; simp)
    have hh : d.head? = l.head? := by
      rw [hb]
      cases d with
      | nil => exact absurd rfl dne
      | cons x y => rfl
    have nz : l.head? ≠ some 48 := fun z => by
      have := hz z
      rw [hn] at this
      omega
    have ih := num_back (n + 1) d hlen dd dne fun z => absurd (hh ▸ z) nz
    have pos : 0 < NumText.digitsVal d := by
      cases d with
      | nil => exact absurd rfl dne
      | cons x y =>
        have hx := dd x (List.mem_cons_self ..)
        have x48 : x ≠ 48 := fun z => nz (by rw [← hh, z]; rfl)
        show 0 < y.foldl (fun a c => a * 10 + (c - 48)) (0 * 10 + (x - 48))
        exact val_pos y _ (by omega)
    rw [hb, val_snoc, numL_step (by omega)]
    have e1 : (NumText.digitsVal d * 10 + (c - 48)) / 10 = NumText.digitsVal d := by omega
    have e2 : 48 + (NumText.digitsVal d * 10 + (c - 48)) % 10 = c := by omega
    rw [e1, e2, ih]
theorem val_lt : ∀ (l : List Nat), NumText.AllDigits l → NumText.digitsVal l < 10 ^ l.length := by
  have go : ∀ (n : Nat) (l : List Nat), l.length = n → NumText.AllDigits l → NumText.digitsVal l < 10 ^ n := by
    intro n
    induction n with
    | zero =>
      intro l hl _
      rw [List.length_eq_zero_iff.mp hl]
      decide
    | succ n ih =>
      intro l hl hd
      have h0 : l ≠ [] := fun z => by rw [z] at hl; cases hl
      have hb : l = l.dropLast ++ [l.getLast h0] := (List.dropLast_concat_getLast h0).symm
      generalize hd0 : l.dropLast = d at hb
      generalize hc0 : l.getLast h0 = c at hb
      have hlen : d.length = n := by
        have := congrArg List.length hb
        rw [List.length_append, List.length_singleton, hl] at this
        omega
      have hc := hd c (by rw [hb]; simp)
      have := ih d hlen fun x hx => hd x (by rw [hb]; exact List.mem_append_left _ hx)
      rw [hb, val_snoc, Nat.pow_succ]
      omega
  exact fun l hd => go l.length l rfl hd

/-! ### houses -/
/-- "room " -/
def roomW : List Nat := [114, 111, 111, 109]
/-- "house " -/
def houseW : List Nat := [104, 111, 117, 115, 101]
/-- a room's row, without the line feed -/
def rowL (r : Nat × List Nat) : List Nat := roomW ++ ahead 32 (numL r.1 :: r.2.map numL)
def roomsL (rs : List (Nat × List Nat)) : List Nat := behind 10 (rs.map rowL)
def houseL (n : Nat) (rs : List (Nat × List Nat)) : List Nat := houseW ++ (32 :: (numL n ++ (10 :: roomsL rs)))
theorem roomsL_snoc (rs : List (Nat × List Nat)) (r : Nat × List Nat) : roomsL (rs ++ [r]) = roomsL rs ++ (rowL r ++ [10]) := by
  unfold roomsL
  rw [List.map_append, behind_append]
  congr 1
  unfold behind
  simp
theorem roomsL_nil : roomsL [] = [] := rfl

/-- a house in bounds -/
structure Sound (n : Nat) (rs : List (Nat × List Nat)) : Prop where
  n1 : 1 ≤ n
  n6 : n ≤ 6
  r1 : 1 ≤ rs.length
  r40 : rs.length ≤ 40
  mark : ∀ r ∈ rs, r.1 ≤ 1000000000
  many : ∀ r ∈ rs, r.2.length = n
  way : ∀ r ∈ rs, ∀ w ∈ r.2, w < rs.length
theorem num_len10 {n : Nat} (h : n < 10000000000) : (numL n).length ≤ 10 := numL_len (by decide) (by simpa using h)
theorem ahead_len (s k : Nat) : ∀ (ps : List (List Nat)), (∀ p ∈ ps, p.length ≤ k) → (ahead s ps).length ≤ ps.length * (k + 1)
  | [], _ => Nat.zero_le _
  | p :: ps, h => by
    have h1 := h p (List.mem_cons_self ..)
    have h2 := ahead_len s k ps fun q hq => h q (List.mem_cons_of_mem _ hq)
    rw [ahead_cons, List.length_cons, List.length_append, List.length_cons, Nat.succ_mul]
    omega
theorem row_len {r : Nat × List Nat} (h1 : r.1 < 10000000000) (h2 : r.2.length ≤ 6) (h3 : ∀ w ∈ r.2, w < 10000000000) : (rowL r).length ≤ 81 := by
  unfold rowL
  have z := ahead_len 32 10 (numL r.1 :: r.2.map numL) fun p hp => by
    rcases List.mem_cons.mp hp with rfl | hp
    · exact num_len10 h1
    · obtain ⟨w, hw, rfl⟩ := List.mem_map.mp hp
      exact num_len10 (h3 w hw)
  rw [List.length_cons, List.length_map] at z
  rw [List.length_append]
  have : roomW.length = 4 := rfl
  omega
theorem rooms_len : ∀ (rs : List (Nat × List Nat)), (∀ r ∈ rs, (rowL r).length ≤ 81) → (roomsL rs).length ≤ rs.length * 82
  | [], _ => Nat.zero_le _
  | r :: rs, h => by
    have h1 := h r (List.mem_cons_self ..)
    have h2 := rooms_len rs fun q hq => h q (List.mem_cons_of_mem _ hq)
    unfold roomsL at h2 ⊢
    rw [List.map_cons, behind_cons, List.length_append, List.length_cons, List.length_cons, Nat.succ_mul]
    omega

/-! ### lengths of joined and cut texts -/
/-- the signs of parts, one more for each -/
def wide (ps : List Str) : Nat := (ps.map fun p => p.length + 1).sum
theorem wide_nil : wide [] = 0 := rfl
theorem wide_cons (p : Str) (ps : List Str) : wide (p :: ps) = p.length + 1 + wide ps := by
  unfold wide
  rw [List.map_cons, List.sum_cons]
theorem wide_append (ps qs : List Str) : wide (ps ++ qs) = wide ps + wide qs := by
  unfold wide
  rw [List.map_append, List.sum_append]
theorem wide_len (ps : List Str) : ps.length ≤ wide ps := by
  induction ps with
  | nil => exact Nat.le_refl _
  | cons p ps ih => rw [wide_cons, List.length_cons]; omega
theorem wide_sum (ps : List Str) : (ps.map (·.length)).sum + ps.length * 1 = wide ps := by
  induction ps with
  | nil => rfl
  | cons p ps ih =>
    rw [wide_cons, List.map_cons, List.sum_cons, List.length_cons]
    omega
theorem wide_mem {ps : List Str} {p : Str} (h : p ∈ ps) : p.length + 1 ≤ wide ps := by
  induction ps with
  | nil => cases h
  | cons q ps ih =>
    rw [wide_cons]
    rcases List.mem_cons.mp h with rfl | h
    · omega
    · have := ih h
      omega
theorem wide_at {ps : List Str} {i : Nat} {p : Str} (h : ps[i]? = some p) : p.length + 1 ≤ wide ps := wide_mem (List.mem_of_getElem? h)
theorem wide_erase : ∀ (ps : List Str) (i : Nat), wide (ps.eraseIdx i) ≤ wide ps
  | [], _ => Nat.le_refl _
  | p :: ps, 0 => by
    show wide ps ≤ _
    rw [wide_cons]
    omega
  | p :: ps, i + 1 => by
    show wide (p :: ps.eraseIdx i) ≤ _
    rw [wide_cons, wide_cons]
    have := wide_erase ps i
    omega
theorem wide_erase_at : ∀ {ps : List Str} {i : Nat} {p : Str}, ps[i]? = some p → wide (ps.eraseIdx i) + (p.length + 1) = wide ps
  | [], _, _, h => by simp at h
  | q :: ps, 0, p, h => by
    have e : q = p := Option.some.inj h
    subst e
    show wide ps + _ = _
    rw [wide_cons]
    omega
  | q :: ps, i + 1, p, h => by
    have ih := wide_erase_at (ps := ps) (i := i) (p := p) h
    show wide (q :: ps.eraseIdx i) + _ = _
    rw [wide_cons, wide_cons]
    omega
theorem wide_set : ∀ (ps : List Str) (i : Nat) (p : Str), wide (ps.set i p) ≤ wide ps + (p.length + 1)
  | [], _, _ => Nat.zero_le _
  | q :: ps, 0, p => by
    show wide (p :: ps) ≤ _
    rw [wide_cons, wide_cons]
    omega
  | q :: ps, i + 1, p => by
    show wide (q :: ps.set i p) ≤ _
    rw [wide_cons, wide_cons]
    have := wide_set ps i p
    omega
theorem ahead_wide (s : Nat) : ∀ ps : List Str, (ahead s (ps.map tl)).length = wide ps
  | [] => rfl
  | p :: ps => by
    rw [List.map_cons, ahead_cons, List.length_cons, List.length_append, ahead_wide s ps, wide_cons, len_tl]
    omega
theorem join_wide {y : Str} {s : Nat} (ey : tl y = [s]) {ps : List Str} (h : ps ≠ []) : (Txt.join y ps).length + 1 = wide ps := by
  cases ps with
  | nil => exact absurd rfl h
  | cons p ps =>
    rw [len_tl, tl_join_one ey, List.map_cons, joinL_ahead, List.length_append, ahead_wide, wide_cons, len_tl]
    omega
theorem join_wide_le {y : Str} {s : Nat} (ey : tl y = [s]) (ps : List Str) : (Txt.join y ps).length ≤ wide ps := by
  cases ps with
  | nil =>
    rw [len_tl, tl_join_one ey]
    exact Nat.zero_le _
  | cons p ps =>
    have := join_wide (ps := p :: ps) ey (by simp)
    omega
theorem split_wide {x y : Str} {s : Nat} (ey : tl y = [s]) (hs : s < 256) : wide (Txt.split x y) = x.length + 1 ∧ Txt.split x y ≠ [] := by
  obtain ⟨h1, h2⟩ := split_back (x := x) ey hs
  have ne : Txt.split x y ≠ [] := fun z => h2 (by rw [z]; rfl)
  refine ⟨?_, ne⟩
  generalize Txt.split x y = ps at *
  cases ps with
  | nil => exact absurd rfl ne
  | cons p ps =>
    rw [List.map_cons, joinL_ahead] at h1
    have z := congrArg List.length h1
    rw [List.length_append, ahead_wide, ← len_tl, ← len_tl] at z
    rw [wide_cons]
    omega
end K46

/-! A list comprehension whose element is a call that may raise: the raise comes out of the block into the frame around. -/
namespace K46
open PySem PySem.Spec PyProof.Rows L2

/-- the ground B without the block's own names at C -/
theorem flying_less {B B1 h : Heap} {l : List Env} {a : Addr} {Z : Obj → Prop} (le : ∀ b o, B1.get? b = some o → B.get? b = some o)
    (x : HandSPX.FlyingZ B l a Z h) : HandSPX.FlyingZ B1 l a Z h := by
  have dn : ∀ b, B.get? b = none → B1.get? b = none := by
    intro b n
    cases q : B1.get? b with
    | none => rfl
    | some o =>
      rw [le b o q] at n
      cases n
  obtain ⟨st, na, ff, oe, vs, T, oT, ts, r1, r2, r3, r4, r5, r6⟩ := x
  refine ⟨fun b o e => st b o (le b o e), dn _ na, funFrames_none ff fun L hL => dn L ?_, oe, vs, T, oT, ts, r1, r2, r3, r4, dn _ r5, r6⟩
  exact (ff.mem hL).1

theorem held_but {B h h' : Heap} {l : List Env} {a C L : Addr} {Z : Obj → Prop} {m m' : Str → Option Value} (nC : B.get? C = none) (hn : h.Ns C m) (hn' : h'.Ns C m')
    (sb : Heap.SameBut C h h') (x : HandSPX.HeldZ B l a Z L h) : HandSPX.HeldZ B l a Z L h' := by
  obtain ⟨st, na, ff, oe, vs, T, oT, ts, he, hz, hd, h1, nT, neT, hT, dT, h3⟩ := x
  obtain ⟨oC, es, ep, eC, dC, _⟩ := hn
  have nf : ∀ b ob ws, h.get? b = some ob → ob.data = .fields ws → b ≠ C := by
    intro b ob ws e d z
    rw [z, eC] at e
    cases e
    rw [dC] at d
    cases d
  refine ⟨fun b o e => (sb.2 b fun z => ?_).trans (st b o e), na, Heap.FunFrames.sameBut sb hn' ff, oe, vs, T, oT, ts, (sb.2 _ (nf _ _ _ he hd)).trans he, hz, hd, h1, nT, neT, (sb.2 _ (nf _ _ _ hT dT)).trans hT, dT, h3⟩
  rw [z, nC] at e
  cases e

/-- a heap's part: all of B, and what stands at the addresses l -/
theorem part_of {B h : Heap} (l : List Addr) (le : ∀ b o, B.get? b = some o → h.get? b = some o) :
    ∃ G : Heap, (∀ b o, B.get? b = some o → G.get? b = some o) ∧ (∀ b ∈ l, ∀ o, h.get? b = some o → G.get? b = some o) ∧ ∀ b o, G.get? b = some o → h.get? b = some o ∧ (B.get? b = some o ∨ b ∈ l) := by
  obtain ⟨G, inside, outside⟩ := restrict h fun b => (B.get? b).isSome || l.contains b
  refine ⟨G, fun b o e => ?_, fun b m o e => ?_, fun b o e => ?_⟩
  · exact (inside b (by rw [e]; rfl)).trans (le b o e)
  · exact (inside b (by simp [m])).trans e
  · by_cases q : ((B.get? b).isSome || l.contains b) = true
    · have eh := (inside b q).symm.trans e
      refine ⟨eh, ?_⟩
      cases r : B.get? b with
      | none =>
        rw [r] at q
        exact .inr (by simpa using q)
      | some u => exact .inl ((le b u r).symm.trans eh)
    · have n := outside b (by simpa using q)
      rw [e] at n
      cases n
section
variable {X : Cx} {E : XK}
/-- out of a call in the block: what the comprehension owes -/
theorem block_raise {pins : List (Addr × Obj)} {σ τ : L2.St} {L R0 : Hp} {S S1 S2 : Shared} {scope : Scope} {C : Env} {fp : List Addr} {W : Value → Shared → Prop} {qs : List (Addr × Obj)} {u : Value}
    (hs : X.stack = X.env :: X.outer) (hf : X.env.frame = some X.env.locals) (tk : L2.Takes X (fun cls d _ H => E cls d H))
    (I : Inv X pins σ L S) (its : ∀ b ∈ fp, FpOk X pins L b ∧ b < S.heap.objs.size) (hce : C.frame = X.env.frame) (hcl : C.locals = S.heap.objs.size)
    (J : Inv ((X.blk S L scope C fp).wish W) qs τ R0 S1)
    (c : L2.CX X.prog X.w X.stack R0 S1 E u S2) : notedBy (model X.prog X.w) X.A C (CompFails (model X.prog X.w) X.A X.xe C) u S2 := by
  obtain ⟨x, B, R, cls, d, rfl, fly, tr, un, nx, so, bare, want⟩ := c
  -- the block's names: no frame's, not tracked, still there
  obtain ⟨mC, names, _⟩ := J.loc
  have names : S1.heap.Ns C.locals mC := names
  have free1 : R0 C.locals = none := J.free
  have young : ∀ b o, S.heap.get? b = some o → b ≠ C.locals := fun b o e z => by
    have l := Heap.lt_size e
    rw [z, hcl] at l
    exact absurd l (Nat.lt_irrefl _)
  have noFrame : C.locals ∉ frs X.stack := fun m => by
    obtain ⟨_, o, e, _⟩ := I.stack.mem m
    exact young _ o e rfl
  obtain ⟨oC, es, ep, eC, shape⟩ := id names
  have names2 : S2.heap.Ns C.locals mC := ⟨oC, es, ep, fly.1 _ _ (un.keep _ _ eC free1 noFrame), shape⟩
  have free2 : R C.locals = none := un.free _ _ eC free1
  -- the ground without them
  obtain ⟨B1, same, gone⟩ := restrict B fun b => !(b == C.locals)
  have ground : ∀ b, b ≠ C.locals → B1.get? b = B.get? b := fun b n => same b (by simpa using n)
  have gone : B1.get? C.locals = none := gone _ (by simp)
  have less : ∀ b o, B1.get? b = some o → B.get? b = some o := fun b o e => by
    by_cases z : b = C.locals
    · rw [z, gone] at e
      cases e
    · exact (ground b z).symm.trans e
  have fly1 := flying_less less fly
  rw [hs] at fly1
  -- the state without the exception
  obtain ⟨G, all, slots, from_⟩ := part_of (frs X.stack) fun b o e => fly.1 b o (less b o e)
  have old : Un (frs X.stack) fp L R0 S.heap S1.heap := J.base
  have keepG : ∀ b o, b ≠ C.locals → B.get? b = some o → G.get? b = some o := fun b o n e => all b o ((ground b n).trans e)
  have K1 : Inv X pins σ R { S with heap := G, gens := S2.gens, drawn := S2.drawn, toks := S2.toks } := by
    refine I.call (ch := fp) ?_ (fun b o q => ?_) bare fun b m => ?_
    · constructor
      · exact fun b o e n nf nx => keepG b o (young b o e) (un.keep b o (old.keep b o e n nf nx) (old.free b o e n nx) nf)
      · intro b o e n inF nx
        obtain ⟨s1, e1⟩ := old.slot b o e n inF nx
        obtain ⟨s2, e2⟩ := un.slot b _ e1 inF
        exact ⟨s2, slots b inF _ e2⟩
      · intro b o e n nx
        obtain ⟨o1, e1⟩ := old.there b o e nx
        exact un.free b o1 e1 (old.free b o e n nx)
      · intro b o e nx
        obtain ⟨o1, e1⟩ := old.there b o e nx
        by_cases inF : b ∈ frs X.stack
        · obtain ⟨s2, e2⟩ := un.slot b _ e1 inF
          exact ⟨_, slots b inF _ e2⟩
        · obtain ⟨o2, e2⟩ := un.there b o1 e1 inF
          exact ⟨o2, keepG b o2 (young b o e) e2⟩
      · exact fun b xs e => un.tups b xs (old.tups b xs e)
      · exact fun b o v e => un.frzs b o v (old.frzs b o v e)
      · intro b ps e
        obtain ⟨m1, e1⟩ := old.tbls b ps e
        obtain ⟨m2, e2⟩ := un.tbls b _ e1
        exact ⟨m1 ++ m2, by rw [← Array.append_assoc]; exact e2⟩
    · have tracked : ∀ a, R a ≠ none → a ≠ C.locals := fun a h z => h (z ▸ free2)
      refine (tr b o q).stay (fun a v ha e => keepG a v ?_ e) (fun _ z => z) fun _ _ z => z
      rcases ha with rfl | ha
      · exact tracked a (by rw [q]; simp)
      · exact tracked a (by rw [ha]; simp)
    · obtain ⟨⟨_, f1, _, f3, f4, f5⟩, _⟩ := its b m
      exact ⟨f3, f1, f4, f5⟩
  -- the frame notes it, the names go, it flies on
  show wpAny (model X.prog X.w) X.A (noteFrame (.ref x) C) _ _ S2
  rw [noteFrame_env _ hce]
  refine HandSPX.looks_onZ Zc.steady (by rw [I.ok.frames, hs]) hf fly1 fun h1 held up1 => ⟨mC, up1.ns names2, fun h2 _ n2 sb => ?_⟩
  have held2 := held_but gone (up1.ns names2) n2 sb held
  obtain ⟨_, _, _, oe, vs, t, ot, ts, e1, _, e2, e3, _⟩ := id held2
  unfold PySem.passOn
  refine wpAny_bind (wpAny_field e1 e2 e3 ?_)
  rw [if_neg (by simp : ¬ ((Value.ref t == Value.none) = true)), hce, hf]
  refine wpAny_bind (HandSPX.setFlight_onZ held2 fun h3 held3 up3 => wpAny_throw (tk _ _ ⟨x, B1, _, pins, σ, R, cls, d, rfl, K1, fun b o e nf => ?_, fun b o e rec => ?_, .inr (.inr (by rw [hs]; exact held3)), nx, so.trans J.os, bare, want⟩))
  · exact (from_ b o e).2.resolve_right nf
  · obtain ⟨eS, w⟩ := from_ b o e
    have nb : b ≠ C.locals := fun z => by
      subst z
      rcases w with w | w
      · rw [gone] at w
        cases w
      · exact noFrame w
    obtain ⟨s1, e1⟩ := up1 b o eS rec
    obtain ⟨s2, e2⟩ := up3 b _ ((sb.2 b nb).trans e1) rec
    exact ⟨s2, e2⟩
end
/-- a comprehension that stands at its block's beginning: X and I the def around, S the state with the new list, L its abstract heap, C the block's frame, fp the iterator's own objects -/
structure Blk (X : Cx) (pins : List (Addr × Obj)) (σ : L2.St) (L : Hp) (S : Shared) (scope : Scope) (own : List (Str × Nat)) (fp : List Addr) (C : Env) : Prop where
  around : Inv X pins σ L S
  its : ∀ b ∈ fp, FpOk X pins L b ∧ b < S.heap.objs.size
  at_ : C.locals = S.heap.objs.size
  frame : C.frame = X.env.frame
section
variable {X : Cx} {pins qs : List (Addr × Obj)} {σ τ : L2.St} {L L' : Hp} {S S' : Shared} {scope : Scope} {own : List (Str × Nat)} {fp : List Addr} {C : Env}
/-- the iterator's objects, asked within the block -/
theorem Blk.inner (I : Inv (X.blk S L scope C fp) [] τ L' S') (no : ∀ b ∈ fp, L' b = none) : ∀ b ∈ fp, FpOk (X.blk S L scope C fp) [] L' b := by
  intro b m
  have own_ := I.ok.exf b m
  exact ⟨no b m, own_.1, I.ok.exfs b m, Or.inl m, fun y c e => own_.2 y c e, fun p hp => by
    rw [List.append_nil] at hp
    cases hp⟩
/-- out of the block: the state is one of the def around -/
theorem Blk.leave (B : Blk X pins σ L S scope own fp C) (I : Inv (X.blk S L scope C fp) qs τ L' S') : Inv X pins σ L' S' := by
  refine B.around.call' (ch := fp) I.os I.base I.hok I.bare fun b m => ?_
  obtain ⟨⟨_, f1, _, f3, f4, f5⟩, _⟩ := B.its b m
  exact ⟨f3, f1, f4, f5⟩
/-- the block's own names go -/
theorem Blk.gone (B : Blk X pins σ L S scope own fp C) (I : Inv (X.blk S L scope C fp) qs τ L' S') {h : Heap} (sb : Heap.SameBut C.locals S'.heap h) : Inv X pins σ L' { S' with heap := h } := by
  have no : L' S.heap.objs.size = none := B.at_ ▸ (show L' C.locals = none from I.free)
  obtain ⟨f0, f1, _, f3, f4, f5⟩ := B.around.fpOk (Nat.le_refl S.heap.objs.size) no
  refine (B.leave I).turned (it := S.heap.objs.size) (t' := S'.toks) (fun b o nb e => ?_) f0 f1 f3 f4 f5
  rw [sb.2 b (by rw [B.at_]; exact nb)]
  exact e
/-- what holds ahead of the turn with the measure n: W by the turn -/
def Ahead (X : Cx) (S : Shared) (L : Hp) (scope : Scope) (C : Env) (fp : List Addr) (tn : Nat → Heap → Prop) (τ : L2.St) (W : Nat → Nat → Hp → Prop) (n : Nat) (S' : Shared) : Prop :=
  ∃ (i : Nat) (L' : Hp), Inv (X.blk S L scope C fp) [] τ L' S' ∧ tn i S'.heap ∧ (∀ b ∈ fp, L' b = none) ∧ W i n L'
/-- the turn's end -/
theorem Ahead.next {tn : Nat → Heap → Prop} {tg : Expr} {J : It} {it : Addr} {W : Nat → Nat → Hp → Prop} {h7 : Heap} {i m : Nat} (T : Turn X.prog X.w X.K tg J fp it tn) (st : tn (i + 1) h7)
    (I : Inv (X.blk S L scope C fp) ([] ++ pinsAt fp h7) τ L' S') (hw : wipe τ (own.map (·.2)) = wipe σ (own.map (·.2))) (w : W (i + 1) m L') : Ahead X S L scope C fp tn (wipe σ (own.map (·.2))) W m S' := by
  have stands : ∀ b o, b ∈ fp → h7.get? b = some o → S'.heap.get? b = some o ∧ L' b = none := by
    intro b o hb e
    have z := I.pin (b, o) (List.mem_append_right _ (List.mem_append_right _ (mem_pinsAt hb e)))
    exact ⟨z.1, z.2.1⟩
  have len : (wipe σ (own.map (·.2))).length = τ.length := by
    rw [← hw]
    exact wipe_length ..
  refine ⟨i + 1, L', (I.unpinned (pins := [])).weak len fun j v e => ?_, T.keep _ _ _ st fun b hb o e => (stands b o hb e).1, fun b hb => ?_, w⟩
  · exact (wipe_some (hw ▸ e)).1
  · have ⟨o, e, _⟩ := T.obj _ _ st b hb
    exact (stands b o hb e).2
end
section
variable {X : Cx} {E : XK}
/-- [elt for target in iter], the element a call that may let an exception out: E is what is wished of it -/
theorem pe_lcX {elt tg iter : Expr} {scope : Scope} {own : List (Str × Nat)} {pos : Pos} {wi : TI} {g : TG} {te : TE}
    (hs : X.stack = X.env :: X.outer) (hf : X.env.frame = some X.env.locals) (tk : L2.Takes X (fun cls d _ H => E cls d H))
    (hc : X.calm = true) (hN : X.N.Nodup) (hi : PI X tg iter wi) (ok : BlkOk X.N X.env.scope scope own)
    (hg : ∀ (s : Shared) (H : Hp) (C : Addr) (cl : List (Str × Addr)) (fp : List Addr), PG (X.blk s H scope (compEnvC scope cl C X.env) fp) tg g)
    (he : ∀ (s : Shared) (H : Hp) (C : Addr) (cl : List (Str × Addr)) (fp : List Addr) (W : Value → Shared → Prop),
      (∀ σ, PassesAt (L2.CX X.prog X.w) ((X.blk s H scope (compEnvC scope cl C X.env) fp).wish W) σ E) → PE ((X.blk s H scope (compEnvC scope cl C X.env) fp).wish W) elt te)
    (hfs : ∀ x, foldedSetIterable iter X.env x = pure x := by intro _; rfl) :
    PE X (.ListComp elt [⟨tg, iter, [], 0⟩] scope pos) (tLc wi g tYes te (own.map (·.2))) := by
  constructor
  intro pins s σ H Q I h
  rw [eval_ListComp]
  have cellOf_ : ∀ y ∈ scope.names, y.2 = .free → ∃ c, X.env.cells.lookup y.1 = some c := fun y hy fr =>
    I.ok.has _ (ok.free y hy fr)
  have local_ : ∀ y ∈ scope.names, y.2 = .local → scope.names.lookup y.1 = some .local := fun y hy lo => (ok.uniq y hy).trans (congrArg some lo)
  refine comprehension_at (use := none) rfl hfs (closure_ok cellOf_) ok.kind local_ ?_
  refine thn (hi.run pins s σ H _ I h) fun _ sA wA => ?_
  refine thn wA fun _ sB wB => ?_
  obtain ⟨it, fp, tn, J, HB, rfl, IB, T, st0, fpB, rest⟩ := wB
  -- the new list, the block's names
  refine wpAny_newObj_type (newEnv_comp ?_) (Nat.zero_le _)
  obtain ⟨W, ⟨n0, w0⟩, turn⟩ := rest sB.heap.objs.size IB.fresh
  have IS := IB.lnew (t' := sB.toks) (ys := []) (its := []) .nil (Nat.zero_le _)
  have lt : ∀ b ∈ fp, b < sB.heap.objs.size := fun b m => by
    obtain ⟨_, e, _⟩ := T.obj 0 _ st0 b m
    exact Heap.lt_size e
  have stS := T.keep 0 sB.heap (sB.heap.push { cls := .type "list", data := .seq ([] : List Value).toArray }) st0 fun _ _ _ e => Heap.get?_push_of_some _ e
  have szS : (sB.heap.push { cls := .type "list", data := .seq ([] : List Value).toArray }).objs.size = sB.heap.objs.size + 1 := Heap.size_push ..
  have fpS : ∀ b ∈ fp, FpOk X pins (upd HB sB.heap.objs.size (.lst [])) b := fun b m => ⟨by rw [upd_ne (Nat.ne_of_lt (lt b m))]; exact (fpB b m).1, (fpB b m).2⟩
  generalize upd HB sB.heap.objs.size (.lst []) = L at IS fpS w0
  generalize sB.heap.objs.size = D at turn lt szS
  generalize sB.heap.push { cls := .type "list", data := .seq ([] : List Value).toArray } = hS at IS stS szS
  have itsS : ∀ b ∈ fp, FpOk X pins L b ∧ b < hS.objs.size := fun b m => ⟨fpS b m, by rw [szS]; exact Nat.lt_succ_of_lt (lt b m)⟩
  have I0 := block_start IS ok hN itsS
  have pg := hg { sB with heap := hS } L hS.objs.size (cellsFrom (hS.objs.size + 1) scope.names (cloFrom X.env.cells scope.names [])) fp
  have pe := he { sB with heap := hS } L hS.objs.size (cellsFrom (hS.objs.size + 1) scope.names (cloFrom X.env.cells scope.names [])) fp
  have B : Blk X pins σ L { sB with heap := hS } scope own fp (compEnvC scope (cellsFrom (hS.objs.size + 1) scope.names (cloFrom X.env.cells scope.names [])) hS.objs.size X.env) := ⟨IS, itsS, rfl, rfl⟩
  show codeAny _ _ (.compStart (.ListComp elt [⟨tg, iter, [], 0⟩] scope pos) 0 (.ref it) (.ref D) (compEnvC scope (cellsFrom (hS.objs.size + 1) scope.names (cloFrom X.env.cells scope.names [])) hS.objs.size X.env))
    (compEnds (model X.prog X.w) X.A X.xe none (EP X pins σ Q) (.ref D) (compEnvC scope (cellsFrom (hS.objs.size + 1) scope.names (cloFrom X.env.cells scope.names [])) hS.objs.size X.env)) _
  generalize compEnvC scope (cellsFrom (hS.objs.size + 1) scope.names (cloFrom X.env.cells scope.names [])) hS.objs.size X.env = C at I0 pg pe B ⊢
  have st1 := T.keep 0 hS (pushCells (hS.push { cls := .type "dict", data := .dict #[] }) scope.names) stS fun _ _ _ e => pushCells_keeps _ _ _ _ (Heap.get?_push_of_some _ e)
  -- the element's own way out
  have pel := pe (notedBy (model X.prog X.w) X.A C (CompFails (model X.prog X.w) X.A X.xe C)) fun _ _ _ _ _ _ I' c => block_raise hs hf tk IS itsS B.frame B.at_ I' c
  have loop : codeAny (model X.prog X.w) X.A (.compLoop (.ListComp elt [⟨tg, iter, [], 0⟩] scope pos) 0 (.ref it) (.ref D) C) (compEnds (model X.prog X.w) X.A X.xe none (EP X pins σ Q) (.ref D) C)
      { sB with heap := pushCells (hS.push { cls := .type "dict", data := .dict #[] }) scope.names } := by
    refine compLoop_any (Ahead X { sB with heap := hS } L scope C fp tn (wipe σ (own.map (·.2))) W) (fun n s1 ⟨i, H1, I1, t1, no1, w1⟩ => ?_) n0 ⟨0, L, I0, st1, fun b m => (itsS b m).1.1, w0⟩
    rcases turn i n H1 w1 with ⟨stop, q1⟩ | ⟨go, Nx, less, step⟩
    · -- no item is left
      refine thnF (T.done (X.blk { sB with heap := hS } L scope C fp) rfl rfl rfl hc i [] s1 _ H1 (fun _ _ => False) I1 (Blk.inner I1 no1) t1 stop) ?_
      rintro _ s2 ⟨rfl, I2⟩
      obtain ⟨m, names, _⟩ := I2.loc
      exact ⟨m, names, fun h2 sb => ⟨.ref D, H1, B.gone I2 sb, rfl, q1⟩⟩
    · -- the next item, the target, the element, the new list
      refine thnF (T.item (X.blk { sB with heap := hS } L scope C fp) rfl rfl rfl hc i [] s1 _ H1 (fun _ _ => False) I1 (Blk.inner I1 no1) t1 go) ?_
      rintro _ s2 ⟨u, rfl, w2⟩
      refine thnF w2 ?_
      rintro _ s3 ⟨x, H3, I3, r3, y3, t3, no3⟩
      refine thnF (pg.run _ s3 _ H3 x u _ (I3.pinned (Blk.inner I3 no3) (T.obj _ _ t3)) r3 (step x H3 y3)) ?_
      rintro _ s4 ⟨σ4, H4, I4, hw, q4⟩
      refine wpAny_tests_nil ?_
      rw [if_pos rfl]
      have q4 : te σ4 H4 fun y H5 => ∃ acc, H5 D = some (.lst acc) ∧ acc.length < sizeLine ∧ Nx (upd H5 D (.lst (acc ++ [y]))) := (show (if true = true then te σ4 H4 _ else Nx H4) from q4)
      refine thn (pel.run _ s4 σ4 H4 _ (I4.wish _) q4) ?_
      rintro v s5 ⟨y, H5, I5, r5, acc, e5, z5, nx⟩
      refine app_ok (X := X.blk { sB with heap := hS } L scope C fp) I5.unwish e5 z5 r5 fun s6 I6 => ?_
      obtain ⟨m, hm, w6⟩ := less _ nx
      exact ⟨m, hm, Ahead.next T t3 I6 hw w6⟩
  exact codeAny_compStart_list loop (T.self X.A 0 _ _ _ st1 loop)
end
end K46

/-! The defs by their places in the text, what stands in the heap, the promises. -/
namespace K46
open PySem PySem.Spec PyProof.Rows L2 TL
/-! ### the text -/
def topT (i : Nat) : Stmt := PySem.Challenge.pw_guessroom_k46_whole_texts_of_houses.main.body.getD i (.Pass ⟨0, 0, 0, 0⟩)
abbrev sMade : Stmt := topT 8
abbrev sNum : Stmt := topT 11
abbrev sRows : Stmt := topT 12
abbrev sHouse : Stmt := topT 13
abbrev sCell : Stmt := topT 15
abbrev sWhole : Stmt := topT 16
abbrev sDraw : Stmt := topT 17
abbrev sBy : Stmt := topT 18
abbrev sSound : Stmt := topT 19
abbrev sText : Stmt := topT 20
abbrev sSign : Stmt := topT 21
abbrev sSpoil : Stmt := topT 22
abbrev sRowSp : Stmt := topT 23
abbrev sThing : Stmt := topT 24
abbrev sRead : Stmt := topT 25
abbrev sLaw : Stmt := topT 26
theorem scMade : FnScope ["letters", "marks", "ways", "rooms", "mark", "rows", "row", "room"] ["letters", "marks", "ways"] (defScope sMade) :=
  ⟨rfl, rfl, rfl, by decide +kernel, rfl, by decide +kernel, by decide +kernel⟩
theorem scNum : FnScope ["figures", "sign"] ["figures"] (defScope sNum) :=
  ⟨rfl, rfl, rfl, by decide +kernel, rfl, by decide +kernel, by decide +kernel⟩
theorem scRows : FnScope ["text", "head", "rows", "first", "row"] ["text", "head"] (defScope sRows) :=
  ⟨rfl, rfl, rfl, by decide +kernel, rfl, by decide +kernel, by decide +kernel⟩
theorem scHouse : FnScope ["text", "letters", "rows", "marks", "ways", "row", "house", "figures"] ["text"] (defScope sHouse) :=
  ⟨rfl, rfl, rfl, by decide +kernel, rfl, by decide +kernel, by decide +kernel⟩
theorem scCell : FnScope ["script", "k"] ["script", "k"] (defScope sCell) :=
  ⟨rfl, rfl, rfl, by decide +kernel, rfl, by decide +kernel, by decide +kernel⟩
theorem scWhole : FnScope ["found"] ["found"] (defScope sWhole) :=
  ⟨rfl, rfl, rfl, by decide +kernel, rfl, by decide +kernel, by decide +kernel⟩
theorem scDraw : FnScope ["flow", "k", "many", "cell", "mixed"] ["flow", "k", "many"] (defScope sDraw) :=
  ⟨rfl, rfl, rfl, by decide +kernel, rfl, by decide +kernel, by decide +kernel⟩
theorem scBy : FnScope ["flow", "letters", "cell", "rooms", "marks", "ways", "k", "at", "letter"] ["flow", "letters", "cell"] (defScope sBy) :=
  ⟨rfl, rfl, rfl, by decide +kernel, rfl, by decide +kernel, by decide +kernel⟩
theorem scSound : FnScope ["found", "mark", "row", "room"] ["found"] (defScope sSound) :=
  ⟨rfl, rfl, rfl, by decide +kernel, rfl, by decide +kernel, by decide +kernel⟩
theorem scText : FnScope ["house", "text", "room", "way"] ["house"] (defScope sText) :=
  ⟨rfl, rfl, rfl, by decide +kernel, rfl, by decide +kernel, by decide +kernel⟩
theorem scSign : FnScope ["cell", "some"] ["cell"] (defScope sSign) :=
  ⟨rfl, rfl, rfl, by decide +kernel, rfl, by decide +kernel, by decide +kernel⟩
theorem scSpoil : FnScope ["text", "cell", "often", "spot", "sign"] ["text", "cell", "often"] (defScope sSpoil) :=
  ⟨rfl, rfl, rfl, by decide +kernel, rfl, by decide +kernel, by decide +kernel⟩
theorem scRowSp : FnScope ["text", "cell", "rows", "spot", "other", "row"] ["text", "cell"] (defScope sRowSp) :=
  ⟨rfl, rfl, rfl, by decide +kernel, rfl, by decide +kernel, by decide +kernel⟩
theorem scThing : FnScope ["text", "cell", "odd", "rows", "spot", "things"] ["text", "cell"] (defScope sThing) :=
  ⟨rfl, rfl, rfl, by decide +kernel, rfl, by decide +kernel, by decide +kernel⟩
theorem scRead : FnScope ["text", "signs", "found", "e"] ["text"] (defScope sRead) :=
  ⟨rfl, rfl, rfl, by decide +kernel, rfl, by decide +kernel, by decide +kernel⟩
theorem scLaw : FnScope ["script", "letters", "text", "turn", "cell"] ["script"] (defScope sLaw) :=
  ⟨rfl, rfl, rfl, by decide +kernel, rfl, by decide +kernel, by decide +kernel⟩

/-! ### what stands in the heap -/
/-- a natural number as a value -/
abbrev VN (n : Nat) : V := .int (n : Int)
/-- at each address of the row stands the list (the tuple) of its numbers -/
def LstsAt (H : Hp) (ps : List Addr) (ws : List (List Nat)) : Prop := ps.length = ws.length ∧ ∀ (i : Nat) (a : Addr) (w : List Nat), ps[i]? = some a → ws[i]? = some w → H a = some (.lst (w.map VN))
def TupsAt (H : Hp) (ps : List Addr) (ws : List (List Nat)) : Prop := ps.length = ws.length ∧ ∀ (i : Nat) (a : Addr) (w : List Nat), ps[i]? = some a → ws[i]? = some w → H a = some (.tup (w.map VN))
def StrsAt (H : Hp) (ps : List Addr) (rs : List (List Str)) : Prop := ps.length = rs.length ∧ ∀ (i : Nat) (a : Addr) (r : List Str), ps[i]? = some a → rs[i]? = some r → H a = some (.lst (r.map V.str))
/-- a house: the count of its letters, its rooms' marks and ways -/
def HouseAt (H : Hp) (p : Addr) (n : Nat) (rs : List (Nat × List Nat)) : Prop :=
  ∃ (pm pw : Addr) (ps : List Addr), H p = some (.tup [VN n, .ref pm, .ref pw]) ∧ H pm = some (.tup (rs.map fun r => VN r.1)) ∧ H pw = some (.tup (ps.map V.ref)) ∧ TupsAt H ps (rs.map (·.2))
theorem LstsAt.same {H H' : Hp} {ps : List Addr} {ws : List (List Nat)} (s : Same H H') (h : LstsAt H ps ws) : LstsAt H' ps ws := ⟨h.1, fun i a w e f => s _ _ (h.2 i a w e f)⟩
theorem TupsAt.same {H H' : Hp} {ps : List Addr} {ws : List (List Nat)} (s : Same H H') (h : TupsAt H ps ws) : TupsAt H' ps ws := ⟨h.1, fun i a w e f => s _ _ (h.2 i a w e f)⟩
theorem StrsAt.same {H H' : Hp} {ps : List Addr} {rs : List (List Str)} (s : Same H H') (h : StrsAt H ps rs) : StrsAt H' ps rs := ⟨h.1, fun i a w e f => s _ _ (h.2 i a w e f)⟩
theorem HouseAt.same {H H' : Hp} {p : Addr} {n : Nat} {rs : List (Nat × List Nat)} (s : Same H H') (h : HouseAt H p n rs) : HouseAt H' p n rs := by
  obtain ⟨pm, pw, ps, h1, h2, h3, h4⟩ := h
  exact ⟨pm, pw, ps, s _ _ h1, s _ _ h2, s _ _ h3, h4.same s⟩
theorem same_new {H : Hp} {p : Addr} {o : HO} (h : H p = none) : Same H (upd H p o) := by
  intro b u e
  rw [upd_ne (ne_of_none e h)]
  exact e
/-- a list laid new is changed: what stood ahead stands -/
theorem same_set {H H1 : Hp} {l : Addr} {o : HO} (s : Same H H1) (n : H l = none) : Same H (upd H1 l o) := by
  intro b u e
  rw [upd_ne (ne_of_none e n)]
  exact s b u e
/-- one more behind each row -/
theorem snoc_at {α : Type} {xs : List α} {x y : α} {i : Nat} (h : (xs ++ [x])[i]? = some y) : (xs[i]? = some y ∧ i < xs.length) ∨ (i = xs.length ∧ y = x) := by
  by_cases hi : i < xs.length
  · rw [List.getElem?_append_left hi] at h
    exact .inl ⟨h, hi⟩
  · rw [List.getElem?_append_right (by omega)] at h
    cases e : i - xs.length with
    | zero =>
      rw [e] at h
      exact .inr ⟨by omega, (Option.some.inj h).symm⟩
    | succ k =>
      rw [e] at h
      cases h
theorem LstsAt.snoc {H : Hp} {ps : List Addr} {ws : List (List Nat)} {a : Addr} {w : List Nat} (h : LstsAt H ps ws) (e : H a = some (.lst (w.map VN))) : LstsAt H (ps ++ [a]) (ws ++ [w]) := by
  refine ⟨by rw [List.length_append, List.length_append, h.1]; rfl, fun i b v h1 h2 => ?_⟩
  rcases snoc_at h1 with ⟨g1, l1⟩ | ⟨i1, rfl⟩ <;> rcases snoc_at h2 with ⟨g2, l2⟩ | ⟨i2, rfl⟩
  · exact h.2 i b v g1 g2
  · have := h.1; omega
  · have := h.1; omega
  · exact e
theorem TupsAt.snoc {H : Hp} {ps : List Addr} {ws : List (List Nat)} {a : Addr} {w : List Nat} (h : TupsAt H ps ws) (e : H a = some (.tup (w.map VN))) : TupsAt H (ps ++ [a]) (ws ++ [w]) := by
  refine ⟨by rw [List.length_append, List.length_append, h.1]; rfl, fun i b v h1 h2 => ?_⟩
  rcases snoc_at h1 with ⟨g1, l1⟩ | ⟨i1, rfl⟩ <;> rcases snoc_at h2 with ⟨g2, l2⟩ | ⟨i2, rfl⟩
  · exact h.2 i b v g1 g2
  · have := h.1; omega
  · have := h.1; omega
  · exact e
theorem StrsAt.snoc {H : Hp} {ps : List Addr} {ws : List (List Str)} {a : Addr} {w : List Str} (h : StrsAt H ps ws) (e : H a = some (.lst (w.map V.str))) : StrsAt H (ps ++ [a]) (ws ++ [w]) := by
  refine ⟨by rw [List.length_append, List.length_append, h.1]; rfl, fun i b v h1 h2 => ?_⟩
  rcases snoc_at h1 with ⟨g1, l1⟩ | ⟨i1, rfl⟩ <;> rcases snoc_at h2 with ⟨g2, l2⟩ | ⟨i2, rfl⟩
  · exact h.2 i b v g1 g2
  · have := h.1; omega
  · have := h.1; omega
  · exact e
theorem take_snoc {α : Type} {xs : List α} {i : Nat} {x : α} (h : xs[i]? = some x) : xs.take (i + 1) = xs.take i ++ [x] := by
  rw [List.take_add_one, h]
  rfl

/-! ### the promises -/
/-- the number that figures write, or NoText (of the class at cN) -/
def spNum (cN : Addr) : Sp := fun vs H Q E => ∃ z : Str, vs = [.str z] ∧ z.length ≤ sizeLine ∧ (∀ n : Nat, numL n = tl z → n < 10000000000 → Q (VN n) H) ∧ E (.ref cN) none H
def spRows (cN : Addr) : Sp := fun vs _ Q E => ∃ z hd : Str, vs = [.str z, .str hd] ∧ z.length ≤ 100000 ∧
  (∀ (H' : Hp) (p pr : Addr) (ras : List Addr) (rows : List (List Str)) (n : Nat), H' p = some (.tup [VN n, .ref pr]) → H' pr = some (.lst (ras.map V.ref)) → StrsAt H' ras rows → (∀ r ∈ rows, r ≠ []) → (∀ r ∈ rows, wide r ≤ 100001) → rows.length ≤ 100001 → n < 10000000000 →
    tl z = tl hd ++ (32 :: (numL n ++ (10 :: behind 10 (rows.map fun r => joinL [32] (r.map tl))))) → Q (.ref p) H') ∧ ∀ H', E (.ref cN) none H'
def spMade (cB : Addr) : Sp := fun vs H Q E => ∃ (n : Nat) (pm pw : Addr) (ms : List Nat) (ps : List Addr) (ws : List (List Nat)), vs = [VN n, .ref pm, .ref pw] ∧ H pm = some (.lst (ms.map VN)) ∧ H pw = some (.lst (ps.map V.ref)) ∧ LstsAt H ps ws ∧
  (∀ (H' : Hp) (p : Addr) (rs : List (Nat × List Nat)), HouseAt H' p n rs → Sound n rs → rs.map (·.1) = ms → rs.map (·.2) = ws → Q (.ref p) H') ∧ ∀ H', E (.ref cB) none H'
def spHouse (cN : Addr) : Sp := fun vs _ Q E => ∃ z : Str, vs = [.str z] ∧ z.length ≤ 100000 ∧
  (∀ (H' : Hp) (p : Addr) (n : Nat) (rs : List (Nat × List Nat)), HouseAt H' p n rs → Sound n rs → tl z = houseL n rs → Q (.ref p) H') ∧ ∀ H', E (.ref cN) none H'
def spCell (K : PySem.W.Frag) : Sp := fun vs H Q _ => ∃ (a : Addr) (ns : List Int) (k : Int), vs = [.ref a, .int k] ∧ SqL K H a (ns.map V.int) ∧ ns.length ≤ 63 ∧ 0 ≤ k ∧ ∀ v : Int, Q (.int v) H
def spWhole : Sp := fun vs H Q _ => ∃ n : Int, vs = [.int n] ∧ Q (.bl true) H
def spDraw (K : PySem.W.Frag) : Sp := fun vs H Q _ => ∃ (a : Addr) (ns : List Int) (k m : Int), vs = [.ref a, .int k, .int m] ∧ SqL K H a (ns.map V.int) ∧ 0 ≤ k ∧ k ≤ 1000 ∧ 0 < m ∧ m ≤ 1000000001 ∧ ns.length ≤ 63 ∧ ∀ v : Nat, (v : Int) < m → Q (VN v) H
def spBy (K : PySem.W.Frag) : Sp := fun vs H Q _ => ∃ (a : Addr) (ns : List Int) (n : Nat) (c : Int), vs = [.ref a, VN n, .int c] ∧ SqL K H a (ns.map V.int) ∧ ns.length ≤ 63 ∧ 1 ≤ n ∧ n ≤ 6 ∧
  ∀ (H' : Hp) (p : Addr) (rs : List (Nat × List Nat)), Same H H' → HouseAt H' p n rs → Sound n rs → Q (.ref p) H'
def spSound : Sp := fun vs H Q _ => ∃ (p : Addr) (n : Nat) (rs : List (Nat × List Nat)), vs = [.ref p] ∧ HouseAt H p n rs ∧ Sound n rs ∧ Q (.bl true) H
def spText : Sp := fun vs H Q _ => ∃ (p : Addr) (n : Nat) (rs : List (Nat × List Nat)), vs = [.ref p] ∧ HouseAt H p n rs ∧ Sound n rs ∧ ∀ z : Str, tl z = houseL n rs → z.length ≤ 4000 → Q (.str z) H
def spSign : Sp := fun vs H Q _ => ∃ c : Int, vs = [.int c] ∧ ∀ z : Str, z.length = 1 → Q (.str z) H
def spSpoil : Sp := fun vs H Q _ => ∃ (z o : Str) (c : Int), vs = [.str z, .int c, .str o] ∧ z.length ≤ 100000 ∧ 0 < o.length ∧ o.length ≤ 1000 ∧ ∀ z' : Str, z'.length ≤ z.length + 1 → Q (.str z') H
def spRowSp : Sp := fun vs H Q _ => ∃ (z : Str) (c : Int), vs = [.str z, .int c] ∧ z.length ≤ 100000 ∧ ∀ (H' : Hp) (z' : Str), Same H H' → z'.length ≤ 2 * z.length + 50 → Q (.str z') H'
def spRead : Sp := fun vs _ Q _ => ∃ z : Str, vs = [.str z] ∧ z.length ≤ 100000 ∧ ∀ H', Q (.bl true) H'
def spLaw (K : PySem.W.Frag) : Sp := fun vs H Q _ => ∃ (a : Addr) (ns : List Int), vs = [.ref a] ∧ SqL K H a (ns.map V.int) ∧ ns.length ≤ 63 ∧ ∀ H', Q (.bl true) H'

/-! ### what the top has left -/
structure Txt (K : PySem.W.Frag) (mg : Str → Option Value) (cA cB cN : Addr) : Prop where
  gA : mg "AskError" = some (.ref cA)
  gB : mg "BadHouse" = some (.ref cB)
  gN : mg "NoText" = some (.ref cN)
  xB : PySem.W.excIn K cB [.type "ValueError", .type "Exception", .type "BaseException", .type "object"] "ValueError.__new__" = true
  xN : PySem.W.excIn K cN [.type "ValueError", .type "Exception", .type "BaseException", .type "object"] "ValueError.__new__" = true
  kB : PySem.W.keepIn K (.ref cB) = true
  kN : PySem.W.keepIn K (.ref cN) = true
  bB : PySem.W.subIn K (.ref cB) (.type "BaseException") = some true
  bN : PySem.W.subIn K (.ref cN) (.type "BaseException") = some true
  tB : PySem.W.typeIn K (.ref cB) = some (.type "type")
  tN : PySem.W.typeIn K (.ref cN) = some (.type "type")
  eNA : PySem.W.exmOne K (.ref cN) (.ref cA) = some true
  eBB : PySem.W.exmOne K (.ref cB) (.ref cB) = some true
  exN : ExcC K cN
  kNN : PySem.W.kitOne K (.ref cN) (.ref cN) = some true
  kNV : PySem.W.kitOne K (.ref cN) (.type "ValueError") = some true
  kNB : PySem.W.kitOne K (.ref cN) (.ref cB) = some false
  gRooms : ∃ t, mg "MOST_ROOMS" = some (.int 40 t)
  gLetters : ∃ t, mg "MOST_LETTERS" = some (.int 6 t)
  gMark : ∃ t, mg "MOST_MARK" = some (.int 1000000000 t)
  gFig : ∃ t, mg "FIGURES" = some (.str "0123456789" t)
  len : mg "len" = none
  tup : mg "tuple" = none
  int : mg "int" = none
  bool : mg "bool" = none
  isi : mg "isinstance" = none
  max : mg "max" = none
  min : mg "min" = none
  range : mg "range" = none
  str : mg "str" = none
  vale : mg "ValueError" = none
end K46

/-! read_number. -/
namespace K46
open PySem PySem.Spec PyProof.Rows L2 TL
/-- over the signs of a text -/
theorem for_signs {x : Str} {g : TG} {tb : TS} {D : Ends} {σ : L2.St} {H : Hp} (Pv : Nat → L2.St → Hp → Prop) (h0 : Pv 0 σ H)
    (hs : ∀ (i c : Nat) (σ : L2.St) (H : Hp), (tl x)[i]? = some c → Pv i σ H → g (.str ⟨#[c]⟩) σ H fun σ2 H2 => tb { D with nx := Pv (i + 1), ct := Pv (i + 1), bk := D.nx } σ2 H2) (hd : ∀ σ H, Pv (tl x).length σ H → D.nx σ H) :
    ∃ W : Nat → Nat → L2.St → Hp → Prop, (∃ m, W 0 m σ H) ∧ ∀ i m σ H, W i m σ H →
      ((Its x).stop i H ∧ D.nx σ H) ∨ ((Its x).go i H ∧ ∃ N : L2.St → Hp → Prop, (∀ σ' H', N σ' H' → ∃ m', m' < m ∧ W (i + 1) m' σ' H') ∧ ∀ v H', (Its x).yld i H v H' → g v σ H' fun σ2 H2 => tb { D with nx := N, ct := N, bk := D.nx } σ2 H2) := by
  have sz : x.cps.size = (tl x).length := by simp
  refine ⟨fun i m σ H => m = (tl x).length - i ∧ i ≤ (tl x).length ∧ Pv i σ H, ⟨_, rfl, Nat.zero_le _, h0⟩, ?_⟩
  rintro i m σ H ⟨rfl, hi, p⟩
  by_cases hlt : i < (tl x).length
  · refine .inr ⟨by show i < x.cps.size; omega, Pv (i + 1), fun σ' H' p' => ⟨_, (by omega : (tl x).length - (i + 1) < (tl x).length - i), rfl, hlt, p'⟩, fun v H' y => ?_⟩
    obtain ⟨e, c, hc, y⟩ := y
    subst e y
    exact hs i c σ _ (by rw [Array.getElem?_toList]; exact hc) p
  · have e : i = (tl x).length := by omega
    subst e
    exact .inl ⟨by show x.cps.size ≤ _; omega, hd σ H p⟩
theorem sl16 {n : Nat} (h : n ≤ 16777216) : n ≤ sizeLine := by
  rw [sizeLine_eq]
  exact h
theorem sl_lt {n : Nat} (h : n < 16777216) : n < sizeLine := by
  rw [sizeLine_eq]
  exact h
theorem nd_str {a b : Str} (h : ¬ (!decide (V.str a = V.str b)) = true) : a = b := by
  by_cases y : V.str a = V.str b
  · exact V.str.inj y
  · exact absurd (show (!decide (V.str a = V.str b)) = true by rw [decide_eq_false y]; rfl) h
theorem nd_int {a b : Int} (h : ¬ (!decide (V.int a = V.int b)) = true) : a = b := by
  by_cases y : V.int a = V.int b
  · exact V.int.inj y
  · exact absurd (show (!decide (V.int a = V.int b)) = true by rw [decide_eq_false y]; rfl) h
theorem dd_int {a b : Int} (h : decide (V.int a = V.int b) = true) : a = b := V.int.inj (of_decide_eq_true h)
/-- an item of a mapped list -/
theorem map_at {α β : Type} {g : α → β} {l : List α} {i : Nat} {y : β} (h : (l.map g)[i]? = some y) : ∃ x, l[i]? = some x ∧ y = g x := by
  rw [List.getElem?_map] at h
  cases e : l[i]? with
  | none => rw [e] at h; cases h
  | some x => rw [e] at h; exact ⟨x, rfl, (Option.some.inj h).symm⟩
theorem fig_mem (c : Nat) : c ∈ (("0123456789" : Str)).cps.toList ↔ 48 ≤ c ∧ c ≤ 57 := by
  have e : (("0123456789" : Str)).cps.toList = [48, 49, 50, 51, 52, 53, 54, 55, 56, 57] := by decide +kernel
  rw [e]
  simp only [List.mem_cons, List.not_mem_nil, or_false]
  omega
theorem empty_tl : tl ("" : Str) = [] := by decide +kernel
theorem zero_tl : tl ("0" : Str) = [48] := by decide +kernel
section
variable {P : Program} {w : World} {K : PySem.W.Frag} {mg : Str → Option Value} {base : Heap} {cA cB cN : Addr}
theorem ok_num {f : Addr} {fd : FuncData} (F : Fun K "read_number" "read_number" sNum f fd) (T : Txt K mg cA cB cN) : FnOk P w K mg base (L2.CX P w) 1 f fd ["figures"] (spNum cN) := by
  refine F.okX scNum (fun vs H Q E h => ?_) (fun cdv A outer s H vs Q E hr h => ?_)
  · obtain ⟨z, rfl, _⟩ := h
    rfl
  · obtain ⟨z, rfl, hz, q, e⟩ := h
    obtain ⟨tF, gF⟩ := T.gFig
    refine ⟨_, pss_cons (ps_if (PW.pt (pw_or (pt_cmpR op_eq (pv 0) pe_str (nomark _))
          (pw_or (pt_cmpR op_gt (pe_callB call_len_str (by rfl) T.len PySem.boot_len (pa_cons (pv 0) pa_nil)) pe_int (nomark _))
            (pw_or1 (PW.pt (pw_and (pt_cmpR op_eq (pe_ix ix_str (pv 0) pe_int (fun _ _ => rfl)) pe_str (nomark _))
              (pw_and1 (pt_cmpR op_gt (pe_callB call_len_str (by rfl) T.len PySem.boot_len (pa_cons (pv 0) pa_nil)) pe_int (nomark _)))))))))
        (pss_one (ps_raise rfl (takes_of rfl rfl rfl rfl) (pmk_own PySem.F.excBase_ValueError T.xN T.gN T.kN (raises_own T.bN T.tN) rfl))) pss_nil)
      (pss_cons (ps_for (passes_of rfl) rfl (pi_str (pv 0)) (pg_name (i := 1) scNum.nd rfl (.inl rfl))
        (pss_one (ps_if (pt_cmpR op_notIn_sign (pv 1) (pe_glob (v := .str "0123456789") rfl gF ⟨_, rfl⟩) rfl)
          (pss_one (ps_raise rfl (takes_of rfl rfl rfl rfl) (pmk_own PySem.F.excBase_ValueError T.xN T.gN T.kN (raises_own T.bN T.tN) rfl))) pss_nil)))
      (pss_one (ps_ret (pe_callTy call_int_str (by rfl) T.int (by decide +kernel) (pa_cons (pv 0) pa_nil))))), ?_⟩
    refine ⟨_, rfl, rfl, _, rfl, ?_⟩
    refine ite2 (fun _ => ?_) (fun h0 => ?_)
    · exact e
    have hne : tl z ≠ [] := by
      intro y
      refine h0 (decide_eq_true ?_)
      rw [ext_tl (y.trans empty_tl.symm)]
    refine ⟨_, rfl, z, rfl, hz, _, _, rfl, rfl, _, rfl, ?_⟩
    refine ite2 (fun _ => ?_) (fun h1 => ?_)
    · exact e
    have hlen : z.length ≤ 10 := by
      have h1 : ¬ ((10 : Int) < (z.length : Int)) := fun y => h1 (decide_eq_true y)
      omega
    obtain ⟨c0, r0, hz0⟩ : ∃ c r, tl z = c :: r := by
      cases y : tl z with
      | nil => exact absurd y hne
      | cons c r => exact ⟨c, r, rfl⟩
    have loop : (48 = c0 → r0 = []) → tSeq (tFor (iStr (tVar 0)) (gName 1) (tIfS
          (tTest (tOp (fun x y H Q => ∃ c z, x = V.str ⟨#[c]⟩ ∧ y = V.str z ∧ Q (V.bl !decide (c ∈ z.cps.toList)) H) (tVar 1) (tC (V.str "0123456789"))))
          (fun _ _ H => E (Value.ref cN) none H) tNext))
        (tRet (tCB (fun xs H Q => ∃ a n, xs = [V.str a] ∧ intText? a = some n ∧ a.length ≤ 640 ∧ Q (V.int n) H) (tCons (tVar 0) tNil)))
        { nx := fun _ H' => Q V.non H', rt := Q } (L2.start ["figures", "sign"] [V.str z]) H := by
      intro hh
      refine ⟨_, rfl, z, rfl, for_signs (fun i σ H' => ∃ v1, σ = [some (V.str z), v1] ∧ H' = H ∧ ∀ j c, j < i → (tl z)[j]? = some c → 48 ≤ c ∧ c ≤ 57)
        ⟨none, rfl, rfl, fun j c hj => absurd hj (Nat.not_lt_zero _)⟩ ?_ ?_⟩
      · rintro i c σ H' hc ⟨v1, rfl, rfl, hd⟩
        refine ⟨_, rfl, c, _, rfl, rfl, _, rfl, ?_⟩
        refine ite2 (fun _ => e) (fun hm => ?_)
        have hm' : c ∈ (("0123456789" : Str)).cps.toList := by
          by_cases y : c ∈ (("0123456789" : Str)).cps.toList
          · exact y
          · exact absurd (show (!decide (c ∈ (("0123456789" : Str)).cps.toList)) = true by rw [decide_eq_false y]; rfl) hm
        refine ⟨some (V.str ⟨#[c]⟩), rfl, rfl, fun j d hj hd' => ?_⟩
        by_cases y : j < i
        · exact hd j d y hd'
        · have y : j = i := by omega
          subst y
          rw [hc] at hd'
          cases hd'
          exact (fig_mem _).mp hm'
      · rintro σ H' ⟨v1, rfl, rfl, hd⟩
        have dig : NumText.AllDigits (tl z) := by
          intro c hc
          obtain ⟨j, hj⟩ := List.mem_iff_getElem?.mp hc
          exact hd j c (List.getElem?_eq_some_iff.mp hj).1 hj
        have lz : (tl z).length ≤ 10 := by rw [← len_tl]; exact hlen
        have back : numL (NumText.digitsVal (tl z)) = tl z := by
          refine num_back _ _ rfl dig hne fun y => ?_
          rw [hz0] at y ⊢
          rw [hh (Option.some.inj y).symm]
          rfl
        have lt10 : NumText.digitsVal (tl z) < 10000000000 :=
          Nat.lt_of_lt_of_le (val_lt _ dig) (Nat.le_trans (Nat.pow_le_pow_right (by decide) lz) (by decide))
        refine ⟨_, rfl, z, _, rfl, PySem.intText_digits dig hne (by omega), by omega, ?_⟩
        exact q _ back lt10
    refine ⟨_, rfl, _, _, c0, rfl, rfl, hz, ?_, rfl, _, rfl, ?_⟩
    · show atI (tl z) _ = _
      rw [hz0]
      exact atI_nat (j := 0) rfl
    refine ite2 (fun h2 => ?_) (fun h2 => ?_)
    · refine ⟨_, rfl, z, rfl, hz, _, _, rfl, rfl, _, rfl, ?_⟩
      refine ite2 (fun _ => ?_) (fun h3 => ?_)
      · exact e
      · refine loop fun _ => ?_
        have h3 : ¬ ((1 : Int) < (z.length : Int)) := fun y => h3 (decide_eq_true y)
        have l1 := len_tl z
        rw [hz0, List.length_cons] at l1
        exact List.length_eq_zero_iff.mp (by omega)
    · refine iteF ?_
      refine loop fun y => absurd ?_ h2
      refine decide_eq_true ?_
      rw [← y]
      exact congrArg V.str (ext_tl zero_tl.symm)
end
end K46

/-! read_rows. -/
namespace K46
open PySem PySem.Spec PyProof.Rows L2 TL
theorem nl_tl : tl ("\n" : Str) = [10] := by decide +kernel
theorem sp_tl : tl (" " : Str) = [32] := by decide +kernel
theorem neg1 : -(1 : Int) = -1 := rfl
/-- a text that ends with a line feed -/
theorem last_nl {z : Str} (h : cutS z (some (-1)) none = "\n") : tl z = tl (cutS z none (some (-1))) ++ [10] := by
  have e := congrArg tl h
  rw [nl_tl] at e
  have n1 : HT.sIx z.length 0 (some (-1)) = z.length - 1 := by
    show (if (-1 : Int) < 0 then ((-1 : Int) + (z.length : Int)).toNat else min (-1 : Int).toNat z.length) = _
    rw [if_pos (by decide)]
    omega
  have n2 : HT.sIx z.length z.length (some (-1)) = z.length - 1 := by
    show (if (-1 : Int) < 0 then ((-1 : Int) + (z.length : Int)).toNat else min (-1 : Int).toNat z.length) = _
    rw [if_pos (by decide)]
    omega
  have e1 : ((tl z).drop (z.length - 1)).take (z.length - (z.length - 1)) = [10] := by
    have q : tl (cutS z (some (-1)) none) = ((tl z).drop (HT.sIx z.length 0 (some (-1)))).take (HT.sIx z.length z.length none - HT.sIx z.length 0 (some (-1))) := rfl
    rw [n1, HT.sIx_none] at q
    rw [← q]
    exact e
  have e2 : tl (cutS z none (some (-1))) = (tl z).take (z.length - 1) := by
    have q : tl (cutS z none (some (-1))) = ((tl z).drop (HT.sIx z.length 0 none)).take (HT.sIx z.length z.length (some (-1)) - HT.sIx z.length 0 none) := rfl
    rw [n2, HT.sIx_none, List.drop_zero, Nat.sub_zero] at q
    exact q
  have hl := len_tl z
  rw [e2]
  have e3 : (tl z).drop (z.length - 1) = [10] := by
    rw [List.take_of_length_le (by rw [List.length_drop]; omega)] at e1
    exact e1
  rw [← e3]
  exact (List.take_append_drop _ _).symm
theorem cut_tail (xs : List V) : cutV xs (some 1) none = xs.drop 1 := by
  unfold cutV
  rw [HT.sIx_none, show HT.sIx xs.length 0 (some 1) = min 1 xs.length from HT.sIx_nat xs.length 0 1]
  cases xs with
  | nil => rfl
  | cons x r =>
    rw [show min 1 (x :: r).length = 1 by rw [List.length_cons]; omega, List.take_of_length_le (by rw [List.length_drop]; omega)]
/-- what split tells of one row -/
theorem split_row (p : Str) : joinL [32] ((Txt.split p " ").map tl) = tl p ∧ Txt.split p " " ≠ [] ∧ wide (Txt.split p " ") = p.length + 1 :=
  ⟨(split_back sp_tl (by decide)).1, (split_wide (x := p) sp_tl (by decide)).2, (split_wide (x := p) sp_tl (by decide)).1⟩
section
variable {P : Program} {w : World} {K : PySem.W.Frag} {mg : Str → Option Value} {base : Heap} {cA cB cN : Addr}
theorem ok_rows {f f1 : Addr} {fd fd1 : FuncData} (F : Fun K "read_rows" "read_rows" sRows f fd) (T : Txt K mg cA cB cN) (F1 : Fun K "read_number" "read_number" sNum f1 fd1) (b1 : Binds K fd1 ["figures"] []) (g1 : mg "read_number" = some (.ref f1)) :
    FnOk P w K mg base (L2.CX P w) 2 f fd ["text", "head"] (spRows cN) := by
  have G1 : FnOk P w K mg base (L2.CX P w) 1 f1 fd1 ["figures"] (spNum cN) := ok_num F1 T
  refine F.okX scRows (fun vs H Q E h => ?_) (fun cdv A outer s H vs Q E hr h => ?_)
  · obtain ⟨z, hd, rfl, _⟩ := h
    rfl
  · obtain ⟨z, hd, rfl, hz, q, e⟩ := h
    have hr1 : Room 1 _ := hr.mono (by decide)
    refine ⟨_, pss_cons (ps_if (pt_cmpR op_ne (pe_slice sl_str (pv 0) (po_some (pe_un un_neg pe_int)) po_none) pe_str (nomark _))
        (pss_one (ps_raise rfl (takes_of rfl rfl rfl rfl) (pmk_own PySem.F.excBase_ValueError T.xN T.gN T.kN (raises_own T.bN T.tN) rfl))) pss_nil)
      (pss_cons (ps_setLc (i := 2) (own := [("row", 4)]) (g := gName 4) rfl scRows.nd rfl rfl (sw_true rfl rfl rfl (by decide +kernel))
        (pi_list (pe_split (pe_slice sl_str (pv 0) po_none (po_some (pe_un un_neg pe_int))) pe_str))
        (blkOk_by (own := [("row", 4)]) (N := ["text", "head", "rows", "first", "row"]) (sc := defScope sRows) (by decide +kernel))
        (fun _ _ _ _ _ => pg_name (i := 4) scRows.nd rfl (Or.inl rfl)) (fun _ _ _ _ _ => pts_nil) (fun _ _ _ _ _ => pe_split (pv 4) pe_str))
      (pss_cons (ps_set (i := 3) scRows.nd rfl (Or.inl rfl) (pe_ix ix_list (pv 2) pe_int (fun _ _ => rfl)))
      (pss_cons (ps_if (PW.pt (pw_or (pt_cmpR op_ne (pe_ix ix_list (pv 3) pe_int (fun _ _ => rfl)) (pv 1) (nomark _))
          (pw_or1 (pt_cmpR op_ne (pe_callB call_len_seq (by rfl) T.len PySem.boot_len (pa_cons (pv 3) pa_nil)) pe_int (nomark _)))))
        (pss_one (ps_raise rfl (takes_of rfl rfl rfl rfl) (pmk_own PySem.F.excBase_ValueError T.xN T.gN T.kN (raises_own T.bN T.tN) rfl))) pss_nil)
      (pss_one (ps_ret (pe_tup (pa_cons (pe_callS G1 hr1 rfl g1 F1.kp b1 (fun σ => passAt (takes_of rfl rfl rfl rfl) σ) (pa_cons (pe_ix ix_list (pv 3) pe_int (fun _ _ => rfl)) pa_nil))
        (pa_cons (pe_slice sl_list (pv 2) (po_some pe_int) po_none) pa_nil)))))))), ?_⟩
    refine ⟨_, rfl, 1, rfl, _, rfl, z, rfl, sl16 (by omega), rfl, _, rfl, ?_⟩
    refine ite2 (fun _ => e _) (fun h0 => ?_)
    have hlast : tl z = tl (cutS z none (some (-1))) ++ [10] := last_nl (nd_str h0)
    have hcl : (cutS z none (some (-1))).length ≤ z.length := cutS_length _ _ _
    generalize hL : cutS z none (some (-1)) = L at hlast hcl
    refine ⟨_, rfl, 1, rfl, _, rfl, z, rfl, sl16 (by omega), ⟨_, rfl⟩, _, _, rfl, rfl, by decide +kernel, ?_, fun pl nl => ?_⟩
    · exact sl16 (by have : (cutS z none (some (-1))).length ≤ z.length := cutS_length _ _ _; show (cutS z none (some (-1))).length + 2 ≤ _; omega)
    have eL : cutS z none (some (-(1 : Int))) = L := hL
    rw [eL]
    obtain ⟨hw1, hne⟩ := split_wide (x := L) nl_tl (by decide)
    have hj := (split_back (x := L) nl_tl (by decide)).1
    generalize hps : Txt.split L "\n" = parts at hw1 hne hj
    have plen : parts.length ≤ 100001 := by
      have := wide_len parts
      omega
    have pw : ∀ p ∈ parts, p.length ≤ 100000 := fun p hp => by
      have := wide_mem hp
      omega
    have hp1 : (upd H pl (.lst (parts.map V.str))) pl = some (.lst (parts.map V.str)) := upd_same
    generalize upd H pl (.lst (parts.map V.str)) = H1 at hp1
    refine ⟨pl, rfl, ⟨_, SqL.of hp1⟩, fun D nD => ?_⟩
    refine lc_list (K := K) (a := pl) (xs := parts.map V.str) (fun i H' => Same H1 H' ∧ ∃ ras : List Addr, H' D = some (.lst (ras.map V.ref)) ∧ (∀ a ∈ ras, a ≠ D) ∧ StrsAt H' ras ((parts.take i).map fun p => Txt.split p " "))
      ⟨same_new nD, [], upd_same, fun a ha => by simp at ha, rfl, fun i a r h => by simp at h⟩ (fun i H' _ ⟨s, _⟩ => s.seq (SqL.of hp1)) ?_ ?_
    · rintro i x H2 hx ⟨s2, ras, eD, neD, sa⟩
      obtain ⟨p, hp, rfl⟩ := map_at hx
      have hpl := pw p (List.mem_of_getElem? hp)
      have hi : i < parts.length := (List.getElem?_eq_some_iff.mp hp).1
      refine ⟨rfl, _, rfl, ⟨_, rfl⟩, _, _, rfl, rfl, by decide +kernel, sl16 (by omega), fun r nr => ?_⟩
      have nrD : r ≠ D := (ne_of_none eD nr).symm
      refine ⟨ras.map V.ref, by rw [upd_ne nrD.symm]; exact eD, ?_, ?_⟩
      · rw [List.length_map, sa.1, List.length_map, List.length_take]
        exact sl_lt (by omega)
      · refine ⟨same_set (s2.trans (same_new nr)) nD, ras ++ [r], ?_, ?_, ?_⟩
        · rw [upd_same, List.map_append]
          rfl
        · intro a ha
          rcases List.mem_append.mp ha with ha | ha
          · exact neD a ha
          · rw [List.mem_singleton.mp ha]
            exact nrD
        · rw [take_snoc hp, List.map_append]
          refine StrsAt.snoc ⟨sa.1, fun j a r' ha hr' => ?_⟩ ?_
          · have g := sa.2 j a r' ha hr'
            rw [upd_ne (neD a (List.mem_of_getElem? ha)), upd_ne (ne_of_none g nr)]
            exact g
          · rw [upd_ne nrD, upd_same]
    · rintro H2 ⟨s2, ras, eD, neD, sa⟩
      rw [List.length_map, List.take_length] at sa
      obtain ⟨p0, prest, rfl⟩ : ∃ p r, parts = p :: r := by
        cases parts with
        | nil => exact absurd rfl hne
        | cons p r => exact ⟨p, r, rfl⟩
      obtain ⟨r0, rrest, rfl⟩ : ∃ p r, ras = p :: r := by
        have l := sa.1
        cases ras with
        | nil => rw [List.length_map, List.length_cons] at l; cases l
        | cons p r => exact ⟨p, r, rfl⟩
      have e0 : H2 r0 = some (.lst ((Txt.split p0 " ").map V.str)) := sa.2 0 r0 _ rfl rfl
      obtain ⟨j0, ne0, w0⟩ := split_row p0
      obtain ⟨a0, t0, ht0⟩ : ∃ a r, Txt.split p0 " " = a :: r := by
        cases y : Txt.split p0 " " with
        | nil => exact absurd y ne0
        | cons a r => exact ⟨a, r, rfl⟩
      rw [ht0] at e0 j0 w0
      refine ⟨_, rfl, D, _, 0, _, rfl, rfl, SqL.of eD, atI_nat (j := 0) rfl, ?_⟩
      refine ⟨_, rfl, r0, _, 0, _, rfl, rfl, SqL.of e0, atI_nat (j := 0) rfl, _, rfl, rfl, _, rfl, ?_⟩
      refine ite2 (fun _ => e _) (fun h1 => ?_)
      have ha0 : a0 = hd := nd_str h1
      refine ⟨_, rfl, r0, _, rfl, .inl (SqL.of e0), rfl, _, rfl, ?_⟩
      refine ite2 (fun _ => e _) (fun h2 => ?_)
      have h2 := nd_int h2
      obtain ⟨b0, rfl⟩ : ∃ b, t0 = [b] := by
        cases t0 with
        | nil => simp at h2
        | cons b r =>
          cases r with
          | nil => exact ⟨b, rfl⟩
          | cons c r =>
            rw [List.length_map, List.length_cons, List.length_cons, List.length_cons] at h2
            omega
      subst ha0
      have wb := wide_mem (ps := [a0, b0]) (p := b0) (by simp)
      have wp := pw p0 (List.mem_cons_self ..)
      refine ⟨_, rfl, r0, _, 1, _, rfl, rfl, SqL.of e0, atI_nat (j := 1) rfl, b0, rfl, sl16 (by omega), fun n hn hlt => ?_, e _⟩
      refine ⟨_, rfl, 1, rfl, D, _, rfl, SqL.of eD, fun q2 nq => ?_⟩
      refine ⟨by show 2 ≤ sizeLine; decide, fun pt npt => ?_⟩
      rw [cut_tail] at npt ⊢
      have s3 : Same H2 (upd H2 q2 (.lst (((r0 :: rrest).map V.ref).drop 1))) := same_new nq
      have nq2 : q2 ≠ pt := fun y => by rw [← y, upd_same] at npt; cases npt
      refine q _ pt q2 rrest (prest.map fun p => Txt.split p " ") n upd_same (by rw [upd_ne nq2, upd_same]; rfl) (StrsAt.same (s3.trans (same_new npt)) ⟨?_, fun i a r h1 h2 => ?_⟩) ?_ ?_ ?_ hlt ?_
      · have := sa.1
        rw [List.map_cons, List.length_cons, List.length_cons] at this
        omega
      · exact sa.2 (i + 1) a r h1 h2
      · intro r hr'
        obtain ⟨p, hp, rfl⟩ := List.mem_map.mp hr'
        exact (split_row p).2.1
      · intro r hr'
        obtain ⟨p, hp, rfl⟩ := List.mem_map.mp hr'
        have := pw p (List.mem_cons_of_mem _ hp)
        rw [(split_row p).2.2]
        omega
      · rw [List.length_map]
        rw [List.length_cons] at plen
        omega
      · have jb : (prest.map fun p => Txt.split p " ").map (fun r => joinL [32] (r.map tl)) = prest.map tl := by
          rw [List.map_map]
          exact List.map_congr_left fun p _ => (split_row p).1
        rw [jb, hlast, ← hj, List.map_cons, joinL_behind, behind_cons, ← j0, hn]
        show (tl a0 ++ ([32] ++ tl b0)) ++ _ = _
        rw [List.append_assoc, List.append_assoc]
        rfl
end
end K46

/-! made: its own exception's context is None (L2N). -/
namespace K46
open PySem PySem.Spec PyProof.Rows L2 TL
/-- a def that lets out exceptions whose context is None -/
theorem okN {P : Program} {w : World} {K : PySem.W.Frag} {mg : Str → Option Value} {base : Heap} {x qual : Str} {st : Stmt} {f : Addr} {fd : FuncData} {N ps : List Str} {k : Nat} {sp : Sp} (F : Fun K x qual st f fd) (S : FnScope N ps (defScope st))
    (len : ∀ vs H Q E, sp vs H Q E → vs.length = ps.length)
    (hb : ∀ (cdv : Value) (A : Around) (outer : List Env) (s : Shared) (H : Hp) (vs : List V) (Q : VK) (E : XK), Room k (A.deeper (envOfC qual (defScope st) s.heap.objs.size f cdv)) → sp vs H Q E →
      ∃ t, PSs (cxOf (L2N.CX P w) P w K mg base N qual (defScope st) f cdv A outer s H E) (defBody st) t ∧ t { nx := fun _ H' => Q .non H', rt := Q } (L2.start N vs) H) :
    FnOk P w K mg base (L2N.CX P w) (k + 1) f fd ps sp := by
  obtain ⟨oc, od, kV, doc, pm, an, cdv, ct, osl, rfl, lk, hcd⟩ := F.ex
  exact fn_of lk hcd S len fun A outer s H vs Q E hr hsp => hb cdv A outer s H vs Q E hr hsp
section
variable {P : Program} {w : World} {K : PySem.W.Frag} {mg : Str → Option Value} {base : Heap} {cA cB cN : Addr}
theorem ok_made {f : Addr} {fd : FuncData} (F : Fun K "made" "made" sMade f fd) (T : Txt K mg cA cB cN) : FnOk P w K mg base (L2N.CX P w) 1 f fd ["letters", "marks", "ways"] (spMade cB) := by
  refine okN F scMade (fun vs H Q E h => ?_) (fun cdv A outer s H vs Q E hr h => ?_)
  · obtain ⟨n, pm, pw, ms, ps, ws, rfl, _⟩ := h
    rfl
  · obtain ⟨n, pm, pw, ms, ps, ws, rfl, hm, hw, hl, q, e⟩ := h
    obtain ⟨tR, gR⟩ := T.gRooms
    obtain ⟨tL, gL⟩ := T.gLetters
    obtain ⟨tM, gM⟩ := T.gMark
    refine ⟨_,
(pss_cons (ps_set (i := 3) scMade.nd rfl (.inl rfl) (pe_callB call_len_seq (by rfl) T.len PySem.boot_len (pa_cons (pv 1) pa_nil)))
      (pss_cons (ps_if (PW.pt (pw_or (pt_cmpR op_lt (pv 0) pe_int (nomark _)) (pw_or1 (pt_cmpR op_gt (pv 0) (pe_glob (v := .int 6) rfl gL ⟨_, rfl⟩) (nomark _))))) (pss_one (L2N.ps_raise rfl (L2N.takes_of rfl rfl rfl rfl) (L2N.pmk_own PySem.F.excBase_ValueError T.xB T.gB T.kB (raises_own T.bB T.tB) rfl))) pss_nil)
      (pss_cons (ps_if (PW.pt (pw_or (pt_cmpR op_lt (pv 3) pe_int (nomark _)) (pw_or (pt_cmpR op_gt (pv 3) (pe_glob (v := .int 40) rfl gR ⟨_, rfl⟩) (nomark _)) (pw_or1 (pt_cmpR op_ne (pe_callB call_len_seq (by rfl) T.len PySem.boot_len (pa_cons (pv 2) pa_nil)) (pv 3) (nomark _)))))) (pss_one (L2N.ps_raise rfl (L2N.takes_of rfl rfl rfl rfl) (L2N.pmk_own PySem.F.excBase_ValueError T.xB T.gB T.kB (raises_own T.bB T.tB) rfl))) pss_nil)
      (pss_cons (ps_for (passes_of rfl) rfl (pi_list (pv 1)) (pg_name (i := 4) scMade.nd rfl (.inl rfl)) (pss_one (ps_if (PW.pt (pw_or (pt_cmpR op_lt (pv 4) pe_int (nomark _)) (pw_or1 (pt_cmpR op_gt (pv 4) (pe_glob (v := .int 1000000000) rfl gM ⟨_, rfl⟩) (nomark _))))) (pss_one (L2N.ps_raise rfl (L2N.takes_of rfl rfl rfl rfl) (L2N.pmk_own PySem.F.excBase_ValueError T.xB T.gB T.kB (raises_own T.bB T.tB) rfl))) pss_nil)))
      (pss_cons (ps_set (i := 5) scMade.nd rfl (.inl rfl) (pe_lst pa_nil))
      (pss_cons (ps_for (passes_of rfl) rfl (pi_list (pv 2)) (pg_name (i := 6) scMade.nd rfl (.inl rfl)) (pss_cons (ps_if (pt_cmpR op_ne (pe_callB call_len_seq (by rfl) T.len PySem.boot_len (pa_cons (pv 6) pa_nil)) (pv 0) (nomark _)) (pss_one (L2N.ps_raise rfl (L2N.takes_of rfl rfl rfl rfl) (L2N.pmk_own PySem.F.excBase_ValueError T.xB T.gB T.kB (raises_own T.bB T.tB) rfl))) pss_nil)
      (pss_cons (ps_for (passes_of rfl) rfl (pi_list (pv 6)) (pg_name (i := 7) scMade.nd rfl (.inl rfl)) (pss_one (ps_if (PW.pt (pw_or (pt_cmpR op_lt (pv 7) pe_int (nomark _)) (pw_or1 (pt_cmpR op_ge (pv 7) (pv 3) (nomark _))))) (pss_one (L2N.ps_raise rfl (L2N.takes_of rfl rfl rfl rfl) (L2N.pmk_own PySem.F.excBase_ValueError T.xB T.gB T.kB (raises_own T.bB T.tB) rfl))) pss_nil)))
      (pss_one (ps_expr (pe_bm PySem.F.plainAttrs_list PySem.F.slot_list_append PySem.F.type_list_append mt_append (pv 5) (pa_cons (pe_callTy call_tuple_of (by rfl) T.tup (by decide +kernel) (pa_cons (pv 6) pa_nil)) pa_nil)))))))
      (pss_one (ps_ret (pe_tup (pa_cons (pv 0) (pa_cons (pe_callTy call_tuple_of (by rfl) T.tup (by decide +kernel) (pa_cons (pv 1) pa_nil)) (pa_cons (pe_callTy call_tuple_of (by rfl) T.tup (by decide +kernel) (pa_cons (pv 5) pa_nil)) pa_nil))))))))))))
      , ?_⟩
    refine ⟨_, rfl, pm, _, rfl, .inl (SqL.of hm), ?_⟩
    have em : (ms.map VN).length = ms.length := List.length_map ..
    refine ⟨_, rfl, _, _, rfl, rfl, _, rfl, ?_⟩
    refine ite2 (fun _ => e _) (fun h1 => ?_)
    refine ⟨_, rfl, _, _, rfl, rfl, _, rfl, ?_⟩
    refine ite2 (fun _ => e _) (fun h2 => ?_)
    have n1 : 1 ≤ n := by
      have h1 : ¬ ((n : Int) < 1) := fun y => h1 (decide_eq_true y)
      omega
    have n6 : n ≤ 6 := by
      have h2 : ¬ ((6 : Int) < (n : Int)) := fun y => h2 (decide_eq_true y)
      omega
    refine ⟨_, rfl, _, _, rfl, rfl, _, rfl, ?_⟩
    refine ite2 (fun _ => e _) (fun h3 => ?_)
    refine ⟨_, rfl, _, _, rfl, rfl, _, rfl, ?_⟩
    refine ite2 (fun _ => e _) (fun h4 => ?_)
    refine ⟨_, rfl, pw, _, rfl, .inl (SqL.of hw), _, rfl, rfl, _, rfl, ?_⟩
    refine ite2 (fun _ => e _) (fun h5 => ?_)
    have r1 : 1 ≤ ms.length := by
      have h3 : ¬ (((ms.map VN).length : Int) < 1) := fun y => h3 (decide_eq_true y)
      omega
    have r40 : ms.length ≤ 40 := by
      have h4 : ¬ ((40 : Int) < ((ms.map VN).length : Int)) := fun y => h4 (decide_eq_true y)
      omega
    have h5 := nd_int h5
    have pl : ps.length = ms.length := by
      rw [List.length_map, List.length_map] at h5
      omega
    have wl : ws.length = ms.length := hl.1.symm.trans pl
    refine ⟨_, rfl, pm, rfl, ⟨_, SqL.of hm⟩, for_list (K := K) (a := pm) (xs := ms.map VN) (fun i σ H' => H' = H ∧ (∃ v4, σ = [some (VN n), some (.ref pm), some (.ref pw), some (.int ((ms.map VN).length : Int)), v4, none, none, none]) ∧ ∀ j m, j < i → ms[j]? = some m → m ≤ 1000000000)
      ⟨rfl, ⟨none, rfl⟩, fun j m hj => absurd hj (Nat.not_lt_zero _)⟩ (fun i σ H' _ ⟨hH, _⟩ => by rw [hH]; exact SqL.of hm) ?_ ?_⟩
    · rintro i x σ H' hx ⟨rfl, ⟨v4, rfl⟩, hm'⟩
      obtain ⟨m, hmi, rfl⟩ := map_at hx
      refine ⟨_, rfl, _, _, rfl, rfl, _, rfl, ?_⟩
      refine ite2 (fun _ => e _) (fun _ => ?_)
      refine ⟨_, rfl, _, _, rfl, rfl, _, rfl, ?_⟩
      refine ite2 (fun _ => e _) (fun h7 => ?_)
      have h7 : ¬ ((1000000000 : Int) < (m : Int)) := fun y => h7 (decide_eq_true y)
      refine ⟨rfl, ⟨_, rfl⟩, fun j m' hj hm2 => ?_⟩
      by_cases y : j < i
      · exact hm' j m' y hm2
      · have y : j = i := by omega
        subst y
        rw [hmi] at hm2
        cases hm2
        omega
    · rintro σ H' ⟨rfl, ⟨v4, rfl⟩, hmk⟩
      have marks : ∀ m ∈ ms, m ≤ 1000000000 := by
        intro m hm0
        obtain ⟨j, hj⟩ := List.mem_iff_getElem?.mp hm0
        exact hmk j m (by rw [List.length_map]; exact (List.getElem?_eq_some_iff.mp hj).1) hj
      refine ⟨Nat.zero_le _, fun l nl => ?_⟩
      have s0 : Same H' (upd H' l (.lst [])) := same_new nl
      refine ⟨_, rfl, pw, rfl, ⟨_, SqL.of (s0 _ _ hw)⟩, for_list (K := K) (a := pw) (xs := ps.map V.ref) (fun i σ H2 => Same H' H2 ∧
          (∃ v6 v7, σ = [some (VN n), some (.ref pm), some (.ref pw), some (.int ((ms.map VN).length : Int)), v4, some (.ref l), v6, v7]) ∧
          (∃ qs : List Addr, H2 l = some (.lst (qs.map V.ref)) ∧ (∀ a ∈ qs, a ≠ l) ∧ TupsAt H2 qs (ws.take i)) ∧
          ∀ j w', j < i → ws[j]? = some w' → w'.length = n ∧ ∀ r ∈ w', r < ms.length)
        ⟨s0, ⟨none, none, rfl⟩, ⟨[], upd_same, fun a ha => by simp at ha, rfl, fun i a r h => by simp at h⟩, fun j w' hj => absurd hj (Nat.not_lt_zero _)⟩
        (fun i σ H2 _ ⟨s, _⟩ => SqL.of (s _ _ hw)) ?_ ?_⟩
      · rintro i x σ H2 hx ⟨s2, ⟨v6, v7, rfl⟩, ⟨qs, eq, neq, tq⟩, hold⟩
        obtain ⟨a, ha, rfl⟩ := map_at hx
        obtain ⟨wi, hwi⟩ : ∃ w', ws[i]? = some w' := by
          have := (List.getElem?_eq_some_iff.mp ha).1
          exact ⟨_, List.getElem?_eq_getElem (by have := hl.1; omega)⟩
        have ea : H2 a = some (.lst (wi.map VN)) := s2 _ _ (hl.2 i a wi ha hwi)
        refine ⟨_, rfl, a, _, rfl, .inl (SqL.of ea), _, rfl, rfl, _, rfl, ?_⟩
        refine ite2 (fun _ => e _) (fun h8 => ?_)
        have h8 := nd_int h8
        have wn : wi.length = n := by
          rw [List.length_map] at h8
          omega
        refine ⟨_, rfl, a, rfl, ⟨_, SqL.of ea⟩, for_list (K := K) (a := a) (xs := wi.map VN) (fun k σ H3 => H3 = H2 ∧
            (∃ v7, σ = [some (VN n), some (.ref pm), some (.ref pw), some (.int ((ms.map VN).length : Int)), v4, some (.ref l), some (.ref a), v7]) ∧ ∀ j r, j < k → wi[j]? = some r → r < ms.length)
          ⟨rfl, ⟨_, rfl⟩, fun j m hj => absurd hj (Nat.not_lt_zero _)⟩ (fun i σ H' _ ⟨hH, _⟩ => by rw [hH]; exact SqL.of ea) ?_ ?_⟩
        · rintro k y σ H3 hy ⟨rfl, ⟨v7, rfl⟩, hr7⟩
          obtain ⟨r, hri, rfl⟩ := map_at hy
          refine ⟨_, rfl, _, _, rfl, rfl, _, rfl, ?_⟩
          refine ite2 (fun _ => e _) (fun _ => ?_)
          refine ⟨_, rfl, _, rfl, _, _, rfl, rfl, _, rfl, ?_⟩
          refine ite2 (fun _ => e _) (fun h9 => ?_)
          have h9 : ¬ (((ms.map VN).length : Int) ≤ (r : Int)) := fun y => h9 (decide_eq_true y)
          refine ⟨rfl, ⟨_, rfl⟩, fun j r' hj hr2 => ?_⟩
          by_cases y : j < k
          · exact hr7 j r' y hr2
          · have y : j = k := by omega
            subst y
            rw [hri] at hr2
            cases hr2
            omega
        · rintro σ H3 ⟨rfl, ⟨v7, rfl⟩, hr7⟩
          refine ⟨_, rfl, .inl ⟨rfl, _, SqL.of eq⟩, _, rfl, a, _, rfl, .inl ⟨SqL.of ea, fun t nt => ?_⟩⟩
          have ntl : t ≠ l := (ne_of_none eq nt).symm
          have ql : qs.length ≤ 40 := by
            have := tq.1
            rw [List.length_take] at this
            omega
          refine ⟨l, _, _, rfl, rfl, by rw [upd_ne ntl.symm]; exact eq, sl_lt (by rw [List.length_map]; omega), ?_⟩
          refine ⟨same_set (s2.trans (same_new nt)) nl, ⟨_, _, rfl⟩, ⟨qs ++ [t], ?_, ?_, ?_⟩, fun j w' hj hw' => ?_⟩
          · rw [upd_same, List.map_append]
            rfl
          · intro b hb
            rcases List.mem_append.mp hb with hb | hb
            · exact neq b hb
            · rw [List.mem_singleton.mp hb]
              exact ntl
          · rw [take_snoc hwi]
            refine TupsAt.snoc ⟨tq.1, fun j b r hb hr' => ?_⟩ ?_
            · have g := tq.2 j b r hb hr'
              rw [upd_ne (neq b (List.mem_of_getElem? hb)), upd_ne (ne_of_none g nt)]
              exact g
            · rw [upd_ne ntl, upd_same]
          · by_cases y : j < i
            · exact hold j w' y hw'
            · have y : j = i := by omega
              subst y
              rw [hwi] at hw'
              cases hw'
              refine ⟨wn, fun r hr' => ?_⟩
              obtain ⟨k, hk⟩ := List.mem_iff_getElem?.mp hr'
              exact hr7 k r (by rw [List.length_map]; exact (List.getElem?_eq_some_iff.mp hk).1) hk
      · rintro σ H2 ⟨s2, ⟨v6, v7, rfl⟩, ⟨qs, eq, neq, tq⟩, hold⟩
        rw [List.length_map, pl, ← wl, List.take_length] at tq
        refine ⟨_, rfl, _, rfl, pm, _, rfl, .inl ⟨SqL.of (s2 _ _ hm), fun tm ntm => ?_⟩⟩
        have nl1 : tm ≠ l := (ne_of_none eq ntm).symm
        refine ⟨_, rfl, l, _, rfl, .inl ⟨SqL.of (by rw [upd_ne nl1.symm]; exact eq), fun tw ntw => ?_⟩⟩
        have nmw : tm ≠ tw := fun y => by rw [← y, upd_same] at ntw; cases ntw
        refine ⟨by show 3 ≤ sizeLine; decide, fun p np => ?_⟩
        have nmp : tm ≠ p := fun y => by rw [← y, upd_ne nmw, upd_same] at np; cases np
        have nwp : tw ≠ p := fun y => by rw [← y, upd_same] at np; cases np
        have z1 : (ms.zip ws).map (·.1) = ms := by
          show (ms.zip ws).map Prod.fst = ms
          rw [List.map_fst_zip (by omega)]
        have z2 : (ms.zip ws).map (·.2) = ws := by
          show (ms.zip ws).map Prod.snd = ws
          rw [List.map_snd_zip (by omega)]
        have zl : (ms.zip ws).length = ms.length := by
          rw [List.length_zip]
          omega
        refine q _ p (ms.zip ws) ⟨tm, tw, qs, upd_same, ?_, ?_, ?_⟩ ⟨n1, n6, by omega, by omega, ?_, ?_, ?_⟩ z1 z2
        · rw [upd_ne nmp, upd_ne nmw, upd_same]
          have : (ms.zip ws).map (fun r => VN r.1) = ms.map VN := by
            show (ms.zip ws).map (VN ∘ fun r : Nat × List Nat => r.1) = _
            rw [← List.map_map, z1]
          rw [this]
        · rw [upd_ne nwp, upd_same]
        · rw [z2]
          exact ((tq.same (same_new ntm)).same (same_new ntw)).same (same_new np)
        · intro r hr'
          exact marks _ (List.of_mem_zip hr').1
        · intro r hr'
          obtain ⟨j, hj⟩ := List.mem_iff_getElem?.mp (List.of_mem_zip hr').2
          exact (hold j _ (by rw [List.length_map]; have := (List.getElem?_eq_some_iff.mp hj).1; omega) hj).1
        · intro r hr' x hx
          obtain ⟨j, hj⟩ := List.mem_iff_getElem?.mp (List.of_mem_zip hr').2
          rw [zl]
          exact (hold j _ (by rw [List.length_map]; have := (List.getElem?_eq_some_iff.mp hj).1; omega) hj).2 x hx
end
end K46

/-! read_house. -/
namespace K46
open PySem PySem.Spec PyProof.Rows L2 TL
theorem room_tl : tl ("room" : Str) = roomW := by decide +kernel
theorem house_tl : tl ("house" : Str) = houseW := by decide +kernel
theorem cut_two (xs : List V) : cutV xs (some 2) none = xs.drop 2 := by
  unfold cutV
  rw [HT.sIx_none, show HT.sIx xs.length 0 (some 2) = min 2 xs.length from HT.sIx_nat xs.length 0 2]
  by_cases h : 2 ≤ xs.length
  · rw [show min 2 xs.length = 2 by omega, List.take_of_length_le (by rw [List.length_drop]; omega)]
  · rw [show min 2 xs.length = xs.length by omega, List.drop_eq_nil_of_le (Nat.le_refl _), List.drop_eq_nil_of_le (by omega), List.take_nil]
theorem pairs_same : ∀ {a b : List (Nat × List Nat)}, a.map (·.1) = b.map (·.1) → a.map (·.2) = b.map (·.2) → a = b
  | [], [], _, _ => rfl
  | [], _ :: _, h, _ => by simp at h
  | _ :: _, [], h, _ => by simp at h
  | x :: a, y :: b, h1, h2 => by
    rw [List.map_cons, List.map_cons] at h1 h2
    injection h1 with e1 t1
    injection h2 with e2 t2
    rw [pairs_same t1 t2, Prod.ext e1 e2]
section
variable {P : Program} {w : World} {K : PySem.W.Frag} {mg : Str → Option Value} {base : Heap} {cA cB cN : Addr}
theorem ok_house {f f1 f2 fM : Addr} {fd fd1 fd2 fdM : FuncData} (F : Fun K "read_house" "read_house" sHouse f fd) (T : Txt K mg cA cB cN)
    (F1 : Fun K "read_number" "read_number" sNum f1 fd1) (b1 : Binds K fd1 ["figures"] []) (g1 : mg "read_number" = some (.ref f1))
    (F2 : Fun K "read_rows" "read_rows" sRows f2 fd2) (b2 : Binds K fd2 ["text", "head"] []) (g2 : mg "read_rows" = some (.ref f2))
    (FM : Fun K "made" "made" sMade fM fdM) (bM : Binds K fdM ["letters", "marks", "ways"] []) (gM : mg "made" = some (.ref fM)) :
    FnOk P w K mg base (L2.CX P w) 3 f fd ["text"] (spHouse cN) := by
  have G1 : FnOk P w K mg base (L2.CX P w) 1 f1 fd1 ["figures"] (spNum cN) := ok_num F1 T
  have G2 : FnOk P w K mg base (L2.CX P w) 2 f2 fd2 ["text", "head"] (spRows cN) := ok_rows F2 T F1 b1 g1
  have GM : FnOk P w K mg base (L2N.CX P w) 1 fM fdM ["letters", "marks", "ways"] (spMade cB) := ok_made FM T
  refine F.okX scHouse (fun vs H Q E h => ?_) (fun cdv A outer s H vs Q E hr h => ?_)
  · obtain ⟨z, rfl, _⟩ := h
    rfl
  · obtain ⟨z, rfl, hz, q, e⟩ := h
    have hr2 : Room 2 _ := hr.mono (by decide)
    have hr1 : Room 1 _ := hr.mono (by decide)
    refine ⟨_,
(pss_cons (ps_asg (pe_callS G2 hr2 (by rfl) g2 F2.kp b2 (fun σ => passAt (takes_of rfl rfl rfl rfl) σ) (pa_cons (pv 0) (pa_cons pe_str pa_nil))) (pg_tup rfl (pgs_cons (pg_name (i := 1) scHouse.nd rfl (.inl rfl)) (pgs_cons (pg_name (i := 2) scHouse.nd rfl (.inl rfl)) pgs_nil))))
      (pss_cons (ps_set (i := 3) scHouse.nd rfl (.inl rfl) (pe_lst pa_nil))
      (pss_cons (ps_set (i := 4) scHouse.nd rfl (.inl rfl) (pe_lst pa_nil))
      (pss_cons (ps_for (passes_of rfl) rfl (pi_list (pv 2)) (pg_name (i := 5) scHouse.nd rfl (.inl rfl)) (pss_cons (ps_if (PW.pt (pw_or (pt_cmpR op_ne (pe_ix ix_list (pv 5) pe_int (fun _ _ => rfl)) pe_str (nomark _)) (pw_or1 (pt_cmpR op_lt (pe_callB call_len_seq (by rfl) T.len PySem.boot_len (pa_cons (pv 5) pa_nil)) pe_int (nomark _))))) (pss_one (ps_raise rfl (takes_of rfl rfl rfl rfl) (pmk_own PySem.F.excBase_ValueError T.xN T.gN T.kN (raises_own T.bN T.tN) rfl))) pss_nil)
      (pss_cons (ps_expr (pe_bm PySem.F.plainAttrs_list PySem.F.slot_list_append PySem.F.type_list_append mt_append (pv 3) (pa_cons (pe_callS G1 hr1 (by rfl) g1 F1.kp b1 (fun σ => passAt (takes_of rfl rfl rfl rfl) σ) (pa_cons (pe_ix ix_list (pv 5) pe_int (fun _ _ => rfl)) pa_nil)) pa_nil)))
      (pss_one (ps_expr (pe_bm PySem.F.plainAttrs_list PySem.F.slot_list_append PySem.F.type_list_append mt_append (pv 4) (pa_cons (pe_lcX (E := E) (own := [("figures", 7)]) (g := gName 7) rfl rfl (takes_of rfl rfl rfl rfl) rfl scHouse.nd (pi_list (pe_slice sl_list (pv 5) (po_some pe_int) po_none))
          (blkOk_by (own := [("figures", 7)]) (N := ["text", "letters", "rows", "marks", "ways", "row", "house", "figures"]) (sc := defScope sHouse) (by decide +kernel))
          (fun _ _ _ _ _ => pg_name (i := 7) scHouse.nd rfl (Or.inl rfl))
          (fun _ _ _ _ _ W hx => pe_callS (E := fun _ => E) G1 hr1 (by rfl) g1 F1.kp b1 hx (pa_cons (pv 7) pa_nil))) pa_nil)))))))
      (pss_cons (L2H.ps_try_onlyX (Wout := fun cls d _ H => E cls d H) rfl rfl ⟨rfl, by decide, .inl T.gB⟩ (fun hd => L2H.passesAt_of rfl hd) (takes_of rfl rfl rfl rfl)
        (fun W pn xe tkN tkP hp => (pss_one (ps_set (i := 6) scHouse.nd rfl (.inl rfl) (pe_callS GM hr1 (by rfl) gM FM.kp bM (fun σ => L2N.passAt tkN σ) (pa_cons (pv 1) (pa_cons (pv 3) (pa_cons (pv 4) pa_nil)))))))
        (fun a oe cls d pn hz hf tk hot => (pss_one (L2H.ps_raiseH hot tk (L2N.pmk_own PySem.F.excBase_ValueError T.xN T.gN T.kN (raises_own T.bN T.tN) rfl)))))
      (pss_one (ps_ret (pv 6))))))))
      , ?_⟩
    refine ⟨_, rfl, z, _, rfl, hz, fun H0 p pr ras rows n hp hpr hs hne hwd hrl hn hz2 => ?_, e⟩
    refine ⟨p, _, rfl, SqT.of hp, rfl, _, _, rfl, _, _, rfl, rfl, ?_⟩
    refine ⟨Nat.zero_le _, fun lm nlm => ⟨Nat.zero_le _, fun lw nlw => ?_⟩⟩
    have nmw : lm ≠ lw := fun y => by rw [← y, upd_same] at nlw; cases nlw
    have nlw0 : H0 lw = none := by
      rw [upd_ne nmw.symm] at nlw
      exact nlw
    have s0 : Same H0 (upd (upd H0 lm (.lst [])) lw (.lst [])) := (same_new nlm).trans (same_new nlw)
    refine ⟨_, rfl, pr, rfl, ⟨_, SqL.of (s0 _ _ hpr)⟩, for_list (K := K) (a := pr) (xs := ras.map V.ref) (fun i σ H' => Same H0 H' ∧
        (∃ v5, σ = [some (V.str z), some (VN n), some (.ref pr), some (.ref lm), some (.ref lw), v5, none, none]) ∧
        ∃ (rs : List (Nat × List Nat)) (ps : List Addr), rs.length = min i rows.length ∧ H' lm = some (.lst ((rs.map (·.1)).map VN)) ∧ H' lw = some (.lst (ps.map V.ref)) ∧ (∀ a ∈ ps, a ≠ lm ∧ a ≠ lw) ∧ LstsAt H' ps (rs.map (·.2)) ∧
          (rows.take i).map (fun r => joinL [32] (r.map tl)) = rs.map rowL)
      ⟨s0, ⟨none, rfl⟩, [], [], (Nat.min_eq_left (Nat.zero_le _)).symm, by rw [upd_ne nmw, upd_same]; rfl, upd_same, fun a ha => by simp at ha, ⟨rfl, fun i a w h => by simp at h⟩, rfl⟩
      (fun i σ H' _ ⟨s, _⟩ => SqL.of (s _ _ hpr)) ?_ ?_⟩
    · rintro i x σ H1 hx ⟨s1, ⟨v5, rfl⟩, rs, ps, rl, em, ew, nps, lat, hrow⟩
      obtain ⟨a, ha, rfl⟩ := map_at hx
      obtain ⟨r, hri⟩ : ∃ r, rows[i]? = some r := by
        have := (List.getElem?_eq_some_iff.mp ha).1
        exact ⟨_, List.getElem?_eq_getElem (by have := hs.1; omega)⟩
      have hi := (List.getElem?_eq_some_iff.mp hri).1
      have ea : H1 a = some (.lst (r.map V.str)) := s1 _ _ (hs.2 i a r ha hri)
      have rne := hne r (List.mem_of_getElem? hri)
      have rwd := hwd r (List.mem_of_getElem? hri)
      obtain ⟨h0, t0, rfl⟩ : ∃ h t, r = h :: t := by
        cases r with
        | nil => exact absurd rfl rne
        | cons h t => exact ⟨h, t, rfl⟩
      refine ⟨_, rfl, a, _, 0, _, rfl, rfl, SqL.of ea, atI_nat (j := 0) rfl, rfl, _, rfl, ?_⟩
      refine ite2 (fun _ => e _) (fun h1 => ?_)
      have eh := nd_str h1
      refine ⟨_, rfl, a, _, rfl, .inl (SqL.of ea), _, _, rfl, rfl, _, rfl, ?_⟩
      refine ite2 (fun _ => e _) (fun h2 => ?_)
      have h2 : ¬ ((((h0 :: t0).map V.str).length : Int) < 2) := fun y => h2 (decide_eq_true y)
      obtain ⟨f1, figs, rfl⟩ : ∃ h t, t0 = h :: t := by
        cases t0 with
        | nil => exact absurd (show ((1 : Nat) : Int) < 2 by decide) h2
        | cons h t => exact ⟨h, t, rfl⟩
      subst eh
      have wf := wide_mem (ps := ("room" : Str) :: f1 :: figs) (p := f1) (by simp)
      refine ⟨_, rfl, .inl ⟨rfl, _, SqL.of em⟩, _, rfl, a, _, 1, _, rfl, rfl, SqL.of ea, atI_nat (j := 1) rfl, f1, rfl, sl16 (by omega), fun m hm hmlt => ?_, e _⟩
      refine ⟨lm, _, _, rfl, rfl, em, sl_lt (by rw [List.length_map, List.length_map]; omega), ?_⟩
      have nam : a ≠ lm := ne_of_none (hs.2 i a _ ha hri) nlm
      have nprm : pr ≠ lm := ne_of_none hpr nlm
      have s2 : Same H0 (upd H1 lm (.lst ((rs.map (·.1)).map VN ++ [VN m]))) := same_set s1 nlm
      have ea2 := s2 _ _ (hs.2 i a _ ha hri)
      have em2 : (upd H1 lm (.lst ((rs.map (·.1)).map VN ++ [VN m]))) lm = some (.lst ((rs.map (·.1)).map VN ++ [VN m])) := upd_same
      have ew2 : (upd H1 lm (.lst ((rs.map (·.1)).map VN ++ [VN m]))) lw = some (.lst (ps.map V.ref)) := by rw [upd_ne nmw.symm]; exact ew
      have lat2 : LstsAt (upd H1 lm (.lst ((rs.map (·.1)).map VN ++ [VN m]))) ps (rs.map (·.2)) := ⟨lat.1, fun j b w' hb hw' => by
        rw [upd_ne (nps b (List.mem_of_getElem? hb)).1]
        exact lat.2 j b w' hb hw'⟩
      generalize upd H1 lm (.lst ((rs.map (·.1)).map VN ++ [VN m])) = H2 at s2 ea2 em2 ew2 lat2
      refine ⟨_, rfl, .inl ⟨rfl, _, SqL.of ew2⟩, _, rfl, 2, rfl, a, _, rfl, SqL.of ea2, fun qf nqf => ?_⟩
      rw [cut_two]
      have ef : (upd H2 qf (.lst ((("room" : Str) :: f1 :: figs).map V.str |>.drop 2))) qf = some (.lst (figs.map V.str)) := upd_same
      have s3 : Same H2 (upd H2 qf (.lst ((("room" : Str) :: f1 :: figs).map V.str |>.drop 2))) := same_new nqf
      generalize upd H2 qf (.lst ((("room" : Str) :: f1 :: figs).map V.str |>.drop 2)) = H3 at ef s3
      refine ⟨qf, rfl, ⟨_, SqL.of ef⟩, fun D nD => ?_⟩
      have figl : figs.length ≤ 100001 := by
        have w1 := wide_len (("room" : Str) :: f1 :: figs)
        rw [List.length_cons, List.length_cons] at w1
        omega
      refine lc_list (K := K) (a := qf) (xs := figs.map V.str) (fun k H' => Same H3 H' ∧ ∃ took : List Nat, took.length = min k figs.length ∧ H' D = some (.lst (took.map VN)) ∧ (figs.take k).map tl = took.map numL)
        ⟨same_new nD, [], (Nat.min_eq_left (Nat.zero_le _)).symm, upd_same, rfl⟩ (fun i H' _ ⟨s, _⟩ => SqL.of (s _ _ ef)) ?_ ?_
      · rintro k y H4 hy ⟨s4, took, tkl, eD, htk⟩
        obtain ⟨g0, hg0, rfl⟩ := map_at hy
        have hk := (List.getElem?_eq_some_iff.mp hg0).1
        have wg := wide_mem (ps := ("room" : Str) :: f1 :: figs) (p := g0) (List.mem_cons_of_mem _ (List.mem_cons_of_mem _ (List.mem_of_getElem? hg0)))
        refine ⟨rfl, _, rfl, g0, rfl, sl16 (by omega), fun v hv hvlt => ?_, e _⟩
        refine ⟨took.map VN, eD, sl_lt (by rw [List.length_map]; omega), same_set s4 nD, took ++ [v], ?_, ?_, ?_⟩
        · rw [List.length_append, List.length_singleton]
          omega
        · rw [upd_same, List.map_append]
          rfl
        · rw [take_snoc hg0, List.map_append, List.map_append, htk, List.map_singleton, List.map_singleton, hv]
      · rintro H4 ⟨s4, took, tkl, eD, htk⟩
        rw [List.length_map] at tkl htk
        rw [List.take_length] at htk
        have s24 := s3.trans s4
        have nDw : D ≠ lw := (ne_of_none (s3 _ _ ew2) nD).symm
        have nDm : D ≠ lm := (ne_of_none (s3 _ _ em2) nD).symm
        refine ⟨lw, _, _, rfl, rfl, s24 _ _ ew2, sl_lt ?_, ?_⟩
        · rw [List.length_map, lat.1, List.length_map]
          omega
        refine ⟨same_set (s2.trans s24) nlw0, ⟨_, rfl⟩, rs ++ [(m, took)], ps ++ [D], ?_, ?_, ?_, ?_, ?_, ?_⟩
        · rw [List.length_append, List.length_singleton]
          omega
        · rw [upd_ne nmw, s24 _ _ em2, List.map_append, List.map_append]
          rfl
        · rw [upd_same, List.map_append]
          rfl
        · intro b hb
          rcases List.mem_append.mp hb with hb | hb
          · exact nps b hb
          · rw [List.mem_singleton.mp hb]
            exact ⟨nDm, nDw⟩
        · rw [List.map_append]
          refine LstsAt.snoc ⟨lat.1, fun j b w' hb hw' => ?_⟩ ?_
          · rw [upd_ne (nps b (List.mem_of_getElem? hb)).2]
            exact s24 _ _ (lat2.2 j b w' hb hw')
          · rw [upd_ne nDw]
            exact eD
        · rw [take_snoc hri, List.map_append, List.map_append, hrow]
          congr 1
          show [joinL [32] (tl "room" :: tl f1 :: figs.map tl)] = [rowL (m, took)]
          rw [joinL_ahead, htk, room_tl, ← hm]
          rfl
    · rintro σ H1 ⟨s1, ⟨v5, rfl⟩, rs, ps, rl, em, ew, nps, lat, hrow⟩
      rw [List.length_map, hs.1, List.take_length] at hrow
      refine ⟨_, rfl, _, rfl, _, rfl, n, lm, lw, rs.map (·.1), ps, rs.map (·.2), rfl, em, ew, lat, fun H2 pt rs' hh snd e1 e2 => ?_, fun H2 => ⟨true, T.eBB, fun _ a _ => e _, fun y => Bool.noConfusion y⟩⟩
      have e12 := pairs_same e1 e2
      subst e12
      refine ⟨_, rfl, q H2 pt n rs' hh snd ?_⟩
      rw [hz2, house_tl, hrow]
      rfl
end
end K46

/-! The law's small helpers. -/
namespace K46
open PySem PySem.Spec PyProof.Rows L2 TL
/-- a sign of a text at a place in bounds -/
theorem sign_at (z : Str) (i : Int) (h0 : 0 ≤ i) (h1 : i < z.length) : ∃ c, atI z.cps.toList i = some c := by
  obtain ⟨j, rfl⟩ := Int.eq_ofNat_of_zero_le h0
  have hl := len_tl z
  have hj : j < (tl z).length := by omega
  exact ⟨_, atI_nat (List.getElem?_eq_getElem hj)⟩
section
variable {P : Program} {w : World} {K : PySem.W.Frag} {mg : Str → Option Value} {base : Heap} {cA cB cN : Addr}
theorem ok_cell {f : Addr} {fd : FuncData} (F : Fun K "_law_cell_at" "_law_cell_at" sCell f fd) (T : Txt K mg cA cB cN) : FnOk P w K mg base CX0 1 f fd ["script", "k"] (spCell K) := by
  refine F.ok scCell (fun vs H Q E h => ?_) (fun cdv A outer s H vs Q E hr h => ?_)
  · obtain ⟨a, ns, k, rfl, _⟩ := h
    rfl
  · obtain ⟨a, ns, k, rfl, hS, hl, k0, q⟩ := h
    obtain ⟨k, rfl⟩ := Int.eq_ofNat_of_zero_le k0
    refine ⟨_,
(pss_cons (ps_if (pt_cmpR op_lt (pv 1) (pe_callB call_len_seq (by rfl) T.len PySem.boot_len (pa_cons (pv 0) pa_nil)) (nomark _)) (pss_one (ps_ret (pe_ix ix_list (pv 0) (pv 1) (fun _ _ => rfl)))) pss_nil)
      (pss_one (ps_ret pe_int)))
      , ?_⟩
    refine ⟨_, rfl, _, rfl, a, _, rfl, .inl hS, _, _, rfl, rfl, _, rfl, ?_⟩
    refine ite2 (fun h => ?_) (fun _ => q 0)
    have h : (k : Int) < ((ns.map V.int).length : Int) := of_decide_eq_true h
    rw [List.length_map] at h
    have hk : k < ns.length := by omega
    exact ⟨_, rfl, _, rfl, a, _, _, .int ns[k], rfl, rfl, hS, atI_nat (j := k) (by rw [List.getElem?_map, List.getElem?_eq_getElem hk]; rfl), q _⟩
theorem ok_whole {f : Addr} {fd : FuncData} (F : Fun K "_law_whole" "_law_whole" sWhole f fd) (T : Txt K mg cA cB cN) : FnOk P w K mg base CX0 1 f fd ["found"] spWhole := by
  refine F.ok scWhole (fun vs H Q E h => ?_) (fun cdv A outer s H vs Q E hr h => ?_)
  · obtain ⟨n, rfl, _⟩ := h
    rfl
  · obtain ⟨n, rfl, q⟩ := h
    refine ⟨_,
(pss_one (ps_ret (pe_and (pe_callB call_isi (by rfl) T.isi (by decide +kernel) (pa_cons (pv 0) (pa_cons (pe_bltn (v := .ty "int") (by rfl) T.int (by decide +kernel) rfl) pa_nil))) (pe_one (pe_not (pe_callB call_isi (by rfl) T.isi (by decide +kernel) (pa_cons (pv 0) (pa_cons (pe_bltn (v := .ty "bool") (by rfl) T.bool (by decide +kernel) rfl) pa_nil))))))))
      , ?_⟩
    refine ⟨_, rfl, _, _, .type "int", .type "int", true, rfl, .ty _, .base (.int n), kit_ty (by decide +kernel), true, rfl, ?_⟩
    refine iteT ⟨_, rfl, _, _, .type "int", .type "bool", false, rfl, .ty _, .base (.int n), kit_ty (by decide +kernel), false, rfl, ?_⟩
    exact q
theorem ok_draw {f : Addr} {fd : FuncData} (F : Fun K "_law_draw" "_law_draw" sDraw f fd) (T : Txt K mg cA cB cN) : FnOk P w K mg base CX0 1 f fd ["flow", "k", "many"] (spDraw K) := by
  refine F.ok scDraw (fun vs H Q E h => ?_) (fun cdv A outer s H vs Q E hr h => ?_)
  · obtain ⟨a, ns, k, m, rfl, _⟩ := h
    rfl
  · obtain ⟨a, ns, k, m, rfl, hS, hk0, hk, m0, m1, hl, q⟩ := h
    obtain ⟨k, rfl⟩ := Int.eq_ofNat_of_zero_le hk0
    have qi : ∀ i : Int, Q (.int (i % m)) H := by
      intro i
      have h0 : 0 ≤ i % m := Int.emod_nonneg _ (by omega)
      have h1 : i % m < m := Int.emod_lt_of_pos _ (by omega)
      have e : i % m = ((i % m).toNat : Int) := by omega
      rw [e]
      exact q _ (by omega)
    refine ⟨_,
(pss_cons (ps_if (pt_cmpR op_lt (pv 1) (pe_callB call_len_seq (by rfl) T.len PySem.boot_len (pa_cons (pv 0) pa_nil)) (nomark _)) (pss_one (ps_ret (pe_op op_mod (pe_ix ix_list (pv 0) (pv 1) (fun _ _ => rfl)) (pv 2)))) pss_nil)
      (pss_cons (ps_if (pt_cmpR op_eq (pe_callB call_len_seq (by rfl) T.len PySem.boot_len (pa_cons (pv 0) pa_nil)) pe_int (nomark _)) (pss_one (ps_ret pe_int)) pss_nil)
      (pss_cons (ps_set (i := 3) scDraw.nd rfl (.inl rfl) (pe_op op_mod (pe_ix ix_list (pv 0) (pe_op op_mod (pv 1) (pe_callB call_len_seq (by rfl) T.len PySem.boot_len (pa_cons (pv 0) pa_nil))) (fun _ _ => rfl)) pe_int))
      (pss_cons (ps_set (i := 4) scDraw.nd rfl (.inl rfl) (pe_op op_mod (pe_op op_mul (pe_op op_add (pe_op op_add (pv 3) (pe_op op_mul (pv 1) (pv 1))) pe_int) pe_int) pe_int))
      (pss_one (ps_ret (pe_op op_mod (pe_op op_mod (pe_op op_mul (pv 4) (pv 4)) pe_int) (pv 2))))))))
      , ?_⟩
    refine ⟨_, rfl, _, rfl, a, _, rfl, .inl hS, _, _, rfl, rfl, _, rfl, ?_⟩
    refine ite2 (fun h => ?_) (fun h => ?_)
    · have h : (k : Int) < ((ns.map V.int).length : Int) := of_decide_eq_true h
      rw [List.length_map] at h
      have hk : k < ns.length := by omega
      refine ⟨_, rfl, _, rfl, a, _, _, .int ns[k], rfl, rfl, hS, atI_nat (j := k) (by rw [List.getElem?_map, List.getElem?_eq_getElem hk]; rfl), _, rfl, _, _, rfl, rfl, by omega, qi _⟩
    refine ⟨_, rfl, a, _, rfl, .inl hS, rfl, _, rfl, ?_⟩
    refine ite2 (fun _ => ?_) (fun h2 => ?_)
    · have := q 0 m0
      exact this
    have h2 : ¬ ((ns.map V.int).length : Int) = 0 := fun y => h2 (decide_eq_true (congrArg V.int y))
    rw [List.length_map] at h2
    have hl0 : 0 < ns.length := by omega
    have hkm : k % ns.length < ns.length := Nat.mod_lt _ hl0
    refine ⟨_, rfl, _, rfl, _, rfl, a, _, rfl, .inl hS, _, _, rfl, rfl, by rw [List.length_map]; omega, a, _, _, .int ns[k % ns.length], rfl, rfl, hS, ?_, _, _, rfl, rfl, (by show (0 : Int) < 2147483647; decide), ?_⟩
    · rw [List.length_map]
      have e : (k : Int) % (ns.length : Int) = ((k % ns.length : Nat) : Int) := (Int.natCast_emod _ _).symm
      rw [e]
      exact atI_nat (j := k % ns.length) (by rw [List.getElem?_map, List.getElem?_eq_getElem hkm]; rfl)
    refine ⟨_, rfl, _, rfl, _, rfl, _, _, rfl, rfl, .inl ⟨by omega, by omega⟩, _, _, rfl, rfl, _, _, rfl, rfl, _, _, rfl, rfl, .inr ⟨by decide, by decide⟩, _, _, rfl, rfl, (by show (0 : Int) < 2147483647; decide), ?_⟩
    exact ⟨_, rfl, _, rfl, _, _, rfl, rfl, .inl ⟨by omega, by omega⟩, _, _, rfl, rfl, (by show (0 : Int) < 1000000007; decide), _, rfl, _, _, rfl, rfl, by omega, qi _⟩
theorem ok_sign {f : Addr} {fd : FuncData} (F : Fun K "_law_sign_by" "_law_sign_by" sSign f fd) (T : Txt K mg cA cB cN) : FnOk P w K mg base CX0 1 f fd ["cell"] spSign := by
  refine F.ok scSign (fun vs H Q E h => ?_) (fun cdv A outer s H vs Q E hr h => ?_)
  · obtain ⟨n, rfl, _⟩ := h
    rfl
  · obtain ⟨n, rfl, q⟩ := h
    refine ⟨_,
(pss_cons (ps_set (i := 1) scSign.nd rfl (.inl rfl) pe_str)
      (pss_cons (ps_set (i := 1) scSign.nd rfl (.inl rfl) (pe_op op_add_str (pv 1) pe_str))
      (pss_one (ps_ret (pe_ix ix_str (pv 1) (pe_op op_mod (pv 0) pe_int) (fun _ _ => rfl))))))
      , ?_⟩
    have ez : ((" !\"#$&'()*+,-./0123456789:;<=>?@ABCDEFGHIJKLMNOPQRSTUVWXYZ[\\]^_`" : Str) ++ ("abcdefghijklmnopqrstuvwxyz{|}~\n" : Str)).length = 95 := by decide +kernel
    obtain ⟨c, hc⟩ := sign_at ((" !\"#$&'()*+,-./0123456789:;<=>?@ABCDEFGHIJKLMNOPQRSTUVWXYZ[\\]^_`" : Str) ++ ("abcdefghijklmnopqrstuvwxyz{|}~\n" : Str)) (n % 95) (Int.emod_nonneg _ (by decide)) (by
      rw [ez]
      exact Int.emod_lt_of_pos _ (by decide))
    refine ⟨_, rfl, _, _, rfl, rfl, by decide +kernel, ?_⟩
    refine ⟨_, rfl, _, rfl, _, _, rfl, rfl, (by show (0 : Int) < 95; decide), _, _, c, rfl, rfl, ?_, hc, q _ rfl⟩
    exact sl16 (by rw [ez]; decide)
end
end K46

/-! _law_sound and _law_house_text. -/
namespace K46
open PySem PySem.Spec PyProof.Rows L2 TL
theorem iteND {c A B : Prop} [Decidable c] (hc : ¬ c) (h : B) : if decide c = true then A else B := by
  rw [if_neg]
  · exact h
  · intro y
    exact hc (of_decide_eq_true y)
theorem log2_small {n : Nat} (h : n < 10000000000) : (n : Int).natAbs.log2 < 1920 := by
  rw [Int.natAbs_natCast]
  by_cases z : n = 0
  · subst z
    decide
  · exact (Nat.log2_lt z).mpr (Nat.lt_of_lt_of_le h (Nat.le_trans (by decide : 10000000000 ≤ 2 ^ 34) (Nat.pow_le_pow_right (by decide) (by decide))))
section
variable {P : Program} {w : World} {K : PySem.W.Frag} {mg : Str → Option Value} {base : Heap} {cA cB cN : Addr}
theorem ok_sound {f fW : Addr} {fd fdW : FuncData} (F : Fun K "_law_sound" "_law_sound" sSound f fd) (T : Txt K mg cA cB cN)
    (FW : Fun K "_law_whole" "_law_whole" sWhole fW fdW) (bW : Binds K fdW ["found"] []) (gW : mg "_law_whole" = some (.ref fW)) : FnOk P w K mg base CX0 2 f fd ["found"] spSound := by
  have GW : FnOk P w K mg base CX0 1 fW fdW ["found"] spWhole := ok_whole FW T
  refine F.ok scSound (fun vs H Q E h => ?_) (fun cdv A outer s H vs Q E hr h => ?_)
  · obtain ⟨p, n, rs, rfl, _⟩ := h
    rfl
  · obtain ⟨p, n, rs, rfl, ⟨pm, pw, ps, hp, hm, hw, ht⟩, S, q⟩ := h
    have hr1 : Room 1 _ := hr.mono (by decide)
    have a0 : atI [VN n, V.ref pm, V.ref pw] 0 = some (VN n) := atI_nat (j := 0) rfl
    have a1 : atI [VN n, V.ref pm, V.ref pw] 1 = some (V.ref pm) := atI_nat (j := 1) rfl
    have a2 : atI [VN n, V.ref pm, V.ref pw] 2 = some (V.ref pw) := atI_nat (j := 2) rfl
    have kt : ∀ (a : Addr) (xs : List V), H a = some (.tup xs) → TyX K H (.ref a) (.type "tuple") := fun a xs h => .base (.tup h)
    have ktt : PySem.W.kitOne K (.type "tuple") (.type "tuple") = some true := kit_ty (by decide +kernel)
    have n1 := S.n1
    have n6 := S.n6
    have r1 := S.r1
    have r40 := S.r40
    have lm : (rs.map fun r => VN r.1).length = rs.length := List.length_map ..
    have lp : ps.length = rs.length := by
      have := ht.1
      rw [List.length_map] at this
      exact this
    have lw : (ps.map V.ref).length = rs.length := by rw [List.length_map, lp]
    refine ⟨_,
(pss_cons (ps_if (PW.pt (pw_or (pt_not (pt_val (pe_callB call_isi (by rfl) T.isi (by decide +kernel) (pa_cons (pv 0) (pa_cons (pe_bltn (v := .ty "tuple") (by rfl) T.tup (by decide +kernel) rfl) pa_nil))))) (pw_or (pt_cmpR op_ne (pe_callB call_len_seq (by rfl) T.len PySem.boot_len (pa_cons (pv 0) pa_nil)) pe_int (nomark _)) (pw_or1 (pt_not (pt_val (pe_call GW hr1 (by rfl) gW FW.kp bW .nil pass0 (pa_cons (pe_ix ix_tup (pv 0) pe_int (fun _ _ => rfl)) pa_nil)))))))) (pss_one (ps_ret pe_bl)) pss_nil)
      (pss_cons (ps_if (PW.pt (pw_or (pt_not (pt_val (pe_callB call_isi (by rfl) T.isi (by decide +kernel) (pa_cons (pe_ix ix_tup (pv 0) pe_int (fun _ _ => rfl)) (pa_cons (pe_bltn (v := .ty "tuple") (by rfl) T.tup (by decide +kernel) rfl) pa_nil))))) (pw_or (pt_not (pt_val (pe_callB call_isi (by rfl) T.isi (by decide +kernel) (pa_cons (pe_ix ix_tup (pv 0) pe_int (fun _ _ => rfl)) (pa_cons (pe_bltn (v := .ty "tuple") (by rfl) T.tup (by decide +kernel) rfl) pa_nil))))) (pw_or1 (pt_cmpR op_ne (pe_callB call_len_seq (by rfl) T.len PySem.boot_len (pa_cons (pe_ix ix_tup (pv 0) pe_int (fun _ _ => rfl)) pa_nil)) (pe_callB call_len_seq (by rfl) T.len PySem.boot_len (pa_cons (pe_ix ix_tup (pv 0) pe_int (fun _ _ => rfl)) pa_nil)) (nomark _)))))) (pss_one (ps_ret pe_bl)) pss_nil)
      (pss_cons (ps_if (PW.pt (pw_or (pt_cmpR op_lt (pe_ix ix_tup (pv 0) pe_int (fun _ _ => rfl)) pe_int (nomark _)) (pw_or (pt_cmpR op_gt (pe_ix ix_tup (pv 0) pe_int (fun _ _ => rfl)) pe_int (nomark _)) (pw_or (pt_cmpR op_lt (pe_callB call_len_seq (by rfl) T.len PySem.boot_len (pa_cons (pe_ix ix_tup (pv 0) pe_int (fun _ _ => rfl)) pa_nil)) pe_int (nomark _)) (pw_or1 (pt_cmpR op_gt (pe_callB call_len_seq (by rfl) T.len PySem.boot_len (pa_cons (pe_ix ix_tup (pv 0) pe_int (fun _ _ => rfl)) pa_nil)) pe_int (nomark _))))))) (pss_one (ps_ret pe_bl)) pss_nil)
      (pss_cons (ps_for PassesOwn.never rfl (pi_tup (pe_ix ix_tup (pv 0) pe_int (fun _ _ => rfl))) (pg_name (i := 1) scSound.nd rfl (.inl rfl)) (pss_one (ps_if (PW.pt (pw_or (pt_not (pt_val (pe_call GW hr1 (by rfl) gW FW.kp bW .nil pass0 (pa_cons (pv 1) pa_nil)))) (pw_or (pt_cmpR op_lt (pv 1) pe_int (nomark _)) (pw_or1 (pt_cmpR op_gt (pv 1) pe_int (nomark _)))))) (pss_one (ps_ret pe_bl)) pss_nil)))
      (pss_cons (ps_for PassesOwn.never rfl (pi_tup (pe_ix ix_tup (pv 0) pe_int (fun _ _ => rfl))) (pg_name (i := 2) scSound.nd rfl (.inl rfl)) (pss_cons (ps_if (PW.pt (pw_or (pt_not (pt_val (pe_callB call_isi (by rfl) T.isi (by decide +kernel) (pa_cons (pv 2) (pa_cons (pe_bltn (v := .ty "tuple") (by rfl) T.tup (by decide +kernel) rfl) pa_nil))))) (pw_or1 (pt_cmpR op_ne (pe_callB call_len_seq (by rfl) T.len PySem.boot_len (pa_cons (pv 2) pa_nil)) (pe_ix ix_tup (pv 0) pe_int (fun _ _ => rfl)) (nomark _))))) (pss_one (ps_ret pe_bl)) pss_nil)
      (pss_one (ps_for PassesOwn.never rfl (pi_tup (pv 2)) (pg_name (i := 3) scSound.nd rfl (.inl rfl)) (pss_one (ps_if (PW.pt (pw_or (pt_not (pt_val (pe_call GW hr1 (by rfl) gW FW.kp bW .nil pass0 (pa_cons (pv 3) pa_nil)))) (pw_or (pt_cmpR op_lt (pv 3) pe_int (nomark _)) (pw_or1 (pt_cmpR op_ge (pv 3) (pe_callB call_len_seq (by rfl) T.len PySem.boot_len (pa_cons (pe_ix ix_tup (pv 0) pe_int (fun _ _ => rfl)) pa_nil)) (nomark _)))))) (pss_one (ps_ret pe_bl)) pss_nil))))))
      (pss_one (ps_ret pe_bl)))))))
      , ?_⟩
    refine ⟨_, rfl, _, _, _, _, true, rfl, .ty _, kt _ _ hp, ktt, true, rfl, ?_⟩
    refine iteF ?_
    refine ⟨_, rfl, p, _, rfl, .inr (SqT.of hp), rfl, _, rfl, ?_⟩
    refine iteNS rfl ?_
    refine ⟨_, rfl, p, _, 0, _, rfl, rfl, SqT.of hp, a0, _, rfl, true, rfl, ?_⟩
    refine iteF ?_
    refine ⟨_, rfl, p, _, 1, _, rfl, rfl, SqT.of hp, a1, _, _, _, _, true, rfl, .ty _, kt _ _ hm, ktt, true, rfl, ?_⟩
    refine iteF ?_
    refine ⟨_, rfl, p, _, 2, _, rfl, rfl, SqT.of hp, a2, _, _, _, _, true, rfl, .ty _, kt _ _ hw, ktt, true, rfl, ?_⟩
    refine iteF ?_
    refine ⟨_, rfl, p, _, 1, _, rfl, rfl, SqT.of hp, a1, pm, _, rfl, .inr (SqT.of hm), _, rfl, p, _, 2, _, rfl, rfl, SqT.of hp, a2, pw, _, rfl, .inr (SqT.of hw), rfl, _, rfl, ?_⟩
    refine iteNS (by rw [lm, lw]) ?_
    refine ⟨_, rfl, p, _, 0, _, rfl, rfl, SqT.of hp, a0, _, _, rfl, rfl, _, rfl, ?_⟩
    refine iteND (by omega) ?_
    refine ⟨_, rfl, p, _, 0, _, rfl, rfl, SqT.of hp, a0, _, _, rfl, rfl, _, rfl, ?_⟩
    refine iteND (by omega) ?_
    refine ⟨_, rfl, p, _, 1, _, rfl, rfl, SqT.of hp, a1, pm, _, rfl, .inr (SqT.of hm), _, _, rfl, rfl, _, rfl, ?_⟩
    refine iteND (by omega) ?_
    refine ⟨_, rfl, p, _, 1, _, rfl, rfl, SqT.of hp, a1, pm, _, rfl, .inr (SqT.of hm), _, _, rfl, rfl, _, rfl, ?_⟩
    refine iteND (by omega) ?_
    refine ⟨_, rfl, p, _, 1, _, rfl, rfl, SqT.of hp, a1, pm, rfl, ⟨_, SqT.of hm⟩, for_tup (K := K) (a := pm) (xs := rs.map fun r => VN r.1) (fun i σ H' => H' = H ∧ ∃ v1, σ = [some (V.ref p), v1, none, none])
      ⟨rfl, none, rfl⟩ (fun i σ H' _ ⟨hH, _⟩ => by rw [hH]; exact SqT.of hm) ?_ ?_⟩
    · rintro i x σ H' hx ⟨rfl, v1, rfl⟩
      obtain ⟨r, hri, rfl⟩ := map_at hx
      have hmk := S.mark r (List.mem_of_getElem? hri)
      refine ⟨_, rfl, _, rfl, true, rfl, ?_⟩
      refine iteF ?_
      refine ⟨_, rfl, _, _, rfl, rfl, _, rfl, ?_⟩
      refine iteND (by omega) ?_
      refine ⟨_, rfl, _, _, rfl, rfl, _, rfl, ?_⟩
      refine iteND (by omega) ?_
      exact ⟨rfl, _, rfl⟩
    · rintro σ H' ⟨rfl, v1, rfl⟩
      refine ⟨_, rfl, p, _, 2, _, rfl, rfl, SqT.of hp, a2, pw, rfl, ⟨_, SqT.of hw⟩, for_tup (K := K) (a := pw) (xs := ps.map V.ref) (fun i σ H2 => H2 = H' ∧ ∃ v2 v3, σ = [some (V.ref p), v1, v2, v3])
        ⟨rfl, none, none, rfl⟩ (fun i σ H2 _ ⟨hH, _⟩ => by rw [hH]; exact SqT.of hw) ?_ ?_⟩
      · rintro i x σ H2 hx ⟨rfl, v2, v3, rfl⟩
        obtain ⟨a, ha, rfl⟩ := map_at hx
        obtain ⟨r, hri⟩ : ∃ r, rs[i]? = some r := ⟨_, List.getElem?_eq_getElem (by have := (List.getElem?_eq_some_iff.mp ha).1; omega)⟩
        have ea : H2 a = some (.tup (r.2.map VN)) := ht.2 i a r.2 ha (by rw [List.getElem?_map, hri]; rfl)
        have hmn := S.many r (List.mem_of_getElem? hri)
        have hwy := S.way r (List.mem_of_getElem? hri)
        refine ⟨_, rfl, _, _, _, _, true, rfl, .ty _, kt _ _ ea, ktt, true, rfl, ?_⟩
        refine iteF ?_
        refine ⟨_, rfl, a, _, rfl, .inr (SqT.of ea), _, rfl, p, _, 0, _, rfl, rfl, SqT.of hp, a0, rfl, _, rfl, ?_⟩
        refine iteNS (by rw [List.length_map, hmn]) ?_
        refine ⟨_, rfl, a, rfl, ⟨_, SqT.of ea⟩, for_tup (K := K) (a := a) (xs := r.2.map VN) (fun k σ H3 => H3 = H2 ∧ ∃ v3, σ = [some (V.ref p), v1, some (V.ref a), v3])
          ⟨rfl, _, rfl⟩ (fun i σ H2 _ ⟨hH, _⟩ => by rw [hH]; exact SqT.of ea) ?_ ?_⟩
        · rintro k y σ H3 hy ⟨rfl, v3, rfl⟩
          obtain ⟨u, hu, rfl⟩ := map_at hy
          have hlt := hwy u (List.mem_of_getElem? hu)
          refine ⟨_, rfl, _, rfl, true, rfl, ?_⟩
          refine iteF ?_
          refine ⟨_, rfl, _, _, rfl, rfl, _, rfl, ?_⟩
          refine iteND (by omega) ?_
          refine ⟨_, rfl, _, rfl, p, _, 1, _, rfl, rfl, SqT.of hp, a1, pm, _, rfl, .inr (SqT.of hm), _, _, rfl, rfl, _, rfl, ?_⟩
          refine iteND (by omega) ?_
          exact ⟨rfl, _, rfl⟩
        · rintro σ H3 ⟨rfl, v3, rfl⟩
          exact ⟨rfl, _, _, rfl⟩
      · rintro σ H2 ⟨rfl, v2, v3, rfl⟩
        exact q
end
end K46

/-! _law_house_text. -/
namespace K46
open PySem PySem.Spec PyProof.Rows L2 TL
theorem houseb_tl : tl ("house " : Str) = houseW ++ [32] := by decide +kernel
theorem roomb_tl : tl ("room " : Str) = roomW ++ [32] := by decide +kernel
/-- the text of a number -/
theorem num_text (n : Nat) : tl (Str.ofString (toString ((n : Nat) : Int))) = numL n := tl_num n
/-- the signs ahead of the rooms' rows -/
def headL (n : Nat) : List Nat := houseW ++ (32 :: (numL n ++ [10]))
theorem head_len {n : Nat} (h : n < 10000000000) : (headL n).length ≤ 17 := by
  have := num_len10 h
  unfold headL
  rw [List.length_append, List.length_cons, List.length_append, List.length_singleton]
  have : houseW.length = 5 := rfl
  omega
theorem house_head (n : Nat) (rs : List (Nat × List Nat)) : houseL n rs = headL n ++ roomsL rs := by
  unfold houseL headL
  rw [List.append_assoc, List.cons_append, List.append_assoc]
  rfl
section
variable {P : Program} {w : World} {K : PySem.W.Frag} {mg : Str → Option Value} {base : Heap} {cA cB cN : Addr}
theorem ok_text {f : Addr} {fd : FuncData} (F : Fun K "_law_house_text" "_law_house_text" sText f fd) (T : Txt K mg cA cB cN) : FnOk P w K mg base CX0 1 f fd ["house"] spText := by
  refine F.ok scText (fun vs H Q E h => ?_) (fun cdv A outer s H vs Q E hr h => ?_)
  · obtain ⟨p, n, rs, rfl, _⟩ := h
    rfl
  · obtain ⟨p, n, rs, rfl, ⟨pm, pw, ps, hp, hm, hw, ht⟩, S, q⟩ := h
    have a0 : atI [VN n, V.ref pm, V.ref pw] 0 = some (VN n) := atI_nat (j := 0) rfl
    have a1 : atI [VN n, V.ref pm, V.ref pw] 1 = some (V.ref pm) := atI_nat (j := 1) rfl
    have a2 : atI [VN n, V.ref pm, V.ref pw] 2 = some (V.ref pw) := atI_nat (j := 2) rfl
    have n6 := S.n6
    have r40 := S.r40
    have nlt : n < 10000000000 := by omega
    have lp : ps.length = rs.length := by
      have := ht.1
      rw [List.length_map] at this
      exact this
    have mlt : ∀ r ∈ rs, r.1 < 10000000000 := fun r hr => by have := S.mark r hr; omega
    have wlt : ∀ r ∈ rs, ∀ u ∈ r.2, u < 10000000000 := fun r hr u hu => by have := S.way r hr u hu; omega
    have rowlen : ∀ r ∈ rs, (rowL r).length ≤ 81 := fun r hr => row_len (mlt r hr) (by rw [S.many r hr]; exact n6) (wlt r hr)
    have roomslen : ∀ i, i ≤ rs.length → (roomsL (rs.take i)).length ≤ i * 82 := fun i hi => by
      have z := rooms_len (rs.take i) fun r hr => rowlen r (List.mem_of_mem_take hr)
      rw [List.length_take, Nat.min_eq_left hi] at z
      exact z
    have hlen := head_len nlt
    have tn := num_text n
    have ln := len_tl (Str.ofString (toString ((n : Nat) : Int)))
    rw [tn] at ln
    have ln10 := num_len10 nlt
    refine ⟨_,
(pss_cons (ps_set (i := 1) scText.nd rfl (.inl rfl) (pe_op op_add_str (pe_op op_add_str pe_str (pe_callTy call_str_int (by rfl) T.str (by decide +kernel) (pa_cons (pe_ix ix_tup (pv 0) pe_int (fun _ _ => rfl)) pa_nil))) pe_str))
      (pss_cons (ps_for PassesOwn.never rfl (pi_range1 rfl T.range (pa_cons (pe_callB call_len_seq (by rfl) T.len PySem.boot_len (pa_cons (pe_ix ix_tup (pv 0) pe_int (fun _ _ => rfl)) pa_nil)) pa_nil)) (pg_name (i := 2) scText.nd rfl (.inl rfl)) (pss_cons (ps_set (i := 1) scText.nd rfl (.inl rfl) (pe_op op_add_str (pe_op op_add_str (pv 1) pe_str) (pe_callTy call_str_int (by rfl) T.str (by decide +kernel) (pa_cons (pe_ix ix_tup (pe_ix ix_tup (pv 0) pe_int (fun _ _ => rfl)) (pv 2) (fun _ _ => rfl)) pa_nil))))
      (pss_cons (ps_for PassesOwn.never rfl (pi_tup (pe_ix ix_tup (pe_ix ix_tup (pv 0) pe_int (fun _ _ => rfl)) (pv 2) (fun _ _ => rfl))) (pg_name (i := 3) scText.nd rfl (.inl rfl)) (pss_one (ps_set (i := 1) scText.nd rfl (.inl rfl) (pe_op op_add_str (pe_op op_add_str (pv 1) pe_str) (pe_callTy call_str_int (by rfl) T.str (by decide +kernel) (pa_cons (pv 3) pa_nil))))))
      (pss_one (ps_set (i := 1) scText.nd rfl (.inl rfl) (pe_op op_add_str (pv 1) pe_str))))))
      (pss_one (ps_ret (pv 1)))))
      , ?_⟩
    have l1 : ("house " : Str).length = 6 := by decide +kernel
    have l2 : ("\n" : Str).length = 1 := by decide +kernel
    have l3 : (" " : Str).length = 1 := by decide +kernel
    have l4 : ("room " : Str).length = 5 := by decide +kernel
    refine ⟨_, rfl, p, _, 0, _, rfl, rfl, SqT.of hp, a0, _, rfl, log2_small nlt, _, _, rfl, rfl, sl16 (by omega), _, _, rfl, rfl, sl16 ?_, ?_⟩
    · rw [len_tl, tl_append, List.length_append, ← len_tl, ← len_tl]
      omega
    have t0 : tl (("house " : Str) ++ Str.ofString (toString ((n : Nat) : Int)) ++ ("\n" : Str)) = headL n ++ roomsL (rs.take 0) := by
      rw [tl_append, tl_append, houseb_tl, num_text, nl_tl, List.take_zero, roomsL_nil, List.append_nil]
      unfold headL
      rw [List.append_assoc, List.append_assoc]
      rfl
    generalize (("house " : Str) ++ Str.ofString (toString ((n : Nat) : Int)) ++ ("\n" : Str)) = z0 at t0
    have lmm : (rs.map fun r : Nat × List Nat => VN r.1).length = rs.length := List.length_map ..
    refine ⟨_, rfl, p, _, 1, _, rfl, rfl, SqT.of hp, a1, pm, _, rfl, .inr (SqT.of hm), _, rfl, by omega, by omega, for_range (lo := 0) (n := ((rs.map fun r : Nat × List Nat => VN r.1).length : Int).toNat)
      (fun i σ H' => H' = H ∧ ∃ z v2 v3, σ = [some (V.ref p), some (V.str z), v2, v3] ∧ tl z = headL n ++ roomsL (rs.take i)) ⟨rfl, z0, none, none, rfl, t0⟩ ?_ ?_⟩
    · rintro i σ H' hi ⟨rfl, z, v2, v3, rfl, tz⟩
      have hi : i < rs.length := by omega
      have lz : z.length ≤ 3297 := by
        have := roomslen i (by omega)
        rw [len_tl, tz, List.length_append]
        omega
      obtain ⟨r, hri⟩ : ∃ r, rs[i]? = some r := ⟨_, List.getElem?_eq_getElem hi⟩
      have hr0 := List.mem_of_getElem? hri
      obtain ⟨a, ha⟩ : ∃ a, ps[i]? = some a := ⟨_, List.getElem?_eq_getElem (by omega)⟩
      have ea : H' a = some (.tup (r.2.map VN)) := ht.2 i a r.2 ha (by rw [List.getElem?_map, hri]; rfl)
      have hmn := S.many r hr0
      have atm : atI (rs.map fun r : Nat × List Nat => VN r.1) (0 + (i : Int)) = some (VN r.1) := by
        rw [Int.zero_add]
        exact atI_nat (j := i) (by rw [List.getElem?_map, hri]; rfl)
      have atw : atI (ps.map V.ref) (0 + (i : Int)) = some (V.ref a) := by
        rw [Int.zero_add]
        exact atI_nat (j := i) (by rw [List.getElem?_map, ha]; rfl)
      have tm := num_text r.1
      have lm := len_tl (Str.ofString (toString ((r.1 : Nat) : Int)))
      rw [tm] at lm
      have lm10 := num_len10 (mlt r hr0)
      refine ⟨_, rfl, _, _, rfl, rfl, sl16 (by omega), _, rfl, p, _, 1, _, rfl, rfl, SqT.of hp, a1, _, rfl, pm, _, _, _, rfl, rfl, SqT.of hm, atm, _, rfl, log2_small (mlt r hr0), _, _, rfl, rfl, sl16 ?_, ?_⟩
      · rw [len_tl, tl_append, List.length_append, ← len_tl, ← len_tl]
        omega
      have t1 : tl (z ++ ("room " : Str) ++ Str.ofString (toString ((r.1 : Nat) : Int))) = headL n ++ roomsL (rs.take i) ++ (roomW ++ ahead 32 (numL r.1 :: (r.2.take 0).map numL)) := by
        rw [tl_append, tl_append, roomb_tl, num_text, tz, ahead_cons, List.take_zero, List.map_nil, List.append_assoc, List.append_assoc, List.append_assoc, List.append_assoc]
        show _ ++ (_ ++ (_ ++ ([32] ++ numL r.1))) = _ ++ (_ ++ (_ ++ (32 :: (numL r.1 ++ []))))
        rw [List.append_nil]
        rfl
      generalize (z ++ ("room " : Str) ++ Str.ofString (toString ((r.1 : Nat) : Int))) = z1 at t1
      refine ⟨_, rfl, p, _, 2, _, rfl, rfl, SqT.of hp, a2, _, rfl, pw, _, _, _, rfl, rfl, SqT.of hw, atw, a, rfl, ⟨_, SqT.of ea⟩, for_tup (K := K) (a := a) (xs := r.2.map VN)
        (fun k σ H2 => H2 = H' ∧ ∃ z v3, σ = [some (V.ref p), some (V.str z), some (.int (0 + (i : Int))), v3] ∧ tl z = headL n ++ roomsL (rs.take i) ++ (roomW ++ ahead 32 (numL r.1 :: (r.2.take k).map numL)))
        ⟨rfl, z1, v3, rfl, t1⟩ (fun i σ H2 _ ⟨hH, _⟩ => by rw [hH]; exact SqT.of ea) ?_ ?_⟩
      · rintro k y σ H2 hy ⟨rfl, z2, v3, rfl, tz2⟩
        obtain ⟨u, hu, rfl⟩ := map_at hy
        have hk := (List.getElem?_eq_some_iff.mp hu).1
        have hu0 := List.mem_of_getElem? hu
        have ult := wlt r hr0 u hu0
        have ll := ahead_len 32 10 (numL r.1 :: (r.2.take k).map numL) fun q hq => by
          rcases List.mem_cons.mp hq with rfl | hq
          · exact num_len10 (mlt r hr0)
          · obtain ⟨w', hw', rfl⟩ := List.mem_map.mp hq
            exact num_len10 (wlt r hr0 w' (List.mem_of_mem_take hw'))
        rw [List.length_cons, List.length_map, List.length_take] at ll
        have lz2 : z2.length ≤ 3297 + 4 + 77 := by
          have := roomslen i (by omega)
          have lW : roomW.length = 4 := rfl
          rw [len_tl, tz2, List.length_append, List.length_append, List.length_append]
          omega
        have lu := len_tl (Str.ofString (toString ((u : Nat) : Int)))
        rw [num_text] at lu
        have lu10 := num_len10 ult
        refine ⟨_, rfl, _, _, rfl, rfl, sl16 (by omega), _, rfl, _, rfl, log2_small ult, _, _, rfl, rfl, sl16 ?_, ?_⟩
        · rw [len_tl, tl_append, List.length_append, ← len_tl, ← len_tl]
          omega
        · refine ⟨rfl, _, _, rfl, ?_⟩
          have e1 : ahead 32 ([u].map numL) = [32] ++ numL u := by
            show ahead 32 [numL u] = _
            rw [ahead_cons]
            show 32 :: (numL u ++ []) = _
            rw [List.append_nil]
            rfl
          rw [tl_append, tl_append, sp_tl, num_text, tz2, take_snoc hu, List.map_append, ← List.cons_append, ahead_append, e1]
          simp only [List.append_assoc]
      · rintro σ H2 ⟨rfl, z2, v3, rfl, tz2⟩
        rw [List.length_map, List.take_length] at tz2
        have row := rowlen r hr0
        have lz2 : z2.length ≤ 3297 + 81 := by
          have := roomslen i (by omega)
          rw [len_tl, tz2, List.length_append, List.length_append]
          have e : (roomW ++ ahead 32 (numL r.1 :: r.2.map numL)).length = (rowL r).length := rfl
          omega
        refine ⟨_, rfl, _, _, rfl, rfl, sl16 (by omega), rfl, _, _, _, rfl, ?_⟩
        rw [tl_append, nl_tl, tz2, take_snoc hri, roomsL_snoc, List.append_assoc, List.append_assoc]
        rfl
    · rintro σ H' ⟨rfl, z, v2, v3, rfl, tz⟩
      have en : ((rs.map fun r : Nat × List Nat => VN r.1).length : Int).toNat = rs.length := by omega
      rw [en, List.take_length] at tz
      refine ⟨_, rfl, q z (by rw [tz, house_head]) ?_⟩
      have := roomslen rs.length (Nat.le_refl _)
      rw [List.take_length] at this
      rw [len_tl, tz, List.length_append]
      omega
end
end K46

/-! _law_house_by. -/
namespace K46
open PySem PySem.Spec PyProof.Rows L2 TL
theorem clamp (x : Int) (h : 0 ≤ x) : ∃ R : Nat, (if (if x < 40 then x else 40) > 1 then (if x < 40 then x else 40) else 1) = (R : Int) ∧ 1 ≤ R ∧ R ≤ 40 := by
  by_cases h1 : x < 40
  · rw [if_pos h1]
    by_cases h2 : x > 1
    · rw [if_pos h2]
      exact ⟨x.toNat, by omega, by omega, by omega⟩
    · rw [if_neg h2]
      exact ⟨1, rfl, by omega, by omega⟩
  · rw [if_neg h1, if_pos (by decide)]
    exact ⟨40, rfl, by omega, by omega⟩
theorem pick3 (v : Nat) (h : (v : Int) < 3) : ∃ m : Nat, m ≤ 1000000000 ∧ atI [V.int 0, V.int 1, V.int 1000000000] (v : Int) = some (VN m) := by
  have h : v = 0 ∨ v = 1 ∨ v = 2 := by omega
  rcases h with rfl | rfl | rfl
  · exact ⟨0, by decide, atI_nat (j := 0) rfl⟩
  · exact ⟨1, by decide, atI_nat (j := 1) rfl⟩
  · exact ⟨1000000000, by decide, atI_nat (j := 2) rfl⟩
section
variable {P : Program} {w : World} {K : PySem.W.Frag} {mg : Str → Option Value} {base : Heap} {cA cB cN : Addr}
theorem ok_by {f fD : Addr} {fd fdD : FuncData} (F : Fun K "_law_house_by" "_law_house_by" sBy f fd) (T : Txt K mg cA cB cN)
    (FD : Fun K "_law_draw" "_law_draw" sDraw fD fdD) (bD : Binds K fdD ["flow", "k", "many"] []) (gD : mg "_law_draw" = some (.ref fD)) : FnOk P w K mg base CX0 2 f fd ["flow", "letters", "cell"] (spBy K) := by
  have GD : FnOk P w K mg base CX0 1 fD fdD ["flow", "k", "many"] (spDraw K) := ok_draw FD T
  refine F.ok scBy (fun vs H Q E h => ?_) (fun cdv A outer s H vs Q E hr h => ?_)
  · obtain ⟨a, ns, n, c, rfl, _⟩ := h
    rfl
  · obtain ⟨a, ns, n, c, rfl, hS, hl, n1, n6, q⟩ := h
    have hr1 : Room 1 _ := hr.mono (by decide)
    refine ⟨_,
(pss_cons (ps_set (i := 3) scBy.nd rfl (.inr rfl) (pe_callB (call_max2 rfl) (by rfl) T.max (by decide +kernel) (pa_cons pe_int (pa_cons (pe_callB (call_min2 rfl) (by rfl) T.min (by decide +kernel) (pa_cons pe_int (pa_cons (pe_op op_fdiv (pe_callB call_len_seq (by rfl) T.len PySem.boot_len (pa_cons (pv 0) pa_nil)) (pe_op op_add (pv 1) pe_int)) pa_nil))) pa_nil))))
      (C8.pss_cut (ps_if (pt_cmpR op_eq (pe_op op_mod (pv 2) pe_int) pe_int (nomark _)) (pss_one (ps_set (i := 3) scBy.nd rfl (.inr rfl) (pe_op op_add pe_int (pe_op op_mod (pe_op op_fdiv (pv 2) pe_int) pe_int)))) pss_nil)
      (pss_cons (ps_set (i := 4) scBy.nd rfl (.inl rfl) (pe_lst pa_nil))
      (pss_cons (ps_set (i := 5) scBy.nd rfl (.inl rfl) (pe_lst pa_nil))
      (pss_cons (ps_for PassesOwn.never rfl (pi_range1 rfl T.range (pa_cons (pv 3) pa_nil)) (pg_name (i := 6) scBy.nd rfl (.inl rfl)) (pss_cons (ps_set (i := 7) scBy.nd rfl (.inr rfl) (pe_op op_mul (pv 6) (pe_op op_add (pv 1) pe_int)))
      (C8.pss_cut (ps_if (pt_cmpR op_eq (pe_op op_mod (pe_op op_fdiv (pv 2) pe_int) pe_int) pe_int (nomark _)) (pss_one (ps_expr (pe_bm PySem.F.plainAttrs_list PySem.F.slot_list_append PySem.F.type_list_append mt_append (pv 4) (pa_cons (pe_ix ix_list (pe_lst (pa_cons pe_int (pa_cons pe_int (pa_cons pe_int pa_nil)))) (pe_call GD hr1 (by rfl) gD FD.kp bD .nil pass0 (pa_cons (pv 0) (pa_cons (pv 7) (pa_cons pe_int pa_nil)))) (fun _ _ => rfl)) pa_nil)))) (pss_one (ps_expr (pe_bm PySem.F.plainAttrs_list PySem.F.slot_list_append PySem.F.type_list_append mt_append (pv 4) (pa_cons (pe_call GD hr1 (by rfl) gD FD.kp bD .nil pass0 (pa_cons (pv 0) (pa_cons (pv 7) (pa_cons pe_int pa_nil)))) pa_nil)))))
      (pss_one (ps_expr (pe_bm PySem.F.plainAttrs_list PySem.F.slot_list_append PySem.F.type_list_append mt_append (pv 5) (pa_cons (pe_callTy call_tuple_of (by rfl) T.tup (by decide +kernel) (pa_cons (pe_lc (own := [("letter", 8)]) (g := gName 8) (tt := tYes) rfl scBy.nd (pi_range1 rfl T.range (pa_cons (pv 1) pa_nil))
          (blkOk_by (own := [("letter", 8)]) (N := ["flow", "letters", "cell", "rooms", "marks", "ways", "k", "at", "letter"]) (sc := defScope sBy) (by decide +kernel))
          (fun _ _ _ _ _ => pg_name (i := 8) scBy.nd rfl (Or.inl rfl)) (fun _ _ _ _ _ => pts_nil)
          (fun _ _ _ _ _ => (pe_call GD hr1 (by rfl) gD FD.kp bD .nil pass0 (pa_cons (pv 0) (pa_cons (pe_op op_add (pe_op op_add (pv 7) pe_int) (pv 8)) (pa_cons (pv 3) pa_nil)))))) pa_nil)) pa_nil)))))))
      (pss_one (ps_ret (pe_tup (pa_cons (pv 1) (pa_cons (pe_callTy call_tuple_of (by rfl) T.tup (by decide +kernel) (pa_cons (pv 4) pa_nil)) (pa_cons (pe_callTy call_tuple_of (by rfl) T.tup (by decide +kernel) (pa_cons (pv 5) pa_nil)) pa_nil)))))))))))
      , ?_⟩
    have lv : (ns.map V.int).length = ns.length := List.length_map ..
    refine ⟨_, rfl, a, _, rfl, .inl hS, _, rfl, _, _, rfl, rfl, _, _, rfl, rfl, ⟨by omega, by omega⟩, _, _, rfl, _, _, rfl, ?_⟩
    refine ⟨fun σ' H' => H' = H ∧ ∃ R : Nat, 1 ≤ R ∧ R ≤ 40 ∧ σ' = [some (.ref a), some (VN n), some (.int c), some (VN R), none, none, none, none, none], ?_, ?_⟩
    · refine ⟨_, rfl, _, _, rfl, rfl, (by show (0 : Int) < 3; decide), rfl, _, rfl, ?_⟩
      refine ite2 (fun _ => ?_) (fun _ => ?_)
      · obtain ⟨R, eR, h1, h2⟩ : ∃ R : Nat, 1 + c / 3 % 40 = (R : Int) ∧ 1 ≤ R ∧ R ≤ 40 := ⟨(1 + c / 3 % 40).toNat, by omega, by omega, by omega⟩
        refine ⟨_, rfl, _, _, rfl, rfl, ⟨by decide, by decide⟩, _, _, rfl, rfl, (by show (0 : Int) < 40; decide), _, _, rfl, rfl, rfl, R, h1, h2, ?_⟩
        exact congrArg (fun x : Int => [some (V.ref a), some (VN n), some (V.int c), some (V.int x), none, none, none, none, none]) eR
      · obtain ⟨R, eR, h1, h2⟩ := clamp (((ns.map V.int).length : Int) / ((n : Int) + 1)) (Int.ediv_nonneg (by omega) (by omega))
        refine ⟨rfl, R, h1, h2, ?_⟩
        exact congrArg (fun x : Int => [some (V.ref a), some (VN n), some (V.int c), some (V.int x), none, none, none, none, none]) eR
    rintro σ H' ⟨rfl, R, R1, R40, rfl⟩
    refine ⟨Nat.zero_le _, fun lm nlm => ⟨Nat.zero_le _, fun lw nlw => ?_⟩⟩
    have nmw : lm ≠ lw := fun y => by rw [← y, upd_same] at nlw; cases nlw
    have nlw0 : H' lw = none := by
      rw [upd_ne nmw.symm] at nlw
      exact nlw
    have s0 : Same H' (upd (upd H' lm (.lst [])) lw (.lst [])) := (same_new nlm).trans (same_new nlw)
    refine ⟨_, rfl, _, rfl, by omega, by omega, for_range (lo := 0) (n := (R : Int).toNat) (fun i σ H2 => Same H' H2 ∧
        (∃ v6 v7, σ = [some (.ref a), some (VN n), some (.int c), some (VN R), some (.ref lm), some (.ref lw), v6, v7, none]) ∧
        ∃ (rs : List (Nat × List Nat)) (ps : List Addr), rs.length = i ∧ H2 lm = some (.lst ((rs.map (·.1)).map VN)) ∧ H2 lw = some (.lst (ps.map V.ref)) ∧ (∀ a ∈ ps, a ≠ lm ∧ a ≠ lw) ∧ TupsAt H2 ps (rs.map (·.2)) ∧
          ∀ r ∈ rs, r.1 ≤ 1000000000 ∧ r.2.length = n ∧ ∀ u ∈ r.2, u < R)
      ⟨s0, ⟨none, none, rfl⟩, [], [], rfl, by rw [upd_ne nmw, upd_same]; rfl, upd_same, fun a ha => by simp at ha, ⟨rfl, fun i a w h => by simp at h⟩, fun r hr => by simp at hr⟩ ?_ ?_⟩
    · rintro i σ H1 hi ⟨s1, ⟨v6, v7, rfl⟩, rs, ps, rl, em, ew, nps, tat, hold⟩
      have hi : i < R := by omega
      have b0 : 0 ≤ (0 + (i : Int)) * ((n : Int) + 1) := Int.mul_nonneg (by omega) (by omega)
      have b1 : (0 + (i : Int)) * ((n : Int) + 1) ≤ 39 * 7 := Int.mul_le_mul (by omega) (by omega) (by omega) (by omega)
      have hS1 : SqL K H1 a (ns.map V.int) := s1.seq hS
      refine ⟨_, rfl, _, rfl, _, _, rfl, rfl, _, _, rfl, rfl, .inl ⟨by omega, by omega⟩, ?_⟩
      refine ⟨fun σ' H2 => σ' = [some (.ref a), some (VN n), some (.int c), some (VN R), some (.ref lm), some (.ref lw), some (.int (0 + (i : Int))), some (.int ((0 + (i : Int)) * ((n : Int) + 1))), none] ∧ Same H' H2 ∧
        ∃ m : Nat, m ≤ 1000000000 ∧ H2 lm = some (.lst ((rs.map (·.1)).map VN ++ [VN m])) ∧ H2 lw = some (.lst (ps.map V.ref)) ∧ TupsAt H2 ps (rs.map (·.2)), ?_, ?_⟩
      · refine ⟨_, rfl, _, _, rfl, rfl, ⟨by decide, by decide⟩, _, _, rfl, rfl, (by show (0 : Int) < 2; decide), rfl, _, rfl, ?_⟩
        refine ite2 (fun _ => ?_) (fun _ => ?_)
        ·
          refine ⟨_, rfl, .inl ⟨rfl, _, SqL.of em⟩, by show 3 ≤ sizeLine; decide, fun dl ndl => ?_⟩
          have sd : Same H1 (upd H1 dl (.lst [V.int 0, V.int 1, V.int 1000000000])) := same_new ndl
          refine ⟨_, rfl, _, rfl, a, ns, ((0 + (i : Int)) * ((n : Int) + 1)), 3, rfl, sd.seq hS1, b0, by omega, by decide, by decide, hl, fun v hv => ?_⟩
          obtain ⟨m, m9, hm⟩ := pick3 v hv
          refine ⟨dl, _, _, VN m, rfl, rfl, SqL.of upd_same, hm, ?_⟩
          refine ⟨lm, _, _, rfl, rfl, sd _ _ em, sl_lt (by rw [List.length_map, List.length_map]; omega), rfl, same_set (s1.trans sd) nlm, m, m9, upd_same, ?_, tat.1, fun j b w' hb hw' => ?_⟩
          · rw [upd_ne nmw.symm]
            exact sd _ _ ew
          · rw [upd_ne (nps b (List.mem_of_getElem? hb)).1]
            exact sd _ _ (tat.2 j b w' hb hw')
        ·
          refine ⟨_, rfl, .inl ⟨rfl, _, SqL.of em⟩, _, rfl, _, rfl, a, ns, ((0 + (i : Int)) * ((n : Int) + 1)), 1000000001, rfl, hS1, b0, by omega, by decide, by decide, hl, fun v hv => ?_⟩
          refine ⟨lm, _, _, rfl, rfl, em, sl_lt (by rw [List.length_map, List.length_map]; omega), rfl, same_set s1 nlm, v, by omega, upd_same, ?_, tat.1, fun j b w' hb hw' => ?_⟩
          · rw [upd_ne nmw.symm]
            exact ew
          · rw [upd_ne (nps b (List.mem_of_getElem? hb)).1]
            exact tat.2 j b w' hb hw'
      rintro σ H2 ⟨rfl, s2, m, m9, em2, ew2, tat2⟩
      refine ⟨_, rfl, .inl ⟨rfl, _, SqL.of ew2⟩, _, rfl, _, rfl, by omega, by omega, fun D nD => ?_⟩
      have hS2 : SqL K H2 a (ns.map V.int) := s2.seq hS
      refine lc_range (lo := 0) (n := (n : Int).toNat) (fun j H3 => Same H2 H3 ∧ ∃ took : List Nat, took.length = j ∧ (∀ u ∈ took, u < R) ∧ H3 D = some (.lst (took.map VN)))
        ⟨same_new nD, [], rfl, fun u hu => by simp at hu, upd_same⟩ ?_ ?_
      · rintro j H3 hj ⟨s3, took, tkl, hlt, eD⟩
        have hj : j < n := by omega
        refine ⟨rfl, _, rfl, _, rfl, _, _, rfl, rfl, _, rfl, _, _, rfl, rfl, _, rfl, a, ns, ((0 + (i : Int)) * ((n : Int) + 1)) + 1 + (0 + (j : Int)), (R : Int), rfl, s3.seq hS2, by omega, by omega, by omega, by omega, hl, fun v hv => ?_⟩
        refine ⟨took.map VN, eD, sl_lt (by rw [List.length_map]; omega), same_set s3 nD, took ++ [v], ?_, ?_, ?_⟩
        · rw [List.length_append, List.length_singleton, tkl]
        · intro u hu
          rcases List.mem_append.mp hu with hu | hu
          · exact hlt u hu
          · rw [List.mem_singleton.mp hu]
            omega
        · rw [upd_same, List.map_append]
          rfl
      · rintro H3 ⟨s3, took, tkl, hlt, eD⟩
        have tkl : took.length = n := by omega
        have nDw : D ≠ lw := (ne_of_none ew2 nD).symm
        have nDm : D ≠ lm := (ne_of_none em2 nD).symm
        refine ⟨D, _, rfl, .inl ⟨SqL.of eD, fun tp ntp => ?_⟩⟩
        have st : Same H3 (upd H3 tp (.tup (took.map VN))) := same_new ntp
        have ntw : tp ≠ lw := (ne_of_none (s3 _ _ ew2) ntp).symm
        have ntm : tp ≠ lm := (ne_of_none (s3 _ _ em2) ntp).symm
        have s23 := s3.trans st
        refine ⟨lw, _, _, rfl, rfl, s23 _ _ ew2, sl_lt ?_, ?_⟩
        · have := tat.1
          rw [List.length_map] at this
          rw [List.length_map]
          omega
        refine ⟨same_set (s2.trans s23) nlw0, ⟨_, _, rfl⟩, rs ++ [(m, took)], ps ++ [tp], ?_, ?_, ?_, ?_, ?_, ?_⟩
        · rw [List.length_append, List.length_singleton, rl]
        · rw [upd_ne nmw, s23 _ _ em2, List.map_append, List.map_append]
          rfl
        · rw [upd_same, List.map_append]
          rfl
        · intro b hb
          rcases List.mem_append.mp hb with hb | hb
          · exact nps b hb
          · rw [List.mem_singleton.mp hb]
            exact ⟨ntm, ntw⟩
        · rw [List.map_append]
          refine TupsAt.snoc ⟨tat2.1, fun j b w' hb hw' => ?_⟩ ?_
          · rw [upd_ne (nps b (List.mem_of_getElem? hb)).2]
            exact s23 _ _ (tat2.2 j b w' hb hw')
          · rw [upd_ne ntw, upd_same]
        · intro r hr'
          rcases List.mem_append.mp hr' with hr' | hr'
          · exact hold r hr'
          · rw [List.mem_singleton.mp hr']
            exact ⟨m9, tkl, hlt⟩
    · rintro σ H1 ⟨s1, ⟨v6, v7, rfl⟩, rs, ps, rl, em, ew, nps, tat, hold⟩
      have rl : rs.length = R := by omega
      refine ⟨_, rfl, _, rfl, lm, _, rfl, .inl ⟨SqL.of em, fun tm ntm => ?_⟩⟩
      have n1w : tm ≠ lw := (ne_of_none ew ntm).symm
      refine ⟨_, rfl, lw, _, rfl, .inl ⟨SqL.of (by rw [upd_ne n1w.symm]; exact ew), fun tw ntw => ?_⟩⟩
      have nmw' : tm ≠ tw := fun y => by rw [← y, upd_same] at ntw; cases ntw
      refine ⟨by show 3 ≤ sizeLine; decide, fun p np => ?_⟩
      have nmp : tm ≠ p := fun y => by rw [← y, upd_ne nmw', upd_same] at np; cases np
      have nwp : tw ≠ p := fun y => by rw [← y, upd_same] at np; cases np
      have sAll := ((same_new ntm (o := .tup ((rs.map (·.1)).map VN))).trans (same_new ntw (o := .tup (ps.map V.ref)))).trans (same_new np (o := .tup [VN n, .ref tm, .ref tw]))
      refine q _ p rs (s1.trans sAll) ⟨tm, tw, ps, upd_same, ?_, ?_, tat.same sAll⟩ ⟨n1, n6, by omega, by omega, fun r hr' => (hold r hr').1, fun r hr' => (hold r hr').2.1, fun r hr' u hu => by rw [rl]; exact (hold r hr').2.2 u hu⟩
      · rw [upd_ne nmp, upd_ne nmw', upd_same, List.map_map]
        rfl
      · rw [upd_ne nwp, upd_same]
end
end K46

/-! _law_spoiled. -/
namespace K46
open PySem PySem.Spec PyProof.Rows L2 TL
theorem cut_lo (z : Str) (s : Int) (h : 0 ≤ s) : (cutS z none (some s)).length ≤ s.toNat := by
  have q : tl (cutS z none (some s)) = ((tl z).drop (HT.sIx z.length 0 none)).take (HT.sIx z.length z.length (some s) - HT.sIx z.length 0 none) := rfl
  obtain ⟨k, rfl⟩ := Int.eq_ofNat_of_zero_le h
  rw [len_tl, q, HT.sIx_none, show HT.sIx z.length z.length (some ((k : Nat) : Int)) = min k z.length from HT.sIx_nat z.length z.length k, List.length_take]
  omega
theorem cut_hi (z : Str) (s : Int) (h : 0 ≤ s) : (cutS z (some s) none).length ≤ z.length - s.toNat := by
  have q : tl (cutS z (some s) none) = ((tl z).drop (HT.sIx z.length 0 (some s))).take (HT.sIx z.length z.length none - HT.sIx z.length 0 (some s)) := rfl
  obtain ⟨k, rfl⟩ := Int.eq_ofNat_of_zero_le h
  rw [len_tl, q, HT.sIx_none, show HT.sIx z.length 0 (some ((k : Nat) : Int)) = min k z.length from HT.sIx_nat z.length 0 k, List.length_take]
  omega
theorem app_len (x y : Str) : (x ++ y).length = x.length + y.length := by rw [len_tl, tl_append, List.length_append, ← len_tl, ← len_tl]
section
variable {P : Program} {w : World} {K : PySem.W.Frag} {mg : Str → Option Value} {base : Heap} {cA cB cN : Addr}
theorem ok_spoil {f fS : Addr} {fd fdS : FuncData} (F : Fun K "_law_spoiled" "_law_spoiled" sSpoil f fd) (T : Txt K mg cA cB cN)
    (FS : Fun K "_law_sign_by" "_law_sign_by" sSign fS fdS) (bS : Binds K fdS ["cell"] []) (gS : mg "_law_sign_by" = some (.ref fS)) : FnOk P w K mg base CX0 2 f fd ["text", "cell", "often"] spSpoil := by
  have GS : FnOk P w K mg base CX0 1 fS fdS ["cell"] spSign := ok_sign FS T
  refine F.ok scSpoil (fun vs H Q E h => ?_) (fun cdv A outer s H vs Q E hr h => ?_)
  · obtain ⟨z, o, c, rfl, _⟩ := h
    rfl
  · obtain ⟨z, o, c, rfl, hz, o0, o1, q⟩ := h
    have hr1 : Room 1 _ := hr.mono (by decide)
    refine ⟨_,
(pss_cons (ps_set (i := 3) scSpoil.nd rfl (.inl rfl) (pe_op op_mod (pe_op op_fdiv (pv 1) pe_int) (pe_op op_add (pe_callB call_len_str (by rfl) T.len PySem.boot_len (pa_cons (pv 0) pa_nil)) pe_int)))
      (pss_cons (ps_set (i := 4) scSpoil.nd rfl (.inl rfl) (pe_ix ix_str (pv 2) (pe_op op_mod (pe_op op_fdiv (pv 1) pe_int) (pe_callB call_len_str (by rfl) T.len PySem.boot_len (pa_cons (pv 2) pa_nil))) (fun _ _ => rfl)))
      (C8.pss_cut (ps_if (pt_cmpR op_eq (pe_op op_mod (pe_op op_fdiv (pv 1) pe_int) pe_int) pe_int (nomark _)) (pss_one (ps_set (i := 4) scSpoil.nd rfl (.inl rfl) (pe_call GS hr1 (by rfl) gS FS.kp bS .nil pass0 (pa_cons (pe_op op_fdiv (pv 1) pe_int) pa_nil)))) pss_nil)
      (pss_cons (ps_if (pt_cmpR op_eq (pe_op op_mod (pv 1) pe_int) pe_int (nomark _)) (pss_one (ps_ret (pe_op op_add_str (pe_op op_add_str (pe_slice sl_str (pv 0) po_none (po_some (pv 3))) (pv 4)) (pe_slice sl_str (pv 0) (po_some (pv 3)) po_none)))) pss_nil)
      (pss_cons (ps_if (pt_cmpR op_eq (pe_op op_mod (pv 1) pe_int) pe_int (nomark _)) (pss_one (ps_ret (pe_op op_add_str (pe_op op_add_str (pe_slice sl_str (pv 0) po_none (po_some (pv 3))) (pv 4)) (pe_slice sl_str (pv 0) (po_some (pe_op op_add (pv 3) pe_int)) po_none)))) pss_nil)
      (pss_one (ps_ret (pe_op op_add_str (pe_slice sl_str (pv 0) po_none (po_some (pv 3))) (pe_slice sl_str (pv 0) (po_some (pe_op op_add (pv 3) pe_int)) po_none)))))))))
      , ?_⟩
    have hzl : z.length ≤ sizeLine := sl16 (by omega)
    have hol : o.length ≤ sizeLine := sl16 (by omega)
    have s0 : 0 ≤ c / 3 % ((z.length : Int) + 1) := Int.emod_nonneg _ (by omega)
    have s1 : c / 3 % ((z.length : Int) + 1) < (z.length : Int) + 1 := Int.emod_lt_of_pos _ (by omega)
    refine ⟨_, rfl, _, _, rfl, rfl, ⟨by decide, by decide⟩, _, rfl, z, rfl, hzl, _, _, rfl, rfl, _, _, rfl, rfl, (by show (0 : Int) < (z.length : Int) + 1; omega), ?_⟩
    obtain ⟨g, hg⟩ := sign_at o (c / 1009 % (o.length : Int)) (Int.emod_nonneg _ (by omega)) (Int.emod_lt_of_pos _ (by omega))
    refine ⟨_, rfl, _, rfl, _, _, rfl, rfl, ⟨by decide, by decide⟩, _, rfl, o, rfl, hol, _, _, rfl, rfl, (by show (0 : Int) < (o.length : Int); omega), _, _, g, rfl, rfl, hol, hg, ?_⟩
    refine ⟨fun σ' H' => H' = H ∧ ∃ sg : Str, sg.length = 1 ∧ σ' = [some (.str z), some (.int c), some (.str o), some (.int (c / 3 % ((z.length : Int) + 1))), some (.str sg)], ?_, ?_⟩
    · refine ⟨_, rfl, _, _, rfl, rfl, ⟨by decide, by decide⟩, _, _, rfl, rfl, (by show (0 : Int) < 2; decide), rfl, _, rfl, ?_⟩
      refine ite2 (fun _ => ?_) (fun _ => ?_)
      · refine ⟨_, rfl, _, _, rfl, rfl, ⟨by decide, by decide⟩, _, rfl, fun y hy => ⟨rfl, y, hy, rfl⟩⟩
      · exact ⟨rfl, _, rfl, rfl⟩
    rintro σ' H' ⟨rfl, sg, hsg, rfl⟩
    have cl := cut_lo z _ s0
    have ch := cut_hi z _ s0
    have ch1 := cut_hi z (c / 3 % ((z.length : Int) + 1) + 1) (by omega)
    refine ⟨_, rfl, _, _, rfl, rfl, (by show (0 : Int) < 3; decide), rfl, _, rfl, ?_⟩
    refine ite2 (fun _ => ?_) (fun _ => ?_)
    · refine ⟨_, rfl, _, rfl, _, rfl, z, rfl, hzl, _, rfl, _, _, rfl, rfl, sl16 (by omega), _, rfl, _, rfl, _, rfl, z, rfl, hzl, _, _, rfl, rfl, sl16 ?_, q _ ?_⟩
      · rw [app_len]
        omega
      · rw [app_len, app_len]
        omega
    refine ⟨_, rfl, _, _, rfl, rfl, (by show (0 : Int) < 3; decide), rfl, _, rfl, ?_⟩
    refine ite2 (fun _ => ?_) (fun _ => ?_)
    · refine ⟨_, rfl, _, rfl, _, rfl, z, rfl, hzl, _, rfl, _, _, rfl, rfl, sl16 (by omega), _, rfl, _, rfl, _, _, rfl, rfl, _, rfl, z, rfl, hzl, _, _, rfl, rfl, sl16 ?_, q _ ?_⟩
      · rw [app_len]
        omega
      · rw [app_len, app_len]
        omega
    · refine ⟨_, rfl, _, rfl, _, rfl, z, rfl, hzl, _, rfl, _, rfl, _, _, rfl, rfl, _, rfl, z, rfl, hzl, _, _, rfl, rfl, sl16 (by omega), q _ ?_⟩
      rw [app_len]
      omega
end
end K46

/-! _law_rows_spoiled and _law_thing_spoiled. -/
namespace K46
open PySem PySem.Spec PyProof.Rows L2 TL
theorem at_int {α : Type} {xs : List α} (g : α → V) (i : Int) (h0 : 0 ≤ i) (h1 : i < xs.length) : ∃ x, xs[i.toNat]? = some x ∧ atI (xs.map g) i = some (g x) := by
  obtain ⟨k, rfl⟩ := Int.eq_ofNat_of_zero_le h0
  have hk : k < xs.length := by omega
  exact ⟨xs[k], List.getElem?_eq_getElem hk, atI_nat (j := k) (by rw [List.getElem?_map, List.getElem?_eq_getElem hk]; rfl)⟩
theorem ixN_int {n : Nat} (i : Int) (h0 : 0 ≤ i) (h1 : i < n) : ixN n i = some i.toNat := by
  unfold ixN
  rw [if_pos h0, if_pos h1]
theorem wide_insert (ps : List Str) (k : Nat) (p : Str) : wide (ps.take k ++ [p] ++ ps.drop k) = wide ps + (p.length + 1) := by
  have e : wide ps = wide (ps.take k) + wide (ps.drop k) := by rw [← wide_append, List.take_append_drop]
  rw [wide_append, wide_append, wide_cons, wide_nil, e]
  omega
theorem map_ins (ps : List Str) (k : Nat) (p : Str) : (ps.map V.str).take k ++ [V.str p] ++ (ps.map V.str).drop k = (ps.take k ++ [p] ++ ps.drop k).map V.str := by
  rw [List.map_append, List.map_append, List.map_take, List.map_drop]
  rfl
theorem map_era : ∀ (ps : List Str) (k : Nat), (ps.map V.str).eraseIdx k = (ps.eraseIdx k).map V.str
  | [], _ => rfl
  | _ :: _, 0 => rfl
  | p :: ps, k + 1 => by
    show V.str p :: (ps.map V.str).eraseIdx k = V.str p :: (ps.eraseIdx k).map V.str
    rw [map_era ps k]
section
variable {P : Program} {w : World} {K : PySem.W.Frag} {mg : Str → Option Value} {base : Heap} {cA cB cN : Addr}
theorem ok_rowsp {f : Addr} {fd : FuncData} (F : Fun K "_law_rows_spoiled" "_law_rows_spoiled" sRowSp f fd) (T : Txt K mg cA cB cN) : FnOk P w K mg base CX0 1 f fd ["text", "cell"] spRowSp := by
  refine F.ok scRowSp (fun vs H Q E h => ?_) (fun cdv A outer s H vs Q E hr h => ?_)
  · obtain ⟨z, c, rfl, _⟩ := h
    rfl
  · obtain ⟨z, c, rfl, hz, q⟩ := h
    refine ⟨_,
(pss_cons (ps_set (i := 2) scRowSp.nd rfl (.inl rfl) (pe_split (pv 0) pe_str))
      (pss_cons (ps_set (i := 3) scRowSp.nd rfl (.inl rfl) (pe_op op_mod (pe_op op_fdiv (pv 1) pe_int) (pe_callB call_len_seq (by rfl) T.len PySem.boot_len (pa_cons (pv 2) pa_nil))))
      (pss_cons (ps_set (i := 4) scRowSp.nd rfl (.inl rfl) (pe_op op_mod (pe_op op_fdiv (pv 1) pe_int) (pe_callB call_len_seq (by rfl) T.len PySem.boot_len (pa_cons (pv 2) pa_nil))))
      (pss_cons (ps_set (i := 5) scRowSp.nd rfl (.inl rfl) (pe_ix ix_list (pv 2) (pv 3) (fun _ _ => rfl)))
      (C8.pss_cut (ps_if (pt_cmpR op_eq (pe_op op_mod (pv 1) pe_int) pe_int (nomark _)) (pss_one (ps_expr (pe_bm PySem.F.plainAttrs_list PySem.F.slot_list_pop PySem.F.type_list_pop mt_popAt (pv 2) (pa_cons (pv 3) pa_nil)))) pss_nil)
      (C8.pss_cut (ps_if (pt_cmpR op_eq (pe_op op_mod (pv 1) pe_int) pe_int (nomark _)) (pss_one (ps_expr (pe_bm PySem.F.plainAttrs_list PySem.F.slot_list_insert PySem.F.type_list_insert mt_insert (pv 2) (pa_cons (pv 3) (pa_cons (pv 5) pa_nil))))) pss_nil)
      (C8.pss_cut (ps_if (pt_cmpR op_eq (pe_op op_mod (pv 1) pe_int) pe_int (nomark _)) (pss_cons (ps_expr (pe_bm PySem.F.plainAttrs_list PySem.F.slot_list_pop PySem.F.type_list_pop mt_popAt (pv 2) (pa_cons (pv 3) pa_nil)))
      (pss_one (ps_expr (pe_bm PySem.F.plainAttrs_list PySem.F.slot_list_insert PySem.F.type_list_insert mt_insert (pv 2) (pa_cons (pv 4) (pa_cons (pv 5) pa_nil)))))) pss_nil)
      (C8.pss_cut (ps_if (pt_cmpR op_eq (pe_op op_mod (pv 1) pe_int) pe_int (nomark _)) (pss_one (ps_asg (pe_ix ix_list (pv 2) (pv 4) (fun _ _ => rfl)) (pg_sub (pv 2) (pv 3) set_list))) pss_nil)
      (pss_one (ps_ret (pe_join pe_str (pv 2))))))))))))
      , ?_⟩
    refine ⟨_, rfl, ⟨_, rfl⟩, _, _, rfl, rfl, by decide +kernel, sl16 (by omega), fun l nl => ?_⟩
    obtain ⟨hw1, hne⟩ := split_wide (x := z) nl_tl (by decide)
    have el : (upd H l (.lst ((Txt.split z "\n").map V.str))) l = some (.lst ((Txt.split z "\n").map V.str)) := upd_same
    have s1 : Same H (upd H l (.lst ((Txt.split z "\n").map V.str))) := same_new nl
    generalize Txt.split z "\n" = ps at hw1 hne el s1
    generalize upd H l (.lst (ps.map V.str)) = H1 at el s1
    have pl : 0 < ps.length := List.length_pos_iff.mpr hne
    have plw := wide_len ps
    have lm : (ps.map V.str).length = ps.length := List.length_map ..
    have a0 : 0 ≤ c / 4 % (ps.length : Int) := Int.emod_nonneg _ (by omega)
    have a1 : c / 4 % (ps.length : Int) < ps.length := Int.emod_lt_of_pos _ (by omega)
    have b0 : 0 ≤ c / 1009 % (ps.length : Int) := Int.emod_nonneg _ (by omega)
    have b1 : c / 1009 % (ps.length : Int) < ps.length := Int.emod_lt_of_pos _ (by omega)
    obtain ⟨r, hr1, hr2⟩ := at_int V.str _ a0 a1
    obtain ⟨r2, hr3, hr4⟩ := at_int V.str _ b0 b1
    have wr := wide_at hr1
    have wr2 := wide_at hr3
    refine ⟨_, rfl, _, _, rfl, rfl, ⟨by decide, by decide⟩, _, rfl, l, _, rfl, .inl (SqL.of el), _, _, rfl, rfl, (by rw [lm]; omega), ?_⟩
    refine ⟨_, rfl, _, _, rfl, rfl, ⟨by decide, by decide⟩, _, rfl, l, _, rfl, .inl (SqL.of el), _, _, rfl, rfl, (by rw [lm]; omega), ?_⟩
    rw [lm]
    have hl63 : (ps.length : Int) < 2 ^ 63 := by omega
    refine ⟨_, rfl, _, rfl, l, _, _, _, rfl, rfl, SqL.of el, hr2, ?_⟩
    have key : ∃ Wd : Int → L2.St → Hp → Prop, Wd = fun j σ' H' => σ' = [some (V.str z), some (V.int c), some (V.ref l), some (V.int (c / 4 % (ps.length : Int))), some (V.int (c / 1009 % (ps.length : Int))), some (V.str r)] ∧ Same H H' ∧
        ∃ qs : List Str, H' l = some (.lst (qs.map V.str)) ∧ wide qs ≤ 2 * wide ps ∧ (j ≤ c % 4 → qs = ps) := ⟨_, rfl⟩
    obtain ⟨Wd, eW⟩ := key
    have mk : ∀ (j : Int) (H' : Hp) (qs : List Str), Same H H' → H' l = some (.lst (qs.map V.str)) → wide qs ≤ 2 * wide ps → (j ≤ c % 4 → qs = ps) →
        Wd j [some (V.str z), some (V.int c), some (V.ref l), some (V.int (c / 4 % (ps.length : Int))), some (V.int (c / 1009 % (ps.length : Int))), some (V.str r)] H' := by
      intro j H' qs h1 h2 h3 h4
      rw [eW]
      exact ⟨rfl, h1, qs, h2, h3, h4⟩
    have un : ∀ (j : Int) (σ' : L2.St) (H' : Hp), Wd j σ' H' → σ' = [some (V.str z), some (V.int c), some (V.ref l), some (V.int (c / 4 % (ps.length : Int))), some (V.int (c / 1009 % (ps.length : Int))), some (V.str r)] ∧ Same H H' ∧
        ∃ qs : List Str, H' l = some (.lst (qs.map V.str)) ∧ wide qs ≤ 2 * wide ps ∧ (j ≤ c % 4 → qs = ps) := by
      intro j σ' H' h
      rw [eW] at h
      exact h
    have c4 : 0 ≤ c % 4 ∧ c % 4 < 4 := ⟨Int.emod_nonneg _ (by decide), Int.emod_lt_of_pos _ (by decide)⟩
    refine ⟨Wd 1, ?_, ?_⟩
    · refine ⟨_, rfl, _, _, rfl, rfl, (by show (0 : Int) < 4; decide), rfl, _, rfl, ?_⟩
      refine ite2 (fun h => ?_) (fun h => ?_)
      · have h := dd_int h
        refine ⟨_, rfl, .inl ⟨rfl, _, SqL.of el⟩, _, rfl, l, _, _, (c / 4 % (ps.length : Int)).toNat, V.str r, rfl, rfl, el, by omega, by omega, seqIndex_of a0 (by rw [lm]; exact a1), by rw [List.getElem?_map, hr1]; rfl, ?_⟩
        refine mk 1 _ (ps.eraseIdx (c / 4 % (ps.length : Int)).toNat) (same_set s1 nl) (by rw [upd_same, map_era]) (by have := wide_erase ps (c / 4 % (ps.length : Int)).toNat; omega) (fun y => ?_)
        have h : c % 4 = 0 := h
        omega
      · exact mk 1 _ ps s1 el (by omega) fun _ => rfl
    rintro σ2 H2 hW
    obtain ⟨rfl, s2, qs, eq, wq, hq⟩ := un _ _ _ hW
    refine ⟨Wd 2, ?_, ?_⟩
    · refine ⟨_, rfl, _, _, rfl, rfl, (by show (0 : Int) < 4; decide), rfl, _, rfl, ?_⟩
      refine ite2 (fun h => ?_) (fun h => ?_)
      · have h : c % 4 = 1 := dd_int h
        have e := hq (by omega)
        subst e
        refine ⟨_, rfl, .inl ⟨rfl, _, SqL.of eq⟩, _, rfl, _, rfl, l, _, _, _, rfl, rfl, eq, sl_lt (by rw [lm]; omega), a0, by omega, ?_⟩
        refine mk 2 _ (qs.take (c / 4 % (qs.length : Int)).toNat ++ [r] ++ qs.drop (c / 4 % (qs.length : Int)).toNat) (same_set s2 nl) (by rw [upd_same, map_ins]) (by rw [wide_insert]; omega) (fun y => by omega)
      · have h : ¬ c % 4 = 1 := fun y => h (decide_eq_true (congrArg V.int y))
        exact mk 2 _ qs s2 eq wq fun y => hq (by omega)
    rintro σ3 H3 hW
    obtain ⟨rfl, s3, qs, eq, wq, hq⟩ := un _ _ _ hW
    refine ⟨Wd 3, ?_, ?_⟩
    · refine ⟨_, rfl, _, _, rfl, rfl, (by show (0 : Int) < 4; decide), rfl, _, rfl, ?_⟩
      refine ite2 (fun h => ?_) (fun h => ?_)
      · have h : c % 4 = 2 := dd_int h
        have e := hq (by omega)
        subst e
        refine ⟨_, rfl, .inl ⟨rfl, _, SqL.of eq⟩, _, rfl, l, _, _, (c / 4 % (qs.length : Int)).toNat, V.str r, rfl, rfl, eq, by omega, by omega, seqIndex_of a0 (by rw [lm]; exact a1), by rw [List.getElem?_map, hr1]; rfl, ?_⟩
        have el3 : (upd H3 l (.lst ((qs.map V.str).eraseIdx (c / 4 % (qs.length : Int)).toNat))) l = some (.lst ((qs.eraseIdx (c / 4 % (qs.length : Int)).toNat).map V.str)) := by rw [upd_same, map_era]
        have we := wide_erase_at hr1
        have le := wide_len (qs.eraseIdx (c / 4 % (qs.length : Int)).toNat)
        refine ⟨_, rfl, .inl ⟨rfl, _, SqL.of el3⟩, _, rfl, _, rfl, l, _, _, _, rfl, rfl, el3, sl_lt (by rw [List.length_map]; omega), b0, by omega, ?_⟩
        refine mk 3 _ ((qs.eraseIdx (c / 4 % (qs.length : Int)).toNat).take (c / 1009 % (qs.length : Int)).toNat ++ [r] ++ (qs.eraseIdx (c / 4 % (qs.length : Int)).toNat).drop (c / 1009 % (qs.length : Int)).toNat)
          (same_set (same_set s3 nl) nl) (by rw [upd_same, map_ins]) (by rw [wide_insert]; omega) (fun y => by omega)
      · have h : ¬ c % 4 = 2 := fun y => h (decide_eq_true (congrArg V.int y))
        exact mk 3 _ qs s3 eq wq fun y => hq (by omega)
    rintro σ4 H4 hW
    obtain ⟨rfl, s4, qs, eq, wq, hq⟩ := un _ _ _ hW
    refine ⟨Wd 4, ?_, ?_⟩
    · refine ⟨_, rfl, _, _, rfl, rfl, (by show (0 : Int) < 4; decide), rfl, _, rfl, ?_⟩
      refine ite2 (fun h => ?_) (fun h => ?_)
      · have h : c % 4 = 3 := dd_int h
        have e := hq (by omega)
        subst e
        refine ⟨_, rfl, _, rfl, l, _, _, _, rfl, rfl, SqL.of eq, hr4, _, rfl, _, rfl, l, _, _, _, rfl, rfl, eq, ixN_int _ a0 (by rw [lm]; exact a1), ?_⟩
        have ws := wide_set qs (c / 4 % (qs.length : Int)).toNat r2
        refine mk 4 _ (qs.set (c / 4 % (qs.length : Int)).toNat r2) (same_set s4 nl) (by rw [upd_same, List.map_set]) (by omega) (fun y => by omega)
      · have h : ¬ c % 4 = 3 := fun y => h (decide_eq_true (congrArg V.int y))
        exact mk 4 _ qs s4 eq wq fun y => hq (by omega)
    rintro σ5 H5 hW
    obtain ⟨rfl, s5, qs, eq, wq, hq⟩ := un _ _ _ hW
    have l1 : ("\n" : Str).length = 1 := by decide +kernel
    refine ⟨⟨_, rfl⟩, _, rfl, _, l, qs, rfl, rfl, .inl (SqL.of eq), ?_, q _ _ s5 ?_⟩
    · rw [l1, wide_sum]
      omega
    · have := join_wide_le (y := ("\n" : Str)) nl_tl qs
      omega
end
end K46

/-! _law_thing_spoiled. -/
namespace K46
open PySem PySem.Spec PyProof.Rows L2 TL
def odds : List Str := ["0", "7", "00", "01", "+1", "1_0", "1000000000", "1000000001", "9999999999", "10000000000", "-1", "", "6"]
theorem odds_len : ∀ p ∈ odds, p.length ≤ 11 := by decide +kernel
section
variable {P : Program} {w : World} {K : PySem.W.Frag} {mg : Str → Option Value} {base : Heap} {cA cB cN : Addr}
theorem ok_thing {f : Addr} {fd : FuncData} (F : Fun K "_law_thing_spoiled" "_law_thing_spoiled" sThing f fd) (T : Txt K mg cA cB cN) : FnOk P w K mg base CX0 1 f fd ["text", "cell"] spRowSp := by
  refine F.ok scThing (fun vs H Q E h => ?_) (fun cdv A outer s H vs Q E hr h => ?_)
  · obtain ⟨z, c, rfl, _⟩ := h
    rfl
  · obtain ⟨z, c, rfl, hz, q⟩ := h
    refine ⟨_,
(pss_cons (ps_set (i := 2) scThing.nd rfl (.inl rfl) (pe_lst (pa_cons pe_str (pa_cons pe_str (pa_cons pe_str (pa_cons pe_str (pa_cons pe_str (pa_cons pe_str (pa_cons pe_str (pa_cons pe_str (pa_cons pe_str (pa_cons pe_str (pa_cons pe_str (pa_cons pe_str (pa_cons pe_str pa_nil)))))))))))))))
      (pss_cons (ps_set (i := 3) scThing.nd rfl (.inl rfl) (pe_split (pv 0) pe_str))
      (pss_cons (ps_set (i := 4) scThing.nd rfl (.inl rfl) (pe_op op_mod (pe_op op_fdiv (pv 1) pe_int) (pe_callB call_len_seq (by rfl) T.len PySem.boot_len (pa_cons (pv 3) pa_nil))))
      (C8.pss_cut (ps_if (pt_cmpR op_eq (pe_op op_mod (pe_op op_fdiv (pv 1) pe_int) pe_int) pe_int (nomark _)) (pss_one (ps_set (i := 4) scThing.nd rfl (.inl rfl) pe_int)) pss_nil)
      (pss_cons (ps_set (i := 5) scThing.nd rfl (.inl rfl) (pe_split (pe_ix ix_list (pv 3) (pv 4) (fun _ _ => rfl)) pe_str))
      (pss_cons (ps_asg (pe_ix ix_list (pv 2) (pe_op op_mod (pv 1) (pe_callB call_len_seq (by rfl) T.len PySem.boot_len (pa_cons (pv 2) pa_nil))) (fun _ _ => rfl)) (pg_sub (pv 5) (pe_op op_mod (pe_op op_fdiv (pv 1) pe_int) (pe_callB call_len_seq (by rfl) T.len PySem.boot_len (pa_cons (pv 5) pa_nil))) set_list))
      (pss_cons (ps_asg (pe_join pe_str (pv 5)) (pg_sub (pv 3) (pv 4) set_list))
      (pss_one (ps_ret (pe_join pe_str (pv 3)))))))))))
      , ?_⟩
    refine ⟨by show 13 ≤ sizeLine; decide, fun lo nlo => ?_⟩
    have eo : (upd H lo (.lst [V.str "0", V.str "7", V.str "00", V.str "01", V.str "+1", V.str "1_0", V.str "1000000000", V.str "1000000001", V.str "9999999999", V.str "10000000000", V.str "-1", V.str "", V.str "6"])) lo = some (.lst (odds.map V.str)) := upd_same
    have so : Same H (upd H lo (.lst [V.str "0", V.str "7", V.str "00", V.str "01", V.str "+1", V.str "1_0", V.str "1000000000", V.str "1000000001", V.str "9999999999", V.str "10000000000", V.str "-1", V.str "", V.str "6"])) := same_new nlo
    generalize upd H lo (.lst [V.str "0", V.str "7", V.str "00", V.str "01", V.str "+1", V.str "1_0", V.str "1000000000", V.str "1000000001", V.str "9999999999", V.str "10000000000", V.str "-1", V.str "", V.str "6"]) = H0 at eo so
    refine ⟨_, rfl, ⟨_, rfl⟩, _, _, rfl, rfl, by decide +kernel, sl16 (by omega), fun l nl => ?_⟩
    obtain ⟨hw1, hne⟩ := split_wide (x := z) nl_tl (by decide)
    have nl0 : H l = none := so.free nl
    have el : (upd H0 l (.lst ((Txt.split z "\n").map V.str))) l = some (.lst ((Txt.split z "\n").map V.str)) := upd_same
    have s1 : Same H0 (upd H0 l (.lst ((Txt.split z "\n").map V.str))) := same_new nl
    have eo1 := s1 _ _ eo
    have s01 := so.trans s1
    generalize Txt.split z "\n" = ps at hw1 hne el s1 eo1 s01
    generalize upd H0 l (.lst (ps.map V.str)) = H1 at el s1 eo1 s01
    have pl : 0 < ps.length := List.length_pos_iff.mpr hne
    have plw := wide_len ps
    have lm : (ps.map V.str).length = ps.length := List.length_map ..
    have a0 : 0 ≤ c / 13 % (ps.length : Int) := Int.emod_nonneg _ (by omega)
    have a1 : c / 13 % (ps.length : Int) < ps.length := Int.emod_lt_of_pos _ (by omega)
    refine ⟨_, rfl, _, _, rfl, rfl, ⟨by decide, by decide⟩, _, rfl, l, _, rfl, .inl (SqL.of el), _, _, rfl, rfl, (by rw [lm]; omega), ?_⟩
    rw [lm]
    refine ⟨fun σ' H' => H' = H1 ∧ ∃ k : Int, 0 ≤ k ∧ k < ps.length ∧ σ' = [some (V.str z), some (V.int c), some (V.ref lo), some (V.ref l), some (V.int k), none], ?_, ?_⟩
    · refine ⟨_, rfl, _, _, rfl, rfl, ⟨by decide, by decide⟩, _, _, rfl, rfl, (by show (0 : Int) < 3; decide), rfl, _, rfl, ?_⟩
      refine ite2 (fun h => ?_) (fun h => ?_)
      · exact ⟨rfl, 0, by omega, by omega, rfl⟩
      · exact ⟨rfl, _, a0, a1, rfl⟩
    rintro σ2 H2 ⟨rfl, k, k0, k1, rfl⟩
    obtain ⟨r, hr1, hr2⟩ := at_int V.str k k0 k1
    have wr := wide_at hr1
    refine ⟨_, rfl, _, rfl, l, _, _, _, rfl, rfl, SqL.of el, hr2, ⟨_, rfl⟩, _, _, rfl, rfl, by decide +kernel, sl16 (by omega), fun lt nlt => ?_⟩
    obtain ⟨jr, ner, wt⟩ := split_row r
    have et : (upd H2 lt (.lst ((Txt.split r " ").map V.str))) lt = some (.lst ((Txt.split r " ").map V.str)) := upd_same
    have s2 : Same H2 (upd H2 lt (.lst ((Txt.split r " ").map V.str))) := same_new nlt
    have eo2 := s2 _ _ eo1
    have el2 := s2 _ _ el
    have nlt0 : H lt = none := s01.free nlt
    have nltl : lt ≠ l := (ne_of_none el nlt).symm
    generalize Txt.split r " " = ts at jr ner wt et s2 eo2 el2
    generalize upd H2 lt (.lst (ts.map V.str)) = H3 at et s2 eo2 el2
    have lod : (odds.map V.str).length = 13 := rfl
    have tl0 : 0 < ts.length := List.length_pos_iff.mpr ner
    have tlw := wide_len ts
    have ltm : (ts.map V.str).length = ts.length := List.length_map ..
    obtain ⟨g, hg1, hg2⟩ := at_int (xs := odds) V.str (c % ((odds.map V.str).length : Int)) (Int.emod_nonneg _ (by rw [lod]; decide)) (by
      rw [lod]
      exact Int.emod_lt_of_pos _ (by decide))
    have gl := odds_len g (List.mem_of_getElem? hg1)
    have b0 : 0 ≤ c / 1009 % ((ts.map V.str).length : Int) := Int.emod_nonneg _ (by omega)
    have b1 : c / 1009 % ((ts.map V.str).length : Int) < ((ts.map V.str).length : Int) := Int.emod_lt_of_pos _ (by omega)
    refine ⟨_, rfl, _, rfl, _, rfl, lo, _, rfl, .inl (SqL.of eo2), _, _, rfl, rfl, (by rw [lod]; show (0 : Int) < 13; decide), lo, _, _, _, rfl, rfl, SqL.of eo2, hg2, ?_⟩
    refine ⟨_, rfl, _, rfl, _, _, rfl, rfl, ⟨by decide, by decide⟩, _, rfl, lt, _, rfl, .inl (SqL.of et), _, _, rfl, rfl, (by show (0 : Int) < ((ts.map V.str).length : Int); omega), lt, _, _, _, rfl, rfl, et, ixN_int _ b0 b1, ?_⟩
    have ws := wide_set ts (c / 1009 % ((ts.map V.str).length : Int)).toNat g
    have et4 : (upd H3 lt (.lst ((ts.map V.str).set (c / 1009 % ((ts.map V.str).length : Int)).toNat (V.str g)))) lt = some (.lst ((ts.set (c / 1009 % ((ts.map V.str).length : Int)).toNat g).map V.str)) := by rw [upd_same, List.map_set]
    have el4 : (upd H3 lt (.lst ((ts.map V.str).set (c / 1009 % ((ts.map V.str).length : Int)).toNat (V.str g)))) l = some (.lst (ps.map V.str)) := by rw [upd_ne nltl.symm]; exact el2
    have s4 : Same H (upd H3 lt (.lst ((ts.map V.str).set (c / 1009 % ((ts.map V.str).length : Int)).toNat (V.str g)))) := same_set (s01.trans s2) nlt0
    generalize upd H3 lt (.lst ((ts.map V.str).set (c / 1009 % ((ts.map V.str).length : Int)).toNat (V.str g))) = H4 at et4 el4 s4
    generalize ts.set (c / 1009 % ((ts.map V.str).length : Int)).toNat g = us at ws et4
    have l1 : (" " : Str).length = 1 := by decide +kernel
    have l2 : ("\n" : Str).length = 1 := by decide +kernel
    have j1 := join_wide_le (y := (" " : Str)) sp_tl us
    refine ⟨⟨_, rfl⟩, _, rfl, _, lt, us, rfl, rfl, .inl (SqL.of et4), ?_, _, rfl, _, rfl, l, _, _, _, rfl, rfl, el4, ixN_int _ k0 (by rw [lm]; exact k1), ?_⟩
    · rw [l1, wide_sum]
      omega
    have ws2 := wide_set ps k.toNat (Txt.join " " us)
    have el5 : (upd H4 l (.lst ((ps.map V.str).set k.toNat (V.str (Txt.join " " us))))) l = some (.lst ((ps.set k.toNat (Txt.join " " us)).map V.str)) := by rw [upd_same, List.map_set]
    have j2 := join_wide_le (y := ("\n" : Str)) nl_tl (ps.set k.toNat (Txt.join " " us))
    refine ⟨⟨_, rfl⟩, _, rfl, _, l, _, rfl, rfl, .inl (SqL.of el5), ?_, q _ _ (same_set s4 nl0) (by omega)⟩
    rw [l2, wide_sum]
    omega
end
end K46

/-! _law_read. -/
namespace K46
open PySem PySem.Spec PyProof.Rows L2 TL
/-- isinstance of the caught error, its class and dict told by the reading -/
theorem call_isE2 {X : Cx} {a : Addr} {oe : Obj} {cls : Value} {d : Option Addr} {pn : List (Addr × Obj)} (hz : Zc cls d oe) (hf : ∃ vs, oe.data = .fields vs) :
    CallR (X.suite a ((a, oe) :: pn)) (.builtin "isinstance") (fun xs H Q => ∃ D : Addr, cls = .ref D ∧ d = none ∧ ExcC X.K D ∧ rIsE X.K D a xs H Q) := by
  intro pins s σ H xs us Q I r h
  obtain ⟨D, rfl, rfl, C, h⟩ := h
  exact call_isE C hz hf pins s σ H xs us Q I r h
section
variable {P : Program} {w : World} {K : PySem.W.Frag} {mg : Str → Option Value} {base : Heap} {cA cB cN : Addr}
theorem ok_read {f f1 f2 fM fH fW fS fX : Addr} {fd fd1 fd2 fdM fdH fdW fdS fdX : FuncData} (F : Fun K "_law_read" "_law_read" sRead f fd) (T : Txt K mg cA cB cN)
    (F1 : Fun K "read_number" "read_number" sNum f1 fd1) (b1 : Binds K fd1 ["figures"] []) (g1 : mg "read_number" = some (.ref f1))
    (F2 : Fun K "read_rows" "read_rows" sRows f2 fd2) (b2 : Binds K fd2 ["text", "head"] []) (g2 : mg "read_rows" = some (.ref f2))
    (FM : Fun K "made" "made" sMade fM fdM) (bM : Binds K fdM ["letters", "marks", "ways"] []) (gM : mg "made" = some (.ref fM))
    (FH : Fun K "read_house" "read_house" sHouse fH fdH) (bH : Binds K fdH ["text"] []) (gH : mg "read_house" = some (.ref fH))
    (FW : Fun K "_law_whole" "_law_whole" sWhole fW fdW) (bW : Binds K fdW ["found"] []) (gW : mg "_law_whole" = some (.ref fW))
    (FS : Fun K "_law_sound" "_law_sound" sSound fS fdS) (bS : Binds K fdS ["found"] []) (gS : mg "_law_sound" = some (.ref fS))
    (FX : Fun K "_law_house_text" "_law_house_text" sText fX fdX) (bX : Binds K fdX ["house"] []) (gX : mg "_law_house_text" = some (.ref fX)) :
    FnOk P w K mg base CX0 4 f fd ["text"] spRead := by
  have GH : FnOk P w K mg base (L2.CX P w) 3 fH fdH ["text"] (spHouse cN) := ok_house FH T F1 b1 g1 F2 b2 g2 FM bM gM
  have GS : FnOk P w K mg base CX0 2 fS fdS ["found"] spSound := ok_sound FS T FW bW gW
  have GX : FnOk P w K mg base CX0 1 fX fdX ["house"] spText := ok_text FX T
  refine F.ok scRead (fun vs H Q E h => ?_) (fun cdv A outer s H vs Q E hr h => ?_)
  · obtain ⟨z, rfl, _⟩ := h
    rfl
  · obtain ⟨z, rfl, hz, q⟩ := h
    have hr3 : Room 3 _ := hr
    have hr2 : Room 2 _ := hr.mono (by decide)
    have hr1 : Room 1 _ := hr.mono (by decide)
    refine ⟨_,
(pss_cons (ps_set (i := 1) scRead.nd rfl (.inl rfl) (pe_lst pa_nil))
      (pss_cons (ps_set (i := 2) scRead.nd rfl (.inl rfl) pe_non)
      (pss_cons (ps_try_as (i := 3) (Wout := fun _ _ _ _ => False) rfl rfl scRead.nd rfl rfl ⟨rfl, by decide, .inl T.gA⟩ takes0
        (fun W pn xe tk _ => (pss_one (ps_set (i := 2) scRead.nd rfl (.inl rfl) (pe_callS GH hr3 (by rfl) gH FH.kp bH (fun σ => passAt tk σ) (pa_cons (pv 0) pa_nil)))))
        (fun a oe cls d pn hz hf => (pss_one (ps_set (i := 1) scRead.nd rfl (.inl rfl) (pe_lst (pa_cons (pe_callB (call_isE2 hz hf) (by rfl) T.isi (by decide +kernel) (pa_cons (pv 3) (pa_cons (pe_glob (v := .ref cN) rfl T.gN rfl) pa_nil))) (pa_cons (pe_callB (call_isE2 hz hf) (by rfl) T.isi (by decide +kernel) (pa_cons (pv 3) (pa_cons (pe_bltn (v := .ty "ValueError") (by rfl) T.vale (by decide +kernel) rfl) pa_nil))) (pa_cons (pe_callB (call_isE2 hz hf) (by rfl) T.isi (by decide +kernel) (pa_cons (pv 3) (pa_cons (pe_glob (v := .ref cB) rfl T.gB rfl) pa_nil))) pa_nil))))))))
      (pss_cons (ps_if (pt_cmpR op_isN (pv 2) pe_non (nomark _)) (pss_one (ps_ret (pe_cmpR (op_eqD hr3.units) (pv 1) (pe_lst (pa_cons pe_bl (pa_cons pe_bl (pa_cons pe_bl pa_nil)))) (nomark _)))) pss_nil)
      (pss_one (ps_ret (pe_and (pe_call GS hr2 (by rfl) gS FS.kp bS .nil pass0 (pa_cons (pv 2) pa_nil)) (pe_one (pe_cmpR op_eq (pe_call GX hr1 (by rfl) gX FX.kp bX .nil pass0 (pa_cons (pv 2) pa_nil)) (pv 0) (nomark _))))))))))
      , ?_⟩
    refine ⟨Nat.zero_le _, fun ls nls => ?_⟩
    refine ⟨_, rfl, z, rfl, hz, fun H' p n rs hh snd htl => ?_, fun H' => ⟨true, T.eNA, fun _ a na => ?_, fun y => Bool.noConfusion y⟩⟩
    ·
      refine ⟨_, rfl, rfl, _, rfl, ?_⟩
      refine iteND (fun y => by cases y) ?_
      refine ⟨_, rfl, p, n, rs, rfl, hh, snd, true, rfl, ?_⟩
      refine iteT ⟨_, rfl, p, n, rs, rfl, hh, snd, fun z' hz' _ => ⟨_, rfl, rfl, ?_⟩⟩
      have e : z' = z := ext_tl (hz'.trans htl.symm)
      rw [e, decide_eq_true rfl]
      exact q _
    ·
      refine ⟨_, rfl, cN, rfl, rfl, T.exN, .ref cN, .ref cN, true, rfl, fun u r => r, T.kNN, ?_⟩
      refine ⟨_, rfl, cN, rfl, rfl, T.exN, .ty "ValueError", .type "ValueError", true, rfl, fun u r => r, T.kNV, ?_⟩
      refine ⟨_, rfl, cN, rfl, rfl, T.exN, .ref cB, .ref cB, false, rfl, fun u r => r, T.kNB, by show 3 ≤ sizeLine; decide, fun l nl => ?_⟩
      refine ⟨_, rfl, rfl, _, rfl, ?_⟩
      refine ite2 (fun _ => ?_) (fun y => absurd (decide_eq_true rfl) y)
      refine ⟨_, rfl, by show 3 ≤ sizeLine; decide, fun l2 nl2 => ?_⟩
      have nll : l ≠ l2 := fun y => by rw [← y, upd_same] at nl2; cases nl2
      have dp : ∀ (H2 : Hp) (x : Addr), H2 x = some (.lst [.bl true, .bl true, .bl false]) → Dp K H2 (.ref x) (.list [.bool true, .bool true, .bool false]) := fun H2 x hx =>
        .lst (SqL.of hx) (.cons (.bl true) (.cons (.bl true) (.cons (.bl false) .nil)))
      refine ⟨_, _, dp _ l (by rw [upd_ne nll, upd_same]), dp _ l2 upd_same, by decide +kernel, by decide +kernel, ?_⟩
      have e : PyData.eqv (.list [.bool true, .bool true, .bool false]) (.list [.bool true, .bool true, .bool false]) = true := by decide +kernel
      rw [e]
      exact q _
end
end K46

/-! law. -/
namespace K46
open PySem PySem.Spec PyProof.Rows L2 TL
section
variable {P : Program} {w : World} {K : PySem.W.Frag} {mg : Str → Option Value} {base : Heap} {cA cB cN : Addr}
theorem ok_law {f fC fX fB fR fT fP fE : Addr} {fd fdC fdX fdB fdR fdT fdP fdE : FuncData} (F : Fun K "law" "law" sLaw f fd) (T : Txt K mg cA cB cN)
    (FC : Fun K "_law_cell_at" "_law_cell_at" sCell fC fdC) (bC : Binds K fdC ["script", "k"] []) (gC : mg "_law_cell_at" = some (.ref fC)) (GC : FnOk P w K mg base CX0 1 fC fdC ["script", "k"] (spCell K))
    (FX : Fun K "_law_house_text" "_law_house_text" sText fX fdX) (bX : Binds K fdX ["house"] []) (gX : mg "_law_house_text" = some (.ref fX)) (GX : FnOk P w K mg base CX0 1 fX fdX ["house"] spText)
    (FB : Fun K "_law_house_by" "_law_house_by" sBy fB fdB) (bB : Binds K fdB ["flow", "letters", "cell"] []) (gB : mg "_law_house_by" = some (.ref fB)) (GB : FnOk P w K mg base CX0 2 fB fdB ["flow", "letters", "cell"] (spBy K))
    (FR : Fun K "_law_rows_spoiled" "_law_rows_spoiled" sRowSp fR fdR) (bR : Binds K fdR ["text", "cell"] []) (gR : mg "_law_rows_spoiled" = some (.ref fR)) (GR : FnOk P w K mg base CX0 1 fR fdR ["text", "cell"] spRowSp)
    (FT : Fun K "_law_thing_spoiled" "_law_thing_spoiled" sThing fT fdT) (bT : Binds K fdT ["text", "cell"] []) (gT : mg "_law_thing_spoiled" = some (.ref fT)) (GT : FnOk P w K mg base CX0 1 fT fdT ["text", "cell"] spRowSp)
    (FP : Fun K "_law_spoiled" "_law_spoiled" sSpoil fP fdP) (bP : Binds K fdP ["text", "cell", "often"] []) (gP : mg "_law_spoiled" = some (.ref fP)) (GP : FnOk P w K mg base CX0 2 fP fdP ["text", "cell", "often"] spSpoil)
    (FE : Fun K "_law_read" "_law_read" sRead fE fdE) (bE : Binds K fdE ["text"] []) (gE : mg "_law_read" = some (.ref fE)) (GE : FnOk P w K mg base CX0 4 fE fdE ["text"] spRead) :
    FnOk P w K mg base CX0 5 f fd ["script"] (spLaw K) := by
  refine F.ok scLaw (fun vs H Q E h => ?_) (fun cdv A outer s H vs Q E hr h => ?_)
  · obtain ⟨a, ns, rfl, _⟩ := h
    rfl
  · obtain ⟨a, ns, rfl, hS, hl, q⟩ := h
    have hr4 : Room 4 _ := hr
    have hr2 : Room 2 _ := hr.mono (by decide)
    have hr1 : Room 1 _ := hr.mono (by decide)
    refine ⟨_,
(C8.pss_cut (ps_set (i := 1) scLaw.nd rfl (.inl rfl) (pe_op op_add pe_int (pe_op op_mod (pe_call GC hr1 (by rfl) gC FC.kp bC .nil pass0 (pa_cons (pv 0) (pa_cons pe_int pa_nil))) pe_int)))
      (pss_cons (ps_set (i := 2) scLaw.nd rfl (.inl rfl) (pe_call GX hr1 (by rfl) gX FX.kp bX .nil pass0 (pa_cons (pe_call GB hr2 (by rfl) gB FB.kp bB .nil pass0 (pa_cons (pe_slice sl_list (pv 0) (po_some pe_int) po_none) (pa_cons (pv 1) (pa_cons (pe_call GC hr1 (by rfl) gC FC.kp bC .nil pass0 (pa_cons (pv 0) (pa_cons pe_int pa_nil))) pa_nil)))) pa_nil)))
      (pss_cons (ps_for PassesOwn.never rfl (pi_range1 rfl T.range (pa_cons (pe_op op_add pe_int (pe_op op_mod (pe_op op_fdiv (pe_call GC hr1 (by rfl) gC FC.kp bC .nil pass0 (pa_cons (pv 0) (pa_cons pe_int pa_nil))) pe_int) pe_int)) pa_nil)) (pg_name (i := 3) scLaw.nd rfl (.inl rfl)) (pss_cons (ps_set (i := 4) scLaw.nd rfl (.inl rfl) (pe_op op_mod (pe_op op_mul (pe_op op_mod (pe_call GC hr1 (by rfl) gC FC.kp bC .nil pass0 (pa_cons (pv 0) (pa_cons (pe_op op_add pe_int (pv 3)) pa_nil))) pe_int) pe_int) pe_int))
      (pss_one (ps_if (pt_cmpR op_eq (pe_op op_mod (pv 4) pe_int) pe_int (nomark _)) (pss_one (ps_set (i := 2) scLaw.nd rfl (.inl rfl) (pe_call GR hr1 (by rfl) gR FR.kp bR .nil pass0 (pa_cons (pv 2) (pa_cons (pe_op op_fdiv (pv 4) pe_int) pa_nil))))) (pss_one (ps_if (pt_cmpR op_eq (pe_op op_mod (pv 4) pe_int) pe_int (nomark _)) (pss_one (ps_set (i := 2) scLaw.nd rfl (.inl rfl) (pe_call GT hr1 (by rfl) gT FT.kp bT .nil pass0 (pa_cons (pv 2) (pa_cons (pe_op op_fdiv (pv 4) pe_int) pa_nil))))) (pss_one (ps_set (i := 2) scLaw.nd rfl (.inl rfl) (pe_call GP hr2 (by rfl) gP FP.kp bP .nil pass0 (pa_cons (pv 2) (pa_cons (pe_op op_fdiv (pv 4) pe_int) (pa_cons pe_str pa_nil))))))))))))
      (pss_one (ps_ret (pe_call GE hr4 (by rfl) gE FE.kp bE .nil pass0 (pa_cons (pv 2) pa_nil)))))))
      , ?_⟩
    refine ⟨fun σ' H' => H' = H ∧ ∃ n : Nat, 1 ≤ n ∧ n ≤ 6 ∧ σ' = [some (V.ref a), some (VN n), none, none, none], ?_, ?_⟩
    · refine ⟨_, rfl, a, ns, 0, rfl, hS, hl, by decide, fun v => ⟨_, _, rfl, rfl, (by show (0 : Int) < 6; decide), _, _, rfl, rfl, rfl, ?_⟩⟩
      refine ⟨(1 + v % 6).toNat, by omega, by omega, ?_⟩
      have e : 1 + v % 6 = (((1 + v % 6).toNat : Nat) : Int) := by omega
      exact congrArg (fun x : Int => [some (V.ref a), some (V.int x), none, none, none]) e
    rintro σ' H' ⟨rfl, n, n1, n6, rfl⟩
    refine ⟨_, rfl, 2, rfl, a, _, rfl, hS, fun pf npf => ?_⟩
    rw [cut_two, ← List.map_drop]
    have sf : Same H' (upd H' pf (.lst ((ns.drop 2).map V.int))) := same_new npf
    refine ⟨_, rfl, _, rfl, a, ns, 1, rfl, sf.seq hS, hl, by decide, fun v1 => ?_⟩
    refine ⟨pf, ns.drop 2, n, v1, rfl, SqL.of upd_same, by rw [List.length_drop]; omega, n1, n6, fun H1 p rs s1 hh snd => ?_⟩
    refine ⟨p, n, rs, rfl, hh, snd, fun z hz hzl => ?_⟩
    have hS1 : SqL K H1 a (ns.map V.int) := s1.seq (sf.seq hS)
    refine ⟨_, rfl, a, ns, 0, rfl, hS1, hl, by decide, fun v2 => ⟨_, _, rfl, rfl, ⟨by decide, by decide⟩, _, _, rfl, rfl, (by show (0 : Int) < 3; decide), _, _, rfl, rfl, _, rfl, by omega, by omega, ?_⟩⟩
    refine for_range (lo := 0) (n := (1 + v2 / 6 % 3).toNat) (fun i σ H2 => SqL K H2 a (ns.map V.int) ∧ ∃ z v3 v4, σ = [some (V.ref a), some (VN n), some (V.str z), v3, v4] ∧ z.length + 100 ≤ 4100 * 2 ^ i)
      ⟨hS1, z, none, none, rfl, by rw [Nat.pow_zero]; omega⟩ ?_ ?_
    · rintro i σ H2 hi ⟨hS2, z2, v3, v4, rfl, hz2⟩
      have e : (2 : Nat) ^ i ≤ 2 ^ 2 := Nat.pow_le_pow_right (by decide) (by omega)
      have e4 : (2 : Nat) ^ 2 = 4 := rfl
      have es : (2 : Nat) ^ (i + 1) = 2 ^ i * 2 := Nat.pow_succ ..
      have lc : 0 < (" \n0123456789housermo_+-" : Str).length ∧ (" \n0123456789housermo_+-" : Str).length ≤ 1000 := by decide +kernel
      have hz3 : z2.length ≤ 100000 := by omega
      refine ⟨_, rfl, _, rfl, _, _, rfl, rfl, a, ns, 2 + (0 + (i : Int)), rfl, hS2, hl, by omega, fun v => ?_⟩
      refine ⟨_, _, rfl, rfl, (by show (0 : Int) < 1000000007; decide), _, _, rfl, rfl, .inr ⟨by decide, by decide⟩, _, _, rfl, rfl, (by show (0 : Int) < 2147483647; decide), ?_⟩
      refine ⟨_, rfl, _, _, rfl, rfl, (by show (0 : Int) < 4; decide), rfl, _, rfl, ?_⟩
      refine ite2 (fun _ => ?_) (fun _ => ?_)
      · refine ⟨_, rfl, _, rfl, _, _, rfl, rfl, ⟨by decide, by decide⟩, z2, _, rfl, hz3, fun H3 z3 s3 hl3 => ?_⟩
        exact ⟨s3.seq hS2, z3, _, _, rfl, by omega⟩
      refine ⟨_, rfl, _, _, rfl, rfl, (by show (0 : Int) < 4; decide), rfl, _, rfl, ?_⟩
      refine ite2 (fun _ => ?_) (fun _ => ?_)
      · refine ⟨_, rfl, _, rfl, _, _, rfl, rfl, ⟨by decide, by decide⟩, z2, _, rfl, hz3, fun H3 z3 s3 hl3 => ?_⟩
        exact ⟨s3.seq hS2, z3, _, _, rfl, by omega⟩
      · refine ⟨_, rfl, _, rfl, _, _, rfl, rfl, ⟨by decide, by decide⟩, z2, _, _, rfl, hz3, lc.1, lc.2, fun z3 hl3 => ?_⟩
        exact ⟨hS2, z3, _, _, rfl, by omega⟩
    · rintro σ H2 ⟨hS2, z2, v3, v4, rfl, hz2⟩
      have e : (2 : Nat) ^ (1 + v2 / 6 % 3).toNat ≤ 2 ^ 3 := Nat.pow_le_pow_right (by decide) (by omega)
      have e8 : (2 : Nat) ^ 3 = 8 := rfl
      exact ⟨_, rfl, z2, rfl, by omega, q⟩
end
end K46

/-! What the top has left; the end. -/
namespace K46
open PySem PySem.Spec PyProof.Rows L2 TL
theorem kit_own {K : PySem.W.Frag} {C : Addr} {t : Value} {b : Bool} (hd : PySem.W.hasDictIn K C = true) (ht : PySem.W.typeIn K (.ref C) = some (.type "type")) (ne : t ≠ .ref C) (s : PySem.W.subIn K t (.ref C) = some b) : PySem.W.kitOne K t (.ref C) = some b := by
  obtain ⟨cd, hc, _⟩ := PySem.W.any_some hd
  have e1 : ¬ (t == Value.ref C) = true := fun y => ne (beq_iff_eq.mp y)
  have e2 : ((PySem.W.clsIn K C).isSome && PySem.W.typeIn K (.ref C) == some (.type "type")) = true := by rw [hc, ht] <;> rfl
  show (if (t == Value.ref C) = true then some true else (if ((PySem.W.clsIn K C).isSome && PySem.W.typeIn K (.ref C) == some (.type "type")) = true then PySem.W.subIn K t (.ref C) else none)) = some b
  rw [if_neg e1, if_pos e2]
  exact s
theorem kit_same {K : PySem.W.Frag} {t : Value} : PySem.W.kitOne K t t = some true := if_pos (beq_self_eq_true t)
theorem kit_builtin {K : PySem.W.Frag} {C : Addr} {T : String} {b : Bool} (hm : PySem.W.kitMeta T = true) (s : PySem.W.subIn K (.ref C) (.type T) = some b) : PySem.W.kitOne K (.ref C) (.type T) = some b := by
  have e1 : ¬ (Value.ref C == Value.type T) = true := fun y => by cases beq_iff_eq.mp y
  show (if (Value.ref C == Value.type T) = true then some true else (if PySem.W.kitMeta T = true then PySem.W.subIn K (.ref C) (.type T) else none)) = some b
  rw [if_neg e1, if_pos hm]
  exact s
theorem all_mk {l : PySem.W.OpenLaw} {w : World} {K : PySem.W.Frag} {h : Heap} {mg : Str → Option Value} {fa cA cB cN f1 f2 f3 f4 f5 f6 f7 f8 f9 f10 f11 f12 f13 f14 f15 f16 : Addr} {q1 q2 q3 q4 : Tok} (X : K.In h) (G : h.Ns mainGlobals mg) (hfa : mg "law" = some (.ref fa))
    {od1 od2 od3 od4 od5 od6 od7 od8 od9 od10 od11 od12 od13 od14 od15 od16 an1 an2 an3 an4 an5 an6 an7 an8 an9 an10 an11 an12 an13 an14 an15 an16 : Option Addr} {sl1 sl2 sl3 sl4 sl5 sl6 sl7 sl8 sl9 sl10 sl11 sl12 sl13 sl14 sl15 sl16 : Array (Option Value)} {oc1 oc2 oc3 oc4 oc5 oc6 oc7 oc8 oc9 oc10 oc11 oc12 oc13 oc14 oc15 oc16 kV1 kV2 kV3 kV4 kV5 kV6 kV7 kV8 kV9 kV10 kV11 kV12 kV13 kV14 kV15 kV16 dc1 dc2 dc3 dc4 dc5 dc6 dc7 dc8 dc9 dc10 dc11 dc12 dc13 dc14 dc15 dc16 pm1 pm2 pm3 pm4 pm5 pm6 pm7 pm8 pm9 pm10 pm11 pm12 pm13 pm14 pm15 pm16 cd1 cd2 cd3 cd4 cd5 cd6 cd7 cd8 cd9 cd10 cd11 cd12 cd13 cd14 cd15 cd16 ct1 ct2 ct3 ct4 ct5 ct6 ct7 ct8 ct9 ct10 ct11 ct12 ct13 ct14 ct15 ct16 : Value}
    (aA : PySem.W.nsIn K mainGlobals "AskError" = some (some (.ref cA)))
    (aB : PySem.W.nsIn K mainGlobals "BadHouse" = some (some (.ref cB)))
    (aN : PySem.W.nsIn K mainGlobals "NoText" = some (some (.ref cN)))
    (xB : PySem.W.excIn K cB [.type "ValueError", .type "Exception", .type "BaseException", .type "object"] "ValueError.__new__" = true)
    (xN : PySem.W.excIn K cN [.type "ValueError", .type "Exception", .type "BaseException", .type "object"] "ValueError.__new__" = true)
    (pA : PySem.W.keepIn K (.ref cA) = true)
    (bA : PySem.W.subIn K (.ref cA) (.type "BaseException") = some true)
    (tA : PySem.W.typeIn K (.ref cA) = some (.type "type"))
    (dA : PySem.W.hasDictIn K cA = true)
    (pB : PySem.W.keepIn K (.ref cB) = true)
    (bB : PySem.W.subIn K (.ref cB) (.type "BaseException") = some true)
    (tB : PySem.W.typeIn K (.ref cB) = some (.type "type"))
    (dB : PySem.W.hasDictIn K cB = true)
    (pN : PySem.W.keepIn K (.ref cN) = true)
    (bN : PySem.W.subIn K (.ref cN) (.type "BaseException") = some true)
    (tN : PySem.W.typeIn K (.ref cN) = some (.type "type"))
    (dN : PySem.W.hasDictIn K cN = true)
    (sNA : PySem.W.subIn K (.ref cN) (.ref cA) = some true)
    (sBB : PySem.W.subIn K (.ref cB) (.ref cB) = some true)
    (e1 : PySem.W.findIn K (.ref cN) "__getattribute__" = some (some (.builtin "BaseException.__getattribute__")))
    (e2 : PySem.W.findIn K (.ref cN) "__getattr__" = some none)
    (e5 : PySem.W.findIn K (.ref cN) "__class__" = some (some (.builtin "object.__class__")))
    (e6 : PySem.W.specialIn K (.builtin "object.__class__") "__get__" = some (some (.builtin "getset_descriptor.__get__")))
    (e7 : PySem.W.takesIn K (.builtin "object.__class__") = some true)
    (e8 : PySem.W.mroIn K cN (.type "object") = some true)
    (sNV : PySem.W.subIn K (.ref cN) (.type "ValueError") = some true)
    (sNB : PySem.W.subIn K (.ref cN) (.ref cB) = some false)
    (vq1 : PySem.W.nsIn K mainGlobals "MOST_ROOMS" = some (some (.int 40 q1)))
    (vq2 : PySem.W.nsIn K mainGlobals "MOST_LETTERS" = some (some (.int 6 q2)))
    (vq3 : PySem.W.nsIn K mainGlobals "MOST_MARK" = some (some (.int 1000000000 q3)))
    (vq4 : PySem.W.nsIn K mainGlobals "FIGURES" = some (some (.str "0123456789" q4)))
    (zlen : PySem.W.nsIn K mainGlobals "len" = some none)
    (ztuple : PySem.W.nsIn K mainGlobals "tuple" = some none)
    (zint : PySem.W.nsIn K mainGlobals "int" = some none)
    (zbool : PySem.W.nsIn K mainGlobals "bool" = some none)
    (zisinstance : PySem.W.nsIn K mainGlobals "isinstance" = some none)
    (zmax : PySem.W.nsIn K mainGlobals "max" = some none)
    (zmin : PySem.W.nsIn K mainGlobals "min" = some none)
    (zrange : PySem.W.nsIn K mainGlobals "range" = some none)
    (zstr : PySem.W.nsIn K mainGlobals "str" = some none)
    (zValueError : PySem.W.nsIn K mainGlobals "ValueError" = some none)
    (a1 : PySem.W.nsIn K mainGlobals "made" = some (some (.ref f1)))
    (l1 : K.lookup f1 = some ⟨oc1, od1, .func (PySem.W.fnOf "made" "made" (defArgs sMade) (defBody sMade) (defScope sMade) .none kV1 dc1 pm1 an1 cd1 ct1), sl1⟩)
    (c1 : PySem.W.codeIn K cd1 "made" = true)
    (k1 : PySem.W.keepIn K (.ref f1) = true)
    (a2 : PySem.W.nsIn K mainGlobals "read_number" = some (some (.ref f2)))
    (l2 : K.lookup f2 = some ⟨oc2, od2, .func (PySem.W.fnOf "read_number" "read_number" (defArgs sNum) (defBody sNum) (defScope sNum) .none kV2 dc2 pm2 an2 cd2 ct2), sl2⟩)
    (c2 : PySem.W.codeIn K cd2 "read_number" = true)
    (k2 : PySem.W.keepIn K (.ref f2) = true)
    (a3 : PySem.W.nsIn K mainGlobals "read_rows" = some (some (.ref f3)))
    (l3 : K.lookup f3 = some ⟨oc3, od3, .func (PySem.W.fnOf "read_rows" "read_rows" (defArgs sRows) (defBody sRows) (defScope sRows) .none kV3 dc3 pm3 an3 cd3 ct3), sl3⟩)
    (c3 : PySem.W.codeIn K cd3 "read_rows" = true)
    (k3 : PySem.W.keepIn K (.ref f3) = true)
    (a4 : PySem.W.nsIn K mainGlobals "read_house" = some (some (.ref f4)))
    (l4 : K.lookup f4 = some ⟨oc4, od4, .func (PySem.W.fnOf "read_house" "read_house" (defArgs sHouse) (defBody sHouse) (defScope sHouse) .none kV4 dc4 pm4 an4 cd4 ct4), sl4⟩)
    (c4 : PySem.W.codeIn K cd4 "read_house" = true)
    (k4 : PySem.W.keepIn K (.ref f4) = true)
    (a5 : PySem.W.nsIn K mainGlobals "_law_cell_at" = some (some (.ref f5)))
    (l5 : K.lookup f5 = some ⟨oc5, od5, .func (PySem.W.fnOf "_law_cell_at" "_law_cell_at" (defArgs sCell) (defBody sCell) (defScope sCell) .none kV5 dc5 pm5 an5 cd5 ct5), sl5⟩)
    (c5 : PySem.W.codeIn K cd5 "_law_cell_at" = true)
    (k5 : PySem.W.keepIn K (.ref f5) = true)
    (a6 : PySem.W.nsIn K mainGlobals "_law_whole" = some (some (.ref f6)))
    (l6 : K.lookup f6 = some ⟨oc6, od6, .func (PySem.W.fnOf "_law_whole" "_law_whole" (defArgs sWhole) (defBody sWhole) (defScope sWhole) .none kV6 dc6 pm6 an6 cd6 ct6), sl6⟩)
    (c6 : PySem.W.codeIn K cd6 "_law_whole" = true)
    (k6 : PySem.W.keepIn K (.ref f6) = true)
    (a7 : PySem.W.nsIn K mainGlobals "_law_draw" = some (some (.ref f7)))
    (l7 : K.lookup f7 = some ⟨oc7, od7, .func (PySem.W.fnOf "_law_draw" "_law_draw" (defArgs sDraw) (defBody sDraw) (defScope sDraw) .none kV7 dc7 pm7 an7 cd7 ct7), sl7⟩)
    (c7 : PySem.W.codeIn K cd7 "_law_draw" = true)
    (k7 : PySem.W.keepIn K (.ref f7) = true)
    (a8 : PySem.W.nsIn K mainGlobals "_law_house_by" = some (some (.ref f8)))
    (l8 : K.lookup f8 = some ⟨oc8, od8, .func (PySem.W.fnOf "_law_house_by" "_law_house_by" (defArgs sBy) (defBody sBy) (defScope sBy) .none kV8 dc8 pm8 an8 cd8 ct8), sl8⟩)
    (c8 : PySem.W.codeIn K cd8 "_law_house_by" = true)
    (k8 : PySem.W.keepIn K (.ref f8) = true)
    (a9 : PySem.W.nsIn K mainGlobals "_law_sound" = some (some (.ref f9)))
    (l9 : K.lookup f9 = some ⟨oc9, od9, .func (PySem.W.fnOf "_law_sound" "_law_sound" (defArgs sSound) (defBody sSound) (defScope sSound) .none kV9 dc9 pm9 an9 cd9 ct9), sl9⟩)
    (c9 : PySem.W.codeIn K cd9 "_law_sound" = true)
    (k9 : PySem.W.keepIn K (.ref f9) = true)
    (a10 : PySem.W.nsIn K mainGlobals "_law_house_text" = some (some (.ref f10)))
    (l10 : K.lookup f10 = some ⟨oc10, od10, .func (PySem.W.fnOf "_law_house_text" "_law_house_text" (defArgs sText) (defBody sText) (defScope sText) .none kV10 dc10 pm10 an10 cd10 ct10), sl10⟩)
    (c10 : PySem.W.codeIn K cd10 "_law_house_text" = true)
    (k10 : PySem.W.keepIn K (.ref f10) = true)
    (a11 : PySem.W.nsIn K mainGlobals "_law_sign_by" = some (some (.ref f11)))
    (l11 : K.lookup f11 = some ⟨oc11, od11, .func (PySem.W.fnOf "_law_sign_by" "_law_sign_by" (defArgs sSign) (defBody sSign) (defScope sSign) .none kV11 dc11 pm11 an11 cd11 ct11), sl11⟩)
    (c11 : PySem.W.codeIn K cd11 "_law_sign_by" = true)
    (k11 : PySem.W.keepIn K (.ref f11) = true)
    (a12 : PySem.W.nsIn K mainGlobals "_law_spoiled" = some (some (.ref f12)))
    (l12 : K.lookup f12 = some ⟨oc12, od12, .func (PySem.W.fnOf "_law_spoiled" "_law_spoiled" (defArgs sSpoil) (defBody sSpoil) (defScope sSpoil) .none kV12 dc12 pm12 an12 cd12 ct12), sl12⟩)
    (c12 : PySem.W.codeIn K cd12 "_law_spoiled" = true)
    (k12 : PySem.W.keepIn K (.ref f12) = true)
    (a13 : PySem.W.nsIn K mainGlobals "_law_rows_spoiled" = some (some (.ref f13)))
    (l13 : K.lookup f13 = some ⟨oc13, od13, .func (PySem.W.fnOf "_law_rows_spoiled" "_law_rows_spoiled" (defArgs sRowSp) (defBody sRowSp) (defScope sRowSp) .none kV13 dc13 pm13 an13 cd13 ct13), sl13⟩)
    (c13 : PySem.W.codeIn K cd13 "_law_rows_spoiled" = true)
    (k13 : PySem.W.keepIn K (.ref f13) = true)
    (a14 : PySem.W.nsIn K mainGlobals "_law_thing_spoiled" = some (some (.ref f14)))
    (l14 : K.lookup f14 = some ⟨oc14, od14, .func (PySem.W.fnOf "_law_thing_spoiled" "_law_thing_spoiled" (defArgs sThing) (defBody sThing) (defScope sThing) .none kV14 dc14 pm14 an14 cd14 ct14), sl14⟩)
    (c14 : PySem.W.codeIn K cd14 "_law_thing_spoiled" = true)
    (k14 : PySem.W.keepIn K (.ref f14) = true)
    (a15 : PySem.W.nsIn K mainGlobals "_law_read" = some (some (.ref f15)))
    (l15 : K.lookup f15 = some ⟨oc15, od15, .func (PySem.W.fnOf "_law_read" "_law_read" (defArgs sRead) (defBody sRead) (defScope sRead) .none kV15 dc15 pm15 an15 cd15 ct15), sl15⟩)
    (c15 : PySem.W.codeIn K cd15 "_law_read" = true)
    (k15 : PySem.W.keepIn K (.ref f15) = true)
    (a16 : PySem.W.nsIn K mainGlobals "law" = some (some (.ref f16)))
    (l16 : K.lookup f16 = some ⟨oc16, od16, .func (PySem.W.fnOf "law" "law" (defArgs sLaw) (defBody sLaw) (defScope sLaw) .none kV16 dc16 pm16 an16 cd16 ct16), sl16⟩)
    (c16 : PySem.W.codeIn K cd16 "law" = true)
    (k16 : PySem.W.keepIn K (.ref f16) = true)
    : ∃ fd : FuncData, (∀ (s : Shared) (v : Value), BindsTo s fd ⟨[v], []⟩ [("script", v)]) ∧ ∀ base : Heap, K.In base → base.Ns mainGlobals mg → FnOk l.prog w K mg base CX0 5 fa fd ["script"] (spLaw K) := by
  have e := hfa.symm.trans (PySem.W.mg_of X G a16)
  cases e
  have T : Txt K mg cA cB cN :=
    { gA := PySem.W.mg_of X G aA, gB := PySem.W.mg_of X G aB, gN := PySem.W.mg_of X G aN, xB := xB, xN := xN, kB := pB, kN := pN, bB := bB, bN := bN, tB := tB, tN := tN,
      eNA := PySem.W.exm_ref bA dA tA sNA, eBB := PySem.W.exm_ref bB dB tB sBB, exN := ⟨e1, e2, bN, dN, e5, e6, e7, e8⟩, kNN := kit_same, kNV := kit_builtin (by decide +kernel) sNV, kNB := kit_own dB tB (fun y => by rw [y, sBB] at sNB; cases sNB) sNB,
      gRooms := ⟨q1, PySem.W.mg_of X G vq1⟩, gLetters := ⟨q2, PySem.W.mg_of X G vq2⟩, gMark := ⟨q3, PySem.W.mg_of X G vq3⟩, gFig := ⟨q4, PySem.W.mg_of X G vq4⟩,
      len := PySem.W.mg_none_of X G zlen, tup := PySem.W.mg_none_of X G ztuple, int := PySem.W.mg_none_of X G zint, bool := PySem.W.mg_none_of X G zbool, isi := PySem.W.mg_none_of X G zisinstance,
      max := PySem.W.mg_none_of X G zmax, min := PySem.W.mg_none_of X G zmin, range := PySem.W.mg_none_of X G zrange, str := PySem.W.mg_none_of X G zstr, vale := PySem.W.mg_none_of X G zValueError }
  have F1 := fun_mk (st := sMade) l1 c1 k1
  have B1 := F1.binds (ps := ["letters", "marks", "ways"]) fun _ _ _ _ _ _ us hl => match us, hl with | [_, _, _], _ => rfl
  have g1 := PySem.W.mg_of X G a1
  have F2 := fun_mk (st := sNum) l2 c2 k2
  have B2 := F2.binds (ps := ["figures"]) fun _ _ _ _ _ _ us hl => match us, hl with | [_], _ => rfl
  have g2 := PySem.W.mg_of X G a2
  have F3 := fun_mk (st := sRows) l3 c3 k3
  have B3 := F3.binds (ps := ["text", "head"]) fun _ _ _ _ _ _ us hl => match us, hl with | [_, _], _ => rfl
  have g3 := PySem.W.mg_of X G a3
  have F4 := fun_mk (st := sHouse) l4 c4 k4
  have B4 := F4.binds (ps := ["text"]) fun _ _ _ _ _ _ us hl => match us, hl with | [_], _ => rfl
  have g4 := PySem.W.mg_of X G a4
  have F5 := fun_mk (st := sCell) l5 c5 k5
  have B5 := F5.binds (ps := ["script", "k"]) fun _ _ _ _ _ _ us hl => match us, hl with | [_, _], _ => rfl
  have g5 := PySem.W.mg_of X G a5
  have F6 := fun_mk (st := sWhole) l6 c6 k6
  have B6 := F6.binds (ps := ["found"]) fun _ _ _ _ _ _ us hl => match us, hl with | [_], _ => rfl
  have g6 := PySem.W.mg_of X G a6
  have F7 := fun_mk (st := sDraw) l7 c7 k7
  have B7 := F7.binds (ps := ["flow", "k", "many"]) fun _ _ _ _ _ _ us hl => match us, hl with | [_, _, _], _ => rfl
  have g7 := PySem.W.mg_of X G a7
  have F8 := fun_mk (st := sBy) l8 c8 k8
  have B8 := F8.binds (ps := ["flow", "letters", "cell"]) fun _ _ _ _ _ _ us hl => match us, hl with | [_, _, _], _ => rfl
  have g8 := PySem.W.mg_of X G a8
  have F9 := fun_mk (st := sSound) l9 c9 k9
  have B9 := F9.binds (ps := ["found"]) fun _ _ _ _ _ _ us hl => match us, hl with | [_], _ => rfl
  have g9 := PySem.W.mg_of X G a9
  have F10 := fun_mk (st := sText) l10 c10 k10
  have B10 := F10.binds (ps := ["house"]) fun _ _ _ _ _ _ us hl => match us, hl with | [_], _ => rfl
  have g10 := PySem.W.mg_of X G a10
  have F11 := fun_mk (st := sSign) l11 c11 k11
  have B11 := F11.binds (ps := ["cell"]) fun _ _ _ _ _ _ us hl => match us, hl with | [_], _ => rfl
  have g11 := PySem.W.mg_of X G a11
  have F12 := fun_mk (st := sSpoil) l12 c12 k12
  have B12 := F12.binds (ps := ["text", "cell", "often"]) fun _ _ _ _ _ _ us hl => match us, hl with | [_, _, _], _ => rfl
  have g12 := PySem.W.mg_of X G a12
  have F13 := fun_mk (st := sRowSp) l13 c13 k13
  have B13 := F13.binds (ps := ["text", "cell"]) fun _ _ _ _ _ _ us hl => match us, hl with | [_, _], _ => rfl
  have g13 := PySem.W.mg_of X G a13
  have F14 := fun_mk (st := sThing) l14 c14 k14
  have B14 := F14.binds (ps := ["text", "cell"]) fun _ _ _ _ _ _ us hl => match us, hl with | [_, _], _ => rfl
  have g14 := PySem.W.mg_of X G a14
  have F15 := fun_mk (st := sRead) l15 c15 k15
  have B15 := F15.binds (ps := ["text"]) fun _ _ _ _ _ _ us hl => match us, hl with | [_], _ => rfl
  have g15 := PySem.W.mg_of X G a15
  have F16 := fun_mk (st := sLaw) l16 c16 k16
  have B16 := F16.binds (ps := ["script"]) fun _ _ _ _ _ _ us hl => match us, hl with | [_], _ => rfl
  have g16 := PySem.W.mg_of X G a16
  refine ⟨PySem.W.fnOf "law" "law" (defArgs sLaw) (defBody sLaw) (defScope sLaw) .none kV16 dc16 pm16 an16 cd16 ct16, fun s v => .of_eq rfl, fun base _ _ => ?_⟩
  exact ok_law F16 T F5 B5 g5 (ok_cell F5 T) F10 B10 g10 (ok_text F10 T) F8 B8 g8 (ok_by F8 T F7 B7 g7) F13 B13 g13 (ok_rowsp F13 T) F14 B14 g14 (ok_thing F14 T)
    F12 B12 g12 (ok_spoil F12 T F11 B11 g11) F15 B15 g15 (ok_read F15 T F2 B2 g2 F3 B3 g3 F1 B1 g1 F4 B4 g4 F6 B6 g6 F9 B9 g9 F10 B10 g10)
end K46
open PySem PySem.W PyProof.Rows
set_option maxRecDepth 100000 in
set_option maxHeartbeats 0 in
theorem PySem.Challenge.cw_guessroom_k46_whole_texts_of_houses_holds : PySem.Challenge.rw_guessroom_k46_whole_texts_of_houses.Holds := by
  w_on; o_law; k_head; (case hw => w_witness2)
  k_fill
  refine L2.walk_of (l := PySem.Challenge.rw_guessroom_k46_whole_texts_of_houses) (n := 63) (k := 5) (x := "script") (CX := fun _ => L2.CX0) (sp := fun w => K46.spLaw _) rfl (by decide) rfl ⟨rfl, by decide, by decide⟩ (fun w h Y => PySem.W.kIn_of Y) ?F (fun _ _ a ns hl _ hS => ⟨a, ns, rfl, hS, hl, fun _ => rfl⟩) (fun _ _ _ _ _ h => h)
  case F =>
    intro w mg fa h KX G hmg
    refine' K46.all_mk KX G hmg ?aA ?aB ?aN ?xB ?xN ?pA ?bA ?tA ?dA ?pB ?bB ?tB ?dB ?pN ?bN ?tN ?dN ?sNA ?sBB ?e1 ?e2 ?e5 ?e6 ?e7 ?e8 ?sNV ?sNB ?vq1 ?vq2 ?vq3 ?vq4 ?zlen ?ztuple ?zint ?zbool ?zisinstance ?zmax ?zmin ?zrange ?zstr ?zValueError ?a1 ?l1 ?c1 ?k1 ?a2 ?l2 ?c2 ?k2 ?a3 ?l3 ?c3 ?k3 ?a4 ?l4 ?c4 ?k4 ?a5 ?l5 ?c5 ?k5 ?a6 ?l6 ?c6 ?k6 ?a7 ?l7 ?c7 ?k7 ?a8 ?l8 ?c8 ?k8 ?a9 ?l9 ?c9 ?k9 ?a10 ?l10 ?c10 ?k10 ?a11 ?l11 ?c11 ?k11 ?a12 ?l12 ?c12 ?k12 ?a13 ?l13 ?c13 ?k13 ?a14 ?l14 ?c14 ?k14 ?a15 ?l15 ?c15 ?k15 ?a16 ?l16 ?c16 ?k16
    (case aA => k_is)
    (case aB => k_is)
    (case aN => k_is)
    (case xB => k_exc)
    (case xN => k_exc)
    (case pA => k_is)
    (case bA => k_is)
    (case tA => k_is)
    (case dA => k_is)
    (case pB => k_is)
    (case bB => k_is)
    (case tB => k_is)
    (case dB => k_is)
    (case pN => k_is)
    (case bN => k_is)
    (case tN => k_is)
    (case dN => k_is)
    (case sNA => first | rfl | k_is)
    (case sBB => first | rfl | k_is)
    (case e1 => k_is)
    (case e2 => k_is)
    (case e5 => k_is)
    (case e6 => k_is)
    (case e7 => k_is)
    (case e8 => k_is)
    (case sNV => k_is)
    (case sNB => k_is)
    (case vq1 => k_is)
    (case vq2 => k_is)
    (case vq3 => k_is)
    (case vq4 => k_is)
    (case zlen => k_is)
    (case ztuple => k_is)
    (case zint => k_is)
    (case zbool => k_is)
    (case zisinstance => k_is)
    (case zmax => k_is)
    (case zmin => k_is)
    (case zrange => k_is)
    (case zstr => k_is)
    (case zValueError => k_is)
    (case a1 => k_is)
    (case l1 => k_is)
    (case c1 => k_is)
    (case k1 => k_is)
    (case a2 => k_is)
    (case l2 => k_is)
    (case c2 => k_is)
    (case k2 => k_is)
    (case a3 => k_is)
    (case l3 => k_is)
    (case c3 => k_is)
    (case k3 => k_is)
    (case a4 => k_is)
    (case l4 => k_is)
    (case c4 => k_is)
    (case k4 => k_is)
    (case a5 => k_is)
    (case l5 => k_is)
    (case c5 => k_is)
    (case k5 => k_is)
    (case a6 => k_is)
    (case l6 => k_is)
    (case c6 => k_is)
    (case k6 => k_is)
    (case a7 => k_is)
    (case l7 => k_is)
    (case c7 => k_is)
    (case k7 => k_is)
    (case a8 => k_is)
    (case l8 => k_is)
    (case c8 => k_is)
    (case k8 => k_is)
    (case a9 => k_is)
    (case l9 => k_is)
    (case c9 => k_is)
    (case k9 => k_is)
    (case a10 => k_is)
    (case l10 => k_is)
    (case c10 => k_is)
    (case k10 => k_is)
    (case a11 => k_is)
    (case l11 => k_is)
    (case c11 => k_is)
    (case k11 => k_is)
    (case a12 => k_is)
    (case l12 => k_is)
    (case c12 => k_is)
    (case k12 => k_is)
    (case a13 => k_is)
    (case l13 => k_is)
    (case c13 => k_is)
    (case k13 => k_is)
    (case a14 => k_is)
    (case l14 => k_is)
    (case c14 => k_is)
    (case k14 => k_is)
    (case a15 => k_is)
    (case l15 => k_is)
    (case c15 => k_is)
    (case k15 => k_is)
    (case a16 => k_is)
    (case l16 => k_is)
    (case c16 => k_is)
    (case k16 => k_is)
#print axioms PySem.Challenge.cw_guessroom_k46_whole_texts_of_houses_holds
