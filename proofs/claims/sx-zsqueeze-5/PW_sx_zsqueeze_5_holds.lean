import PyProof.Rows.All
import KE.KData
import KE.KNest
import OpenK.KOwn
import OpenK.KCell
import KE.KWhile
import PyProof.Rows.GenSrcRange
import KE.KEqDat
import KE.KSlice
import KE.LcSums
import PyProof.TypeOfCall
import PyProof.Rows.TupMore
import PyProof.Rows.GenRowsK
import PyProof.GenCompD
import KE.KTryDeep
import PyProof.CompFree
import PyProof.WalkInts
import PyProof.Cells
import KE.KAnyBase
import PyProof.Rows.Chain
import Wide.All
import OpenK.AllK
import Wide.FinOn
import PySem.Challenge.RW_sx_zsqueeze_5
/-! the plain laws: what the program's functions reckon, with no program in sight -/
namespace Mine
abbrev T3 := Int × Int × Int

noncomputable def numF (bs : List Int) : Int := bs.foldl (fun n b => n * 256 + b) 0
noncomputable def four (n : Int) : List Int := [n / 16777216, n / 65536 % 256, n / 256 % 256, n % 256]
abbrev okB (b : Int) : Prop := 0 ≤ b ∧ b ≤ 255

theorem dvm {q r : Int} (h : okB r) : (q * 256 + r) / 256 = q := by unfold okB at h; omega
theorem mdm {q r : Int} (h : okB r) : (q * 256 + r) % 256 = r := by unfold okB at h; omega
theorem four_dv (n : Int) : four n = [n / 256 / 256 / 256, n / 256 / 256 % 256, n / 256 % 256, n % 256] := by
  have e : ∀ k : Int, n / 256 / k = n / (256 * k) := fun k => Int.ediv_ediv_of_nonneg (by decide)
  rw [Int.ediv_ediv_of_nonneg (x := n / 256) (by decide), e, e]
  rfl
theorem num_four' (a b c d : Int) : numF [a, b, c, d] = ((a * 256 + b) * 256 + c) * 256 + d := by
  show (((0 * 256 + a) * 256 + b) * 256 + c) * 256 + d = _
  rw [Int.zero_mul, Int.zero_add]
theorem four_num {a b c d : Int} (_ : okB a) (hb : okB b) (hc : okB c) (hd : okB d) : four (numF [a, b, c, d]) = [a, b, c, d] := by
  rw [num_four', four_dv, dvm hd, mdm hd, dvm hc, mdm hc, dvm hb, mdm hb]
theorem num_four (a b c d : Int) : numF [a, b, c, d] = a * 16777216 + b * 65536 + c * 256 + d := by
  rw [num_four', Int.add_mul, Int.add_mul, Int.add_mul, Int.mul_assoc, Int.mul_assoc, Int.mul_assoc]
  rfl

/-! the head -/
abbrev Hd := List Int × Int × Int × Int
noncomputable def fields (blob ls : List Int) : Hd := (ls, numF ((blob.drop 2).take 4), numF ((blob.drop 6).take 4), numF ((blob.drop 10).take 4))
noncomputable def readF (blob : List Int) : Option Hd :=
  if blob.length < 271 then none
  else if blob.take 2 ≠ [83, 81] then none
  else if ((blob.drop 14).take 257).any (fun n => decide (n > 64)) then none
  else some (fields blob ((blob.drop 14).take 257))

/-! tokens and symbols -/
noncomputable def t2s1 (t : T3) : List Int := if t.1 = 0 then [t.2.1] else [256, t.2.1 / 256, t.2.1 % 256, t.2.2]
noncomputable def t2s (ts : List T3) : List Int := ts.flatMap t2s1
noncomputable def bytesB (ns : List Int) : Bool := ns.all fun b => decide (okB b)

/-- the law's own reading -/
noncomputable def rdGo : List Int → List Int → List T3 → Option (List T3)
  | [], p, out => if p = [] then some out else none
  | s :: r, p, out =>
    if p = [] then (if s < 256 then rdGo r [] (out ++ [(0, s, 0)]) else rdGo r [s] out)
    else if s < 0 ∨ s > 255 then none
    else if (p ++ [s]).length = 4 then rdGo r [] (out ++ [(1, (p ++ [s]).getD 1 0 * 256 + (p ++ [s]).getD 2 0, (p ++ [s]).getD 3 0)]) else rdGo r (p ++ [s]) out
noncomputable def s2t (l : List Int) : Option (List T3) := rdGo l [] []
theorem map_out (o : Option (List T3)) (out : List T3) (t : T3) : (o.map ([t] ++ ·)).map (out ++ ·) = o.map ((out ++ [t]) ++ ·) := by
  cases o with
  | none => rfl
  | some ts => exact congrArg some (List.append_assoc out [t] ts).symm
theorem rd_out (l : List Int) : ∀ p out, rdGo l p out = (rdGo l p []).map (out ++ ·) := by
  induction l with
  | nil =>
    intro p out
    show (if p = [] then some out else none) = Option.map _ (if p = [] then some [] else none)
    split
    · exact congrArg some (List.append_nil out).symm
    · rfl
  | cons s r ih =>
    intro p out
    unfold rdGo
    split
    · split
      · rw [ih [] (out ++ [(0, s, 0)]), ih [] ([] ++ [(0, s, 0)])]
        exact (map_out _ _ _).symm
      · exact ih _ _
    · split
      · rfl
      · split
        · rw [ih [] (out ++ _), ih [] ([] ++ _)]
          exact (map_out _ _ _).symm
        · exact ih _ _
theorem s2t_lt {s : Int} {r : List Int} (h : s < 256) : s2t (s :: r) = (s2t r).map ((0, s, 0) :: ·) := by
  show (if s < 256 then rdGo r [] [(0, s, 0)] else rdGo r [s] []) = _
  rw [if_pos h, rd_out]
  rfl
theorem s2t_ge0 {s : Int} {r : List Int} (h : ¬ s < 256) : s2t (s :: r) = rdGo r [s] [] := if_neg h
theorem rd_ne {s : Int} {r : List Int} {p : Int} {ps : List Int} {out : List T3} : rdGo (s :: r) (p :: ps) out = if s < 0 ∨ s > 255 then none
    else if (p :: ps ++ [s]).length = 4 then rdGo r [] (out ++ [(1, (p :: ps ++ [s]).getD 1 0 * 256 + (p :: ps ++ [s]).getD 2 0, (p :: ps ++ [s]).getD 3 0)]) else rdGo r (p :: ps ++ [s]) out := if_neg (List.cons_ne_nil _ _)
theorem rd_bad {a : Int} {r : List Int} {p : Int} {ps : List Int} (h : ¬ okB a) : rdGo (a :: r) (p :: ps) [] = none :=
  rd_ne.trans (if_pos (by unfold okB at h; omega))
theorem rd_ok {a : Int} {r : List Int} {p : Int} {ps : List Int} (h : okB a) (hl : ps.length < 2) : rdGo (a :: r) (p :: ps) [] = rdGo r (p :: ps ++ [a]) [] := by
  rw [rd_ne, if_neg (by unfold okB at h; omega), if_neg]
  rw [List.length_append, List.length_cons, List.length_singleton]
  omega
theorem s2t_3 {s a b c : Int} {r : List Int} (h : ¬ s < 256) (ha : okB a) (hb : okB b) (hc : okB c) : s2t (s :: a :: b :: c :: r) = (s2t r).map ((1, a * 256 + b, c) :: ·) := by
  rw [s2t_ge0 h, rd_ok ha (by decide)]
  show rdGo (b :: c :: r) (s :: [a]) [] = _
  rw [rd_ok (p := s) (ps := [a]) hb (Nat.lt_succ_self 1)]
  show rdGo (c :: r) (s :: [a, b]) [] = _
  rw [rd_ne, if_neg (by unfold okB at hc; omega), if_pos (show ([s, a, b] ++ [c]).length = 4 from rfl), rd_out]
  rfl
theorem s2t_none {s : Int} {r : List Int} (h : ¬ s < 256) (hn : (r.take 3).length < 3 ∨ bytesB (r.take 3) = false) : s2t (s :: r) = none := by
  rw [s2t_ge0 h]
  cases r with
  | nil => rfl
  | cons a r =>
    by_cases ha : okB a
    · rw [rd_ok ha (by decide)]
      cases r with
      | nil => rfl
      | cons b r =>
        by_cases hb : okB b
        · show rdGo (b :: r) (s :: [a]) [] = none
          rw [rd_ok (p := s) (ps := [a]) hb (Nat.lt_succ_self 1)]
          cases r with
          | nil => rfl
          | cons c r =>
            refine rd_bad (p := s) (ps := [a, b]) fun hc => ?_
            rcases hn with hn | hn
            · exact absurd hn (Nat.lt_irrefl 3)
            · have : bytesB [a, b, c] = false := hn
              unfold bytesB at this
              rw [List.all_cons, List.all_cons, List.all_cons, decide_eq_true ha, decide_eq_true hb, decide_eq_true hc] at this
              cases this
        · exact rd_bad (p := s) (ps := [a]) hb
    · exact rd_bad ha
theorem bytes3 {a b c : Int} (h : bytesB [a, b, c] = true) : okB a ∧ okB b ∧ okB c := by
  have h := List.all_eq_true.mp h
  exact ⟨of_decide_eq_true (h a (.head _)), of_decide_eq_true (h b (.tail _ (.head _))), of_decide_eq_true (h c (.tail _ (.tail _ (.head _))))⟩
theorem take3 {r : List Int} (h : ¬ (r.take 3).length < 3) : ∃ a b c r', r = a :: b :: c :: r' := by
  cases r with
  | nil => exact absurd (by decide) h
  | cons a r =>
    cases r with
    | nil => exact absurd (by decide : 1 < 3) h
    | cons b r =>
      cases r with
      | nil => exact absurd (by decide : 2 < 3) h
      | cons c r => exact ⟨a, b, c, r, rfl⟩
theorem s2t_ge {s : Int} {r : List Int} (h : ¬ s < 256) : s2t (s :: r) = if (r.take 3).length < 3 ∨ bytesB (r.take 3) = false then none else (s2t (r.drop 3)).map ((1, (r.take 3).getD 0 0 * 256 + (r.take 3).getD 1 0, (r.take 3).getD 2 0) :: ·) := by
  split
  · rename_i hn
    exact s2t_none h hn
  · rename_i hn
    obtain ⟨a, b, c, r', rfl⟩ := take3 fun q => hn (.inl q)
    obtain ⟨ha, hb, hc⟩ := bytes3 (Bool.of_not_eq_false fun q => hn (.inr q) : bytesB [a, b, c] = true)
    exact s2t_3 h ha hb hc

/-- written again -/
theorem min_ok {a : Int} (h : okB a) : min a 256 = a := by unfold okB at h; omega
theorem t2s_s2t : ∀ (n : Nat) (l : List Int) (ts : List T3), l.length ≤ n → s2t l = some ts → t2s ts = l.map (fun s => min s 256) := by
  intro n
  induction n with
  | zero =>
    intro l ts hl h
    cases l with
    | nil => cases h; rfl
    | cons _ _ => cases hl
  | succ n ih =>
    intro l ts hl h
    cases l with
    | nil => cases h; rfl
    | cons s r =>
      have hl := Nat.le_of_succ_le_succ hl
      by_cases hs : s < 256
      · rw [s2t_lt hs] at h
        obtain ⟨us, hr, rfl⟩ := Option.map_eq_some_iff.mp h
        show [s] ++ t2s us = _
        rw [ih r us hl hr, List.map_cons, show min s 256 = s by omega]
        rfl
      · by_cases hn : (r.take 3).length < 3 ∨ bytesB (r.take 3) = false
        · rw [s2t_none hs hn] at h; cases h
        obtain ⟨a, b, c, r', rfl⟩ := take3 fun q => hn (.inl q)
        obtain ⟨ha, hb, hc⟩ := bytes3 (Bool.of_not_eq_false fun q => hn (.inr q) : bytesB [a, b, c] = true)
        rw [s2t_3 hs ha hb hc] at h
        obtain ⟨us, hr, rfl⟩ := Option.map_eq_some_iff.mp h
        show [256, (a * 256 + b) / 256, (a * 256 + b) % 256, c] ++ t2s us = _
        rw [ih r' us (Nat.le_trans (Nat.le_add_right _ 3) hl) hr, dvm hb, mdm hb, List.map_cons, List.map_cons, List.map_cons, List.map_cons, min_ok ha, min_ok hb, min_ok hc, show min s 256 = 256 by omega]
        rfl

/-- a sound stream -/
def okT (t : T3) : Prop := (∃ v, okB v ∧ t = (0, v, 0)) ∨ (∃ d l, 0 ≤ d ∧ d ≤ 65535 ∧ okB l ∧ t = (1, d, l))
theorem s2t_t2s (ts : List T3) : (∀ t ∈ ts, okT t) → s2t (t2s ts) = some ts := by
  induction ts with
  | nil => exact fun _ => rfl
  | cons t ts ih =>
    intro h
    have ih := ih (fun x hx => h x (.tail _ hx))
    rcases h t (.head _) with ⟨v, hv, rfl⟩ | ⟨d, l, h0, h1, hl, rfl⟩
    · show s2t (v :: t2s ts) = _
      rw [s2t_lt (by unfold okB at hv; omega), ih]; rfl
    · show s2t (256 :: d / 256 :: d % 256 :: l :: t2s ts) = _
      rw [s2t_3 (by decide) (by unfold okB; omega) (by unfold okB; omega) hl, ih, Int.mul_comm, Int.mul_ediv_add_emod]
      rfl
end Mine

open PySem PySem.W PyProof.Rows PySem.Calls PySem.Spec
set_option Elab.async false
set_option maxRecDepth 100000
set_option genInjectivity false
set_option genSizeOf false
namespace Mine

/-- the world of one program -/
structure Wo where
  prog : Program
  w : World
  K : Frag
  mg : Str → Option Value
  mb : Str → Option Value
  bm : Addr
  ob : Obj
  tabs : List (Addr × Addr)
  os : OsState
  fe : Addr
  gn : Array GenState
noncomputable abbrev Wo.M (W : Wo) : Model := model W.prog W.w

/-- what is known of every heap of the call -/
structure At (W : Wo) (h : Heap) : Prop where
  X : W.K.In h
  g : h.Ns mainGlobals W.mg
  b : h.Ns builtinsNs W.mb
  nolimit : h.NoLimit
  blt : ∀ x : Str, x ≠ "__name__" → W.mb x = bootBuiltins x
  tab : ∀ t ∈ W.tabs, CodeHd h t.1 t.2
  bmod : BMod h mainGlobals W.mg W.bm W.ob
  own : OwnCls "FormatError" W.fe [.type "Exception", .type "BaseException", .type "object"] "Exception.__new__" W.mg h
theorem At.keeps {W : Wo} {h h' : Heap} (T : At W h) (k : ∀ b o, h.get? b = some o → h'.get? b = some o) : At W h' :=
  ⟨T.X.keeps k, T.g.keeps k, T.b.keeps k, T.nolimit.keeps k, T.blt, fun t ht => (T.tab t ht).keeps k, T.bmod.keeps k, T.own.keeps k⟩

noncomputable abbrev Led := List (Addr × Obj)
/-- the tables of codes of the defs with generator expressions, as they stand -/
inductive TabsAre : List (Addr × Addr) → Led → Prop
  | nil : TabsAre [] []
  | cons {c P : Addr} {ps : Array Value} {r : List (Addr × Addr)} {tb : Led} : TriplesOk ps.toList → TabsAre r tb → TabsAre ((c, P) :: r) ((P, tabObj ps) :: tb)
/-- the outer frames, up to their slots -/
inductive Ups : Led → Led → Prop
  | nil : Ups [] []
  | cons {a : Addr} {o : Obj} {sl : Array (Option Value)} {l l' : Led} : Ups l l' → Ups ((a, o) :: l) ((a, { o with slots := sl }) :: l')
theorem Ups.refl : ∀ l : Led, Ups l l
  | [] => .nil
  | (_, o) :: l => .cons (sl := o.slots) (Ups.refl l)
theorem Ups.trans {a b c : Led} (x : Ups a b) (y : Ups b c) : Ups a c := by
  induction x generalizing c with
  | nil => cases y; exact .nil
  | cons _ ih => cases y with | cons y' => exact .cons (ih y')

noncomputable def lam (tb fr mu fz nw : Led) : Led := tb ++ (fr ++ (mu ++ (fz ++ nw)))
noncomputable def adrs (l : Led) : List Addr := l.map (·.1)

/-- the generators: none with a cleanup, and those that were there when this world was taken stand -/
noncomputable def Gs (W : Wo) (g : Array GenState) : Prop := AllBare g ∧ ∀ (k : Nat) (x : GenState), W.gn[k]? = some x → g[k]? = some x
/-- the state of one activation -/
structure Raw (W : Wo) (h₀ : Heap) (L : Addr) (fr fz : Led) (m : Str → Option Value) (mu nw : Led) (s : Shared) : Prop where
  F : Fr h₀ L s.heap m
  T : At W h₀
  G : Gs W s.gens
  O : s.os = W.os
  led : ∃ tb fr', TabsAre W.tabs tb ∧ Ups fr fr' ∧ News h₀ L s.heap (lam tb fr' mu fz nw) ∧ (adrs (lam tb fr' mu fz nw)).Nodup

section
variable {W : Wo} {h₀ : Heap} {L : Addr} {fr fz mu nw : Led} {m : Str → Option Value} {s : Shared}

theorem Raw.now (R : Raw W h₀ L fr fz m mu nw s) : At W s.heap := R.T.keeps R.F.keep
theorem Raw.toks (R : Raw W h₀ L fr fz m mu nw s) (t : Nat) : Raw W h₀ L fr fz m mu nw { s with toks := t } := ⟨R.F, R.T, R.G, R.O, R.led⟩

/-- the heap has only grown -/
theorem Raw.ext (R : Raw W h₀ L fr fz m mu nw s) {s' : Shared} (hk : ∀ b o, s.heap.get? b = some o → s'.heap.get? b = some o) (G : Gs W s'.gens) (O : s'.os = s.os) : Raw W h₀ L fr fz m mu nw s' :=
  ⟨R.F.keeps hk, R.T, G, O.trans R.O, by
    obtain ⟨tb, fr', a, b, N, d⟩ := R.led
    exact ⟨tb, fr', a, b, fun p hp => ⟨hk _ _ (N p hp).1, (N p hp).2⟩, d⟩⟩

theorem mem_lam {tb fr mu fz nw : Led} {p : Addr × Obj} : p ∈ lam tb fr mu fz nw ↔ p ∈ tb ∨ p ∈ fr ∨ p ∈ mu ∨ p ∈ fz ∨ p ∈ nw := by
  simp [lam, List.mem_append]
theorem lam_perm {tb fr mu fz nw : Led} (q : Addr × Obj) : (lam tb fr mu fz (q :: nw)).Perm (q :: lam tb fr mu fz nw) := by
  unfold lam
  have h : ∀ (a b : Led), (a ++ q :: b).Perm (q :: (a ++ b)) := fun a b => List.perm_middle
  refine ((h fz nw).append_left mu |>.append_left fr |>.append_left tb).trans ?_
  refine ((h mu (fz ++ nw)).append_left fr |>.append_left tb).trans ?_
  refine ((h fr (mu ++ (fz ++ nw))).append_left tb).trans ?_
  exact h tb _
theorem nodup_perm {a b : Led} (h : a.Perm b) (d : (adrs a).Nodup) : (adrs b).Nodup := (List.Perm.map (fun p : Addr × Obj => p.1) h).nodup_iff.mp d

/-- one more made thing -/
theorem Raw.add (R : Raw W h₀ L fr fz m mu nw s) {s' : Shared} {D : Addr} {o : Obj} (hk : ∀ b o, s.heap.get? b = some o → s'.heap.get? b = some o) (hD : s'.heap.get? D = some o) (hn : s.heap.objs.size ≤ D) (G : Gs W s'.gens) (O : s'.os = s.os) :
    Raw W h₀ L fr fz m mu ((D, o) :: nw) s' :=
  ⟨R.F.keeps hk, R.T, G, O.trans R.O, by
    obtain ⟨tb, fr', a, b, N, d⟩ := R.led
    refine ⟨tb, fr', a, b, fun p hp => ?_, ?_⟩
    · rcases List.mem_cons.mp ((lam_perm (D, o)).mem_iff.mp hp) with rfl | hp
      · refine ⟨hD, Nat.ne_of_gt (Nat.lt_of_lt_of_le R.F.ns.lt hn), ?_⟩
        cases q : h₀.get? D with
        | none => rfl
        | some o' => exact absurd (Heap.lt_size (R.F.keep _ _ q)) (Nat.not_lt.mpr hn)
      · exact ⟨hk _ _ (N p hp).1, (N p hp).2⟩
    · refine nodup_perm (lam_perm (D, o)).symm ?_
      refine List.nodup_cons.mpr ⟨fun hm => ?_, d⟩
      obtain ⟨p, hp, e⟩ := List.mem_map.mp hm
      have := Heap.lt_size (N p hp).1
      rw [e] at this
      exact absurd this (Nat.not_lt.mpr hn)⟩

/-- the library's rules speak of a frame and a ledger: this hands them one -/
theorem Raw.use (R : Raw W h₀ L fr fz m mu nw s) : ∃ Λ : Led, News h₀ L s.heap Λ ∧
    (∀ (s' : Shared) (D : Addr) (o : Obj), Fr h₀ L s'.heap m → News h₀ L s'.heap ((D, o) :: Λ) → (∀ p ∈ Λ, p.1 < D) → s'.gens = s.gens → s'.os = s.os → Raw W h₀ L fr fz m mu ((D, o) :: nw) s') ∧
    (∀ s' : Shared, Fr h₀ L s'.heap m → News h₀ L s'.heap Λ → Gs W s'.gens → s'.os = s.os → Raw W h₀ L fr fz m mu nw s') := by
  obtain ⟨tb, fr', a, b, N, d⟩ := R.led
  refine ⟨_, N, fun s' D o F' N' lt G O => ⟨F', R.T, G ▸ R.G, O.trans R.O, ⟨tb, fr', a, b, fun p hp => N' p ((lam_perm (D, o)).mem_iff.mp hp), ?_⟩⟩, fun s' F' N' G O => ⟨F', R.T, G, O.trans R.O, ⟨tb, fr', a, b, N', d⟩⟩⟩
  refine nodup_perm (lam_perm (D, o)).symm (List.nodup_cons.mpr ⟨fun hm => ?_, d⟩)
  obtain ⟨p, hp, e⟩ := List.mem_map.mp hm
  exact Nat.lt_irrefl _ (e ▸ lt p hp)

/-- a name of the frame is stored -/
theorem Raw.set (R : Raw W h₀ L fr fz m mu nw s) {h' : Heap} {m' : Str → Option Value} {t : Nat} (hn : h'.Ns L m') (hs : Heap.SameBut L s.heap h') : Raw W h₀ L fr fz m' mu nw { s with heap := h', toks := t } :=
  ⟨R.F.set hn hs, R.T, R.G, R.O, by
    obtain ⟨tb, fr', a, b, N, d⟩ := R.led
    exact ⟨tb, fr', a, b, N.set hs, d⟩⟩

theorem Raw.get (R : Raw W h₀ L fr fz m mu nw s) {p : Addr × Obj} (hp : p ∈ nw) : s.heap.get? p.1 = some p.2 := by
  obtain ⟨tb, fr', a, b, N, d⟩ := R.led
  exact (N p (mem_lam.mpr (.inr (.inr (.inr (.inr hp)))))).1
theorem Raw.list (R : Raw W h₀ L fr fz m mu nw s) {D : Addr} {vs : List Value} {c : Nat} (hp : (D, listOf vs.toArray c) ∈ nw) : s.heap.IsList D vs.toArray := ⟨_, R.get hp, rfl, c, rfl⟩
end

/-! ## the data of ints -/
noncomputable abbrev dis (ns : List Int) : List Dat := ns.map Dat.int
noncomputable abbrev li (ns : List Int) : Dat := .list (dis ns)
theorem datAll_ints {nw : Led} : ∀ {vs : List Value} {ns : List Int}, DatAll nw vs (dis ns) → IntsAre vs ns
  | [], [], _ => .nil
  | _ :: _, _ :: _, h => by
    cases h with
    | cons a b =>
      cases a
      exact .cons _ _ (datAll_ints b)
  | [], _ :: _, h => nomatch h
  | _ :: _, [], h => nomatch h
end Mine

open PySem PySem.W PyProof.Rows PySem.Calls PySem.Spec
set_option Elab.async false
set_option maxRecDepth 100000
set_option genInjectivity false
set_option genSizeOf false
namespace Mine

inductive FrEnvs : List Env → Led → Prop
  | nil : FrEnvs [] []
  | cons {env : Env} {outer : List Env} {L : Addr} {o : Obj} {fr : Led} : env.scope.kind ≠ .module → env.frame = some L → (∃ es n, o.data = .dict es n) → FrEnvs outer fr → FrEnvs (env :: outer) ((L, o) :: fr)
theorem FrEnvs.ups {l : List Env} {a b : Led} (x : FrEnvs l a) (u : Ups a b) : FrEnvs l b := by
  induction x generalizing b with
  | nil => cases u; exact .nil
  | cons h1 h2 h3 _ ih => cases u with | cons u' => exact .cons h1 h2 h3 (ih u')
/-- the frames that are known are those of the ledger -/
noncomputable def FrA (A : Around) (L : Addr) (fr : Led) : Prop := ∀ l, A.frames = some l → ∃ env outer, l = env :: outer ∧ env.scope.kind ≠ .module ∧ env.frame = some L ∧ FrEnvs outer fr

/-- the place of a call: how deep it may still go -/
structure Room (A : Around) (lv : Nat) : Prop where
  hh : A.handled = none
  hd : A.depth + lv ≤ 500
  hu : A.units + 20 * lv ≤ 5000

noncomputable def Sub (a b : Led) : Prop := ∀ p ∈ a, p ∈ b
theorem Sub.refl (a : Led) : Sub a a := fun _ h => h
theorem Sub.trans {a b c : Led} (x : Sub a b) (y : Sub b c) : Sub a c := fun p h => y p (x p h)
theorem Sub.cons {a : Led} {q : Addr × Obj} : Sub a (q :: a) := fun _ h => .tail _ h

/-- the contract of a def: it hands back r for the data ds, whoever calls it, and turns nothing -/
noncomputable def CallE (W : Wo) (lv : Nat) (f : Addr) (ds : List Dat) (r : Dat) : Prop :=
  ∀ (A : Around) (h₀ : Heap) (L : Addr) (fr fz : Led) (m : Str → Option Value) (mu nw : Led) (s : Shared) (vs : List Value) (Q : Value → Shared → Prop) (E : Value → Shared → Prop),
    Room A lv → FrA A L fr → Raw W h₀ L fr fz m mu nw s → DatAll nw vs ds →
    (∀ v s' nw', Raw W h₀ L fr fz m mu nw' s' → Sub nw nw' → DatIn nw' v r → Q v s') → wpAny W.M A (call (.ref f) vs) Q E s

/-- one activation of a def of the text -/
structure Cx (W : Wo) (qual : Str) (scope : Scope) (f : Addr) (cdv : Value) where
  A : Around
  L : Addr
  h₀ : Heap
  fr : Led
  fz : Led
  n₀ : Led
  lv : Nat
  hk : scope.kind = .function
  room : Room A lv
  hf : FrA A L fr
  cl : List (Str × Addr)
  cf : Led
  ck : List (Str × Dat)
  hc : ∀ x d, ck.lookup x = some d → ∃ c o v, cl.lookup x = some c ∧ (c, o) ∈ cf ∧ o.data = .cell (some v) ∧ DatIn n₀ v d
  he : ∀ l, A.frames = some l → ∃ o, l = envX qual scope L f cdv cl :: o
noncomputable abbrev Cx.env {W : Wo} {qual : Str} {scope : Scope} {f : Addr} {cdv : Value} (C : Cx W qual scope f cdv) : Env := envX qual scope C.L f cdv C.cl

noncomputable abbrev Rho := List (Str × Dat)
/-- what is known of the names: the frame's own and the cells -/
structure Loc {W : Wo} {qual : Str} {scope : Scope} {f : Addr} {cdv : Value} (C : Cx W qual scope f cdv) (fz : Led) (ρ : Rho) (m : Str → Option Value) (nw : Led) : Prop where
  cells : ∀ p ∈ C.cf, p ∈ fz
  base : Sub C.n₀ nw
  names : ∀ x d, ρ.lookup x = some d → ∃ v, m x = some v ∧ DatIn nw v d
theorem Loc.mono {W : Wo} {qual : Str} {scope : Scope} {f : Addr} {cdv : Value} {C : Cx W qual scope f cdv} {fz : Led} {ρ : Rho} {m : Str → Option Value} {nw nw' : Led} (l : Loc C fz ρ m nw) (h : Sub nw nw') : Loc C fz ρ m nw' :=
  ⟨l.cells, l.base.trans h, fun x d e => let ⟨v, a, b⟩ := l.names x d e; ⟨v, a, b.mono h⟩⟩
theorem Loc.on {W : Wo} {qual : Str} {scope : Scope} {f : Addr} {cdv : Value} {C : Cx W qual scope f cdv} {fz fz' : Led} {ρ : Rho} {m : Str → Option Value} {nw : Led} (l : Loc C fz ρ m nw) (h : ∀ p ∈ C.cf, p ∈ fz') : Loc C fz' ρ m nw :=
  ⟨h, l.base, l.names⟩
theorem Loc.more {W : Wo} {qual : Str} {scope : Scope} {f : Addr} {cdv : Value} {C : Cx W qual scope f cdv} {fz fz' : Led} {ρ : Rho} {m : Str → Option Value} {nw : Led} (l : Loc C fz ρ m nw) (h : ∀ p ∈ fz, p ∈ fz') : Loc C fz' ρ m nw :=
  ⟨fun p hp => h p (l.cells p hp), l.base, l.names⟩

/-- the one list that the frame fills -/
noncomputable def MutIs (μ : Option (Str × List Dat)) (m : Str → Option Value) (mu nw : Led) : Prop := match μ with
  | none => mu = []
  | some (x, ds) => ∃ D vs c, mu = [(D, listOf vs.toArray c)] ∧ m x = some (.ref D) ∧ DatAll nw vs ds
theorem MutIs.mono {μ : Option (Str × List Dat)} {m : Str → Option Value} {mu nw nw' : Led} (l : MutIs μ m mu nw) (h : Sub nw nw') : MutIs μ m mu nw' := by
  cases μ with
  | none => exact l
  | some p => obtain ⟨D, vs, c, a, b, d⟩ := l; exact ⟨D, vs, c, a, b, d.mono h⟩

section
variable {W : Wo} {qual : Str} {scope : Scope} {f : Addr} {cdv : Value}
noncomputable abbrev RawC (C : Cx W qual scope f cdv) (fz : Led) (m : Str → Option Value) (mu nw : Led) (s : Shared) : Prop := Raw W C.h₀ C.L C.fr fz m mu nw s
/-- the state between two statements -/
noncomputable def St (C : Cx W qual scope f cdv) (H : Led × Led) (ρ : Rho) (μ : Option (Str × List Dat)) (s : Shared) : Prop :=
  (C.fz.Sublist H.1 ∧ Sub C.n₀ H.2) ∧ ∃ m mu nw, RawC C H.1 m mu nw s ∧ Loc C H.1 ρ m nw ∧ MutIs μ m mu nw ∧ Sub H.2 nw
/-- an expression's datum -/
structure EvE (C : Cx W qual scope f cdv) (ρ : Rho) (e : Expr) (d : Dat) : Prop where
  run : ∀ (fz : Led) (m : Str → Option Value) (mu nw : Led) (s : Shared) (Q : Value → Shared → Prop) (E : Value → Shared → Prop), RawC C fz m mu nw s → Loc C fz ρ m nw →
    (∀ v s' nw', RawC C fz m mu nw' s' → Sub nw nw' → DatIn nw' v d → Q v s') → wpAny W.M C.A (eval e C.env) Q E s
/-- a test's answer -/
structure TsE (C : Cx W qual scope f cdv) (ρ : Rho) (e : Expr) (b : Bool) : Prop where
  run : ∀ (fz : Led) (m : Str → Option Value) (mu nw : Led) (s : Shared) (Q : Bool → Shared → Prop) (E : Value → Shared → Prop), RawC C fz m mu nw s → Loc C fz ρ m nw →
    (∀ s' nw', RawC C fz m mu nw' s' → Sub nw nw' → Q b s') → wpAny W.M C.A (isTrue e C.env (eval e C.env)) Q E s
/-- what is handed back -/
noncomputable def Ret (C : Cx W qual scope f cdv) (r : Dat) (v : Value) (s : Shared) : Prop := ∃ fz m mu nw, C.fz.Sublist fz ∧ RawC C fz m mu nw s ∧ Sub C.n₀ nw ∧ DatIn nw v r
noncomputable def Fin (C : Cx W qual scope f cdv) (r : Dat) (fl : Flow) (s : Shared) : Prop := Ret C r (match fl with | .ret v => v | _ => .none) s
end

noncomputable def paramsOf : Stmt → Arguments
  | .FunctionDef _ a .. => a
  | _ => default
noncomputable def bodyOf : Stmt → List Stmt
  | .FunctionDef _ _ b .. => b
  | _ => []
noncomputable def scopeOf : Stmt → Scope
  | .FunctionDef _ _ _ _ _ _ sc .. => sc
  | _ => default

/-- the def stands at the top -/
structure FnAt (W : Wo) (n : Str) (f : Addr) (st : Stmt) (cdv : Value) : Prop where
  g : W.mg n = some (.ref f)
  o : ∃ oc od osl doc pm an ct, W.K.lookup f = some ⟨oc, od, .func (fnOf n n (paramsOf st) (bodyOf st) (scopeOf st) .none .none doc pm an cdv ct), osl⟩
  c : codeIn W.K cdv n = true

theorem lookup_zip {α : Type} {ps : List Str} : ∀ {ds : List α} {x : Str} {d : α}, (ps.zip ds).lookup x = some d → ∃ i : Nat, ps[i]? = some x ∧ ds[i]? = some d := by
  induction ps with
  | nil => intro ds x d h; simp at h
  | cons p ps ih =>
    intro ds x d h
    cases ds with
    | nil => simp at h
    | cons e ds =>
      rw [List.zip_cons_cons, List.lookup_cons] at h
      split at h
      · rename_i q
        refine ⟨0, ?_, ?_⟩
        · simp; exact (beq_iff_eq.mp q).symm
        · simpa using h
      · obtain ⟨i, a, b⟩ := ih h
        exact ⟨i + 1, by simpa using a, by simpa using b⟩
theorem lookup_of_mem {α : Type} {x : Str} {v : α} : ∀ {l : List (Str × α)}, (l.map (·.1)).Nodup → (x, v) ∈ l → l.lookup x = some v
  | [], _, h => nomatch h
  | (y, w) :: l, d, h => by
    rw [List.lookup_cons]
    rcases List.mem_cons.mp h with e | h'
    · cases e; simp
    · have hn := List.nodup_cons.mp d
      have hxy : (x == y) = false := by
        refine beq_eq_false_iff_ne.mpr fun e => hn.1 ?_
        subst e
        exact List.mem_map.mpr ⟨_, h', rfl⟩
      rw [hxy]
      exact lookup_of_mem hn.2 h'
theorem datAll_at {nw : Led} : ∀ {vs : List Value} {ds : List Dat} {i : Nat} {d : Dat}, DatAll nw vs ds → ds[i]? = some d → ∃ v, vs[i]? = some v ∧ DatIn nw v d
  | _, _, _, _, .nil, h => by simp at h
  | _, _, 0, _, .cons a _, h => by simp at h; subst h; exact ⟨_, rfl, a⟩
  | _, _, i + 1, _, .cons _ b, h => by
    obtain ⟨v, x, y⟩ := datAll_at b (i := i) (by simpa using h)
    exact ⟨v, by simpa using x, y⟩
theorem loc_zip {ps : List Str} {vs : List Value} {ds : List Dat} {nw : Led} (hn : ps.Nodup) (h : DatAll nw vs ds) (hl : ps.length = ds.length) : ∀ x d, (ps.zip ds).lookup x = some d → ∃ v, (fun x => (ps.zip vs).reverse.lookup x) x = some v ∧ DatIn nw v d := by
  intro x d e
  obtain ⟨i, a, b⟩ := lookup_zip e
  obtain ⟨v, c, z⟩ := datAll_at h b
  refine ⟨v, ?_, z⟩
  have hlen : ps.length = vs.length := hl.trans h.length.symm
  have hk : ((ps.zip vs).map (·.1)) = ps := List.map_fst_zip (Nat.le_of_eq hlen)
  refine lookup_of_mem ?_ ?_
  · rw [List.map_reverse, hk]; exact (List.reverse_perm ps).nodup_iff.mpr hn
  · rw [List.mem_reverse]
    refine List.mem_of_getElem? (i := i) ?_
    rw [List.getElem?_zip_eq_some]
    exact ⟨a, c⟩

theorem hide_stays {h₀ h : Heap} {l : List Addr} (k : ∀ b o, h₀.get? b = some o → h.get? b = some o) (n : ∀ b ∈ l, h₀.get? b = none) : ∀ b o, h₀.get? b = some o → (hideAll h l).get? b = some o :=
  fun b o e => hideAll_get _ (k b o e) fun m => by rw [n b m] at e; cases e

/-- how the callee's ground hangs on the caller's -/
structure Link {W : Wo} {qual : Str} {scope : Scope} {f : Addr} {cdv : Value} (C : Cx W qual scope f cdv) (A : Around) (h₀ : Heap) (L : Addr) (fr fz : Led) (m : Str → Option Value) (mu nw : Led) : Prop where
  T : At W h₀
  above : h₀.objs.size ≤ L
  st0 : ∀ b o, h₀.get? b = some o → C.h₀.get? b = some o
  frame : ∃ oL fr' es ep, C.fr = (L, oL) :: fr' ∧ Ups fr fr' ∧ oL.data = .dict es ep ∧ StrKeys es ∧ ∀ name, nsFind es name = m name
  fz : C.fz = mu ++ fz
  n₀ : C.n₀ = nw
  frames : C.A.frames = A.frames.map (C.env :: ·)

theorem Link.back {W : Wo} {qual : Str} {scope : Scope} {f : Addr} {cdv : Value} {C : Cx W qual scope f cdv} {A : Around} {h₀ : Heap} {L : Addr} {fr fz : Led} {m : Str → Option Value} {mu nw : Led} (K : Link C A h₀ L fr fz m mu nw)
    {fz' : Led} {m' : Str → Option Value} {mu' nw' : Led} {s' : Shared} (hfz : C.fz.Sublist fz') (R' : RawC C fz' m' mu' nw' s') : Raw W h₀ L fr fz m mu nw' s' := by
  obtain ⟨oL, fr', es, ep, hfr, hu, hLd, hLk, hLf⟩ := K.frame
  obtain ⟨tb₂, fr₂, t2, u2, N2, nd2⟩ := R'.led
  rw [hfr] at u2
  rw [K.fz] at hfz
  cases u2 with
  | cons u3 =>
    rename_i sl fr₃
    have hLs : s'.heap.get? L = some { oL with slots := sl } := (N2 (L, { oL with slots := sl }) (mem_lam.mpr (.inr (.inl (.head _))))).1
    have keep' : ∀ b o, h₀.get? b = some o → s'.heap.get? b = some o := fun b o e => R'.F.keep b o (K.st0 b o e)
    have sl2 : (lam tb₂ fr₃ mu fz nw').Sublist (lam tb₂ ((L, { oL with slots := sl }) :: fr₃) mu' fz' nw') := by
      unfold lam
      refine List.Sublist.append_left ?_ tb₂
      refine List.Sublist.trans ?_ (List.sublist_cons_self _ _)
      refine List.Sublist.append_left ?_ fr₃
      rw [← List.append_assoc]
      exact (List.Sublist.append_right hfz nw').trans (List.sublist_append_right _ _)
    have nd3 : (adrs (lam tb₂ fr₃ mu fz nw')).Nodup := nd2.sublist (sl2.map _)
    have nL2 : L ∉ adrs (lam tb₂ fr₃ mu fz nw') := by
      have hp : (lam tb₂ ((L, { oL with slots := sl }) :: fr₃) mu' fz' nw').Perm ((L, { oL with slots := sl }) :: lam tb₂ fr₃ mu' fz' nw') := by
        unfold lam; exact List.perm_middle
      have := (List.nodup_cons.mp (nodup_perm hp nd2)).1
      refine fun q => this ?_
      obtain ⟨p, hp, e⟩ := List.mem_map.mp q
      refine List.mem_map.mpr ⟨p, ?_, e⟩
      rcases mem_lam.mp hp with h | h | h | h | h
      · exact mem_lam.mpr (.inl h)
      · exact mem_lam.mpr (.inr (.inl h))
      · exact mem_lam.mpr (.inr (.inr (.inr (.inl (hfz.subset (List.mem_append_left _ h))))))
      · exact mem_lam.mpr (.inr (.inr (.inr (.inl (hfz.subset (List.mem_append_right _ h))))))
      · exact mem_lam.mpr (.inr (.inr (.inr (.inr h))))
    refine ⟨⟨⟨_, es, ep, hLs, hLd, hLk, hLf⟩, keep', K.above⟩, K.T, R'.G, R'.O, ⟨tb₂, fr₃, t2, hu.trans u3, fun p hp => ⟨(N2 p (sl2.subset hp)).1, fun q => nL2 ?_, ?_⟩, nd3⟩⟩
    · exact q ▸ List.mem_map_of_mem hp
    · cases q : h₀.get? p.1 with
      | none => rfl
      | some o => have := (N2 p (sl2.subset hp)).2.2; rw [K.st0 _ _ q] at this; cases this

/-- a def is entered -/
theorem call_gen {W : Wo} {n : Str} {f : Addr} {st : Stmt} {cdv : Value} {lv : Nat} {ds : List Dat} (ps : List Str) (H : FnAt W n f st cdv)
    (hb : ∀ (doc pm : Value) (an : Option Addr) (ct : Value) (vs : List Value), vs.length = ds.length → bindArgs (fnOf n n (paramsOf st) (bodyOf st) (scopeOf st) .none .none doc pm an cdv ct) ⟨vs, []⟩ = pure (ps.zip vs))
    (hl : ps.length = ds.length) (hn : ps.Nodup) (hloc : ∀ x ∈ ps, (scopeOf st).names.lookup x = some .local)
    (hco : (scopeOf st).isCoroutine = false) (hgen : (scopeOf st).isGenerator = false) (hk : (scopeOf st).kind = .function) (hcell : ∀ x ∈ (scopeOf st).names, x.2 ≠ .cell)
    {A : Around} {h₀ : Heap} {L : Addr} {fr fz : Led} {m : Str → Option Value} {mu nw : Led} {s : Shared} {vs : List Value} {Q : Value → Shared → Prop} {E : Value → Shared → Prop}
    (room : Room A (lv + 1)) (hfr : FrA A L fr) (R : Raw W h₀ L fr fz m mu nw s) (hvs : DatAll nw vs ds)
    (h : ∀ (C : Cx W n (scopeOf st) f cdv) (s : Shared), C.lv = lv → Link C A h₀ L fr fz m mu nw → St C (C.fz, C.n₀) (ps.zip ds) none s →
      wpAny W.M C.A (execs (bodyOf st) C.env) (fun fl s' => Q (match fl with | .ret v => v | _ => .none) s') (fun e s' => wpAny W.M C.A (leaving C.env e) (fun _ s'' => E e s'') (fun e' s'' => E e' s'') s') s) :
    wpAny W.M A (call (.ref f) vs) Q E s := by
  obtain ⟨oc, od, osl, doc, pm, an, ct, ho⟩ := H.o
  have X := R.now.X
  refine wpAny_call ?_
  refine codeAny_call_def (fd := fnOf n n (paramsOf st) (bodyOf st) (scopeOf st) .none .none doc pm an cdv ct) (body := bodyOf st) (binds := ps.zip vs) (by have := room.hd; have : recursionLimit = 1000 := rfl; omega) (X _ _ ho) rfl R.now.nolimit (codeRec_of X H.c) rfl
    (BindsTo.of_eq (hb doc pm an ct vs hvs.length)) hcell (fun x hx => ?_) (fun h₁ hns hk₁ => ?_) hco hgen hk
  · exact hloc _ (List.of_mem_zip hx).1
  obtain ⟨tb, fr', ht, hu, N, nd⟩ := R.led
  obtain ⟨oL, es, ep, hL, hLd, hLk, hLf⟩ := id R.F.ns
  have hLn : h₀.get? L = none := by
    cases q : h₀.get? L with
    | none => rfl
    | some o => exact absurd (Heap.lt_size q) (Nat.not_lt.mpr R.F.above)
  -- what is hidden from the callee's ground
  let hid : List Addr := L :: adrs (lam tb fr' mu fz nw)
  have hidn : ∀ b ∈ hid, h₀.get? b = none := by
    intro b hb
    rcases List.mem_cons.mp hb with rfl | hb
    · exact hLn
    · obtain ⟨p, hp, rfl⟩ := List.mem_map.mp hb
      exact (N p hp).2.2
  have st0 := hide_stays (h := s.heap) R.F.keep hidn
  have hsz : (hideAll s.heap hid).objs.size = s.heap.objs.size := hideAll_size _ _
  have nL : L ∉ adrs (lam tb fr' mu fz nw) := fun q => by
    obtain ⟨p, hp, e⟩ := List.mem_map.mp q
    exact (N p hp).2.1 e
  have N' : News (hideAll s.heap hid) s.heap.objs.size h₁ (lam tb ((L, oL) :: fr') [] (mu ++ fz) nw) := by
    intro p hp
    have hp' : p = (L, oL) ∨ p ∈ lam tb fr' mu fz nw := by
      rcases mem_lam.mp hp with h | h | h | h | h
      · exact .inr (mem_lam.mpr (.inl h))
      · rcases List.mem_cons.mp h with rfl | h
        · exact .inl rfl
        · exact .inr (mem_lam.mpr (.inr (.inl h)))
      · cases h
      · rcases List.mem_append.mp h with h | h
        · exact .inr (mem_lam.mpr (.inr (.inr (.inl h))))
        · exact .inr (mem_lam.mpr (.inr (.inr (.inr (.inl h)))))
      · exact .inr (mem_lam.mpr (.inr (.inr (.inr (.inr h)))))
    rcases hp' with rfl | hp'
    · exact ⟨hk₁ _ _ hL, Nat.ne_of_lt (Heap.lt_size hL), hideAll_none _ (.head _)⟩
    · exact ⟨hk₁ _ _ (N p hp').1, Nat.ne_of_lt (Heap.lt_size (N p hp').1), hideAll_none _ (.tail _ (List.mem_map_of_mem hp'))⟩
  have nd' : (adrs (lam tb ((L, oL) :: fr') [] (mu ++ fz) nw)).Nodup := by
    have hp : (lam tb ((L, oL) :: fr') [] (mu ++ fz) nw).Perm ((L, oL) :: lam tb fr' mu fz nw) := by
      unfold lam
      rw [List.nil_append, List.append_assoc]
      exact List.perm_middle
    exact nodup_perm hp.symm (List.nodup_cons.mpr ⟨nL, nd⟩)
  have Fc : Fr (hideAll s.heap hid) s.heap.objs.size h₁ (fun x => (ps.zip vs).reverse.lookup x) := ⟨hns, fun b o e => hk₁ b o (of_hideAll _ e), Nat.le_of_eq hsz⟩
  have room' : Room (A.deeper (envOf n (scopeOf st) s.heap.objs.size f cdv)) lv := ⟨room.hh, by have := room.hd; show A.depth + 1 + lv ≤ 500; omega, by have := room.hu; show A.units + 3 + 20 * lv ≤ 5000; omega⟩
  have hfr' : FrA (A.deeper (envOf n (scopeOf st) s.heap.objs.size f cdv)) s.heap.objs.size ((L, oL) :: fr') := by
    intro l hl
    have hl' : A.frames.map (envOf n (scopeOf st) s.heap.objs.size f cdv :: ·) = some l := hl
    cases hA : A.frames with
    | none => rw [hA] at hl'; cases hl'
    | some l₀ =>
      rw [hA] at hl'
      have e : envOf n (scopeOf st) s.heap.objs.size f cdv :: l₀ = l := Option.some.inj hl'
      obtain ⟨env, outer, e1, k1, k2, k3⟩ := hfr l₀ hA
      exact ⟨_, l₀, e.symm, by show (scopeOf st).kind ≠ .module; rw [hk]; decide, rfl, e1 ▸ .cons k1 k2 ⟨es, ep, hLd⟩ (k3.ups hu)⟩
  have he' : ∀ l, (A.deeper (envOf n (scopeOf st) s.heap.objs.size f cdv)).frames = some l → ∃ o, l = envOf n (scopeOf st) s.heap.objs.size f cdv :: o := by
    intro l hl
    have hl' : A.frames.map (envOf n (scopeOf st) s.heap.objs.size f cdv :: ·) = some l := hl
    cases hA : A.frames with
    | none => rw [hA] at hl'; cases hl'
    | some l₀ =>
      rw [hA] at hl'
      exact ⟨l₀, (Option.some.inj hl').symm⟩
  let C : Cx W n (scopeOf st) f cdv := ⟨_, s.heap.objs.size, hideAll s.heap hid, (L, oL) :: fr', mu ++ fz, nw, lv, hk, room', hfr', [], [], [], (fun _ _ h => nomatch h), he'⟩
  have RC : RawC C C.fz (fun x => (ps.zip vs).reverse.lookup x) [] nw { s with heap := h₁, toks := s.toks + (ps.zip vs).length } :=
    ⟨Fc, R.T.keeps st0, R.G, R.O, ⟨tb, (L, oL) :: fr', ht, Ups.refl _, N', nd'⟩⟩
  exact h C _ rfl ⟨R.T, R.F.above, st0, ⟨oL, fr', es, ep, rfl, hu, hLd, hLk, hLf⟩, rfl, rfl, rfl⟩ ⟨⟨List.Sublist.refl _, Sub.refl _⟩, _, [], nw, RC, ⟨(fun _ h => nomatch h), Sub.refl _, loc_zip hn hvs hl⟩, rfl, Sub.refl _⟩

theorem call_of {W : Wo} {n : Str} {f : Addr} {st : Stmt} {cdv : Value} {lv : Nat} {ds : List Dat} {r : Dat} (ps : List Str) (H : FnAt W n f st cdv)
    (hb : ∀ (doc pm : Value) (an : Option Addr) (ct : Value) (vs : List Value), vs.length = ds.length → bindArgs (fnOf n n (paramsOf st) (bodyOf st) (scopeOf st) .none .none doc pm an cdv ct) ⟨vs, []⟩ = pure (ps.zip vs))
    (hl : ps.length = ds.length) (hn : ps.Nodup) (hloc : ∀ x ∈ ps, (scopeOf st).names.lookup x = some .local)
    (hco : (scopeOf st).isCoroutine = false) (hgen : (scopeOf st).isGenerator = false) (hk : (scopeOf st).kind = .function) (hcell : ∀ x ∈ (scopeOf st).names, x.2 ≠ .cell)
    (h : ∀ (C : Cx W n (scopeOf st) f cdv) (s : Shared), C.lv = lv → St C (C.fz, C.n₀) (ps.zip ds) none s → wpAny W.M C.A (execs (bodyOf st) C.env) (Fin C r) (fun _ _ => False) s) :
    CallE W (lv + 1) f ds r := by
  intro A h₀ L fr fz m mu nw s vs Q E room hfr R hvs hQ
  refine call_gen ps H hb hl hn hloc hco hgen hk hcell room hfr R hvs fun C s₁ hlv K S => ?_
  refine wpAny_mono (h C s₁ hlv S) (fun fl s' hf => ?_) (fun _ _ x => x.elim)
  obtain ⟨fz', m', mu', nw', hfz, R', hs', hd'⟩ := hf
  exact hQ _ s' nw' (K.back hfz R') (K.n₀ ▸ hs') hd'
end Mine

open PySem PySem.W PyProof.Rows PySem.Calls PySem.Spec
set_option Elab.async false
set_option maxRecDepth 100000
set_option genInjectivity false
set_option genSizeOf false
namespace Mine
theorem noMarks {op : CmpOp} (h : (op == .In || op == .NotIn) = false) (r : Expr) : behindInMarks op r = false := by
  cases r <;> first | rfl | (show (_ && (op == .In || op == .NotIn) && _) = false; rw [h, Bool.and_false]; rfl)
theorem datIn_list {nw : Led} {v : Value} {ds : List Dat} (h : DatIn nw v (.list ds)) : ∃ a vs c, v = .ref a ∧ (a, listOf vs.toArray c) ∈ nw ∧ DatAll nw vs ds := by
  cases h with | list hm ha => exact ⟨_, _, _, rfl, hm, ha⟩
theorem datIn_tuple {nw : Led} {v : Value} {ds : List Dat} (h : DatIn nw v (.tuple ds)) : ∃ a vs c, v = .ref a ∧ (a, ({ cls := .type "tuple", data := .seq vs.toArray c } : Obj)) ∈ nw ∧ DatAll nw vs ds := by
  cases h with | tuple hm ha => exact ⟨_, _, _, rfl, hm, ha⟩
theorem datIn_int {nw : Led} {v : Value} {i : Int} (h : DatIn nw v (.int i)) : ∃ t, v = .int i t := by cases h; exact ⟨_, rfl⟩
theorem sizeLine_lt : (sizeLine : Int) < 2 ^ 63 := by decide

section
variable {W : Wo} {qual : Str} {scope : Scope} {f : Addr} {cdv : Value} {C : Cx W qual scope f cdv} {ρ : Rho} {pos px : Pos}

/-! ## names, constants -/
theorem ldG {A' : Around} {x : Str} {mg : Str → Option Value} {v : Value} {s : Shared} {m : Str → Option Value} {Q : Value → Shared → Prop} {E : Value → Shared → Prop} (F : Fr C.h₀ C.L s.heap m) (hg : C.h₀.Ns mainGlobals mg) (hb : mg x = some v) (h : Q v s) (hx : scope.names.lookup x = some .globalImplicit) (hd : (x == ("__debug__" : Str)) = false) :
    wpAny W.M A' (eval (.Name x pos) C.env) Q E s := Calls.Name_function_global C.hk hx (Calls.loadGlobal_global (env := C.env) (hg.keeps F.keep) hb h) hd
theorem ldL {x : Str} {v : Value} {s : Shared} {m : Str → Option Value} {Q : Value → Shared → Prop} {E : Value → Shared → Prop} (F : Fr C.h₀ C.L s.heap m) (hv : m x = some v) (h : Q v s) (hx : scope.names.lookup x = some .local) (hd : (x == ("__debug__" : Str)) = false) :
    wpAny W.M C.A (eval (.Name x pos) C.env) Q E s := wpAny_Name (wpAny_loadName_local C.hk hx F.ns hv h) hd
/-- a name that is a cell -/
theorem ev_cell {x : Str} {d : Dat} (h : C.ck.lookup x = some d) (hl : scope.names.lookup x = some .cell) (hd : (x == ("__debug__" : Str)) = false) : EvE C ρ (.Name x pos) d := by
  constructor; intro fz m mu nw s Q E R lo k
  obtain ⟨c, o, v, h1, h2, h3, h4⟩ := C.hc x d h
  obtain ⟨tb, fr', _, _, N, _⟩ := R.led
  have hc := (N (c, o) (mem_lam.mpr (.inr (.inr (.inr (.inl (lo.cells _ h2))))))).1
  exact wpAny_Name (wpAny_loadName_cell C.hk hl h1 ⟨o, hc, h3⟩ (k v s nw R (Sub.refl _) (h4.mono lo.base))) hd
theorem ev_name {x : Str} {d : Dat} (h : ρ.lookup x = some d) (hl : scope.names.lookup x = some .local) (hd : (x == ("__debug__" : Str)) = false) : EvE C ρ (.Name x pos) d := by
  constructor; intro fz m mu nw s Q E R l k
  obtain ⟨v, hv, hd'⟩ := l.names x d h
  exact ldL R.F hv (k v s nw R (Sub.refl _) hd') hl hd
theorem ev_int {i : Int} {k : Nat} : EvE C ρ (.Constant (.int i) k pos) (.int i) :=
  ⟨fun _ _ _ nw _ _ _ R _ k => wpAny_Constant_int (k _ _ nw (R.toks _) (Sub.refl _) (.int _ _))⟩
theorem ev_bool {b : Bool} {k : Nat} : EvE C ρ (.Constant (.bool b) k pos) (.bool b) :=
  ⟨fun _ _ _ nw _ _ _ R _ k => Constant_bool (k _ _ nw R (Sub.refl _) (.bool _))⟩
theorem ev_none {k : Nat} : EvE C ρ (.Constant .none k pos) .none :=
  ⟨fun _ _ _ nw _ _ _ R _ k => Constant_none (k _ _ nw R (Sub.refl _) .none)⟩

/-! ## arithmetic -/
theorem ev_bin {l r : Expr} {op : Operator} {d1 d2 d : Dat} (h1 : EvE C ρ l d1) (h2 : EvE C ρ r d2)
    (h : ∀ (fz : Led) (m : Str → Option Value) (mu nw : Led) (s : Shared) (v1 v2 : Value) (Q : Value → Shared → Prop) (E : Value → Shared → Prop), RawC C fz m mu nw s → DatIn nw v1 d1 → DatIn nw v2 d2 →
      (∀ v s' nw', RawC C fz m mu nw' s' → Sub nw nw' → DatIn nw' v d → Q v s') → wpAny W.M C.A (binaryOp op v1 v2) Q E s) : EvE C ρ (.BinOp l op r pos) d := by
  constructor; intro fz m mu nw s Q E R lo k
  refine wpAny_BinOp (h1.run fz m mu nw s _ _ R lo fun v1 s1 n1 R1 e1 i1 => ?_)
  refine h2.run fz m mu n1 s1 _ _ R1 (lo.mono e1) fun v2 s2 n2 R2 e2 i2 => ?_
  exact h fz m mu n2 s2 v1 v2 Q E R2 (i1.mono e2) i2 fun v s' nw' R' e' i' => k v s' nw' R' ((e1.trans e2).trans e') i'
theorem ev_add {l r : Expr} {a b : Int} (h1 : EvE C ρ l (.int a)) (h2 : EvE C ρ r (.int b)) : EvE C ρ (.BinOp l .Add r pos) (.int (a + b)) :=
  ev_bin h1 h2 fun fz m mu nw s v1 v2 Q E R i1 i2 k => by cases i1; cases i2; exact add_int (k _ _ nw (R.toks _) (Sub.refl _) (.int _ _))
theorem ev_sub {l r : Expr} {a b : Int} (h1 : EvE C ρ l (.int a)) (h2 : EvE C ρ r (.int b)) : EvE C ρ (.BinOp l .Sub r pos) (.int (a - b)) :=
  ev_bin h1 h2 fun fz m mu nw s v1 v2 Q E R i1 i2 k => by cases i1; cases i2; exact sub_int (k _ _ nw (R.toks _) (Sub.refl _) (.int _ _))
theorem ev_mul {l r : Expr} {a b : Int} (h1 : EvE C ρ l (.int a)) (h2 : EvE C ρ r (.int b)) (hm : IntMulOk a b) : EvE C ρ (.BinOp l .Mult r pos) (.int (a * b)) :=
  ev_bin h1 h2 fun fz m mu nw s v1 v2 Q E R i1 i2 k => by cases i1; cases i2; exact mul_int (k _ _ nw (R.toks _) (Sub.refl _) (.int _ _)) hm
theorem ev_mod {l r : Expr} {a b : Int} (h1 : EvE C ρ l (.int a)) (h2 : EvE C ρ r (.int b)) (hb : 0 < b) : EvE C ρ (.BinOp l .Mod r pos) (.int (a % b)) :=
  ev_bin h1 h2 fun fz m mu nw s v1 v2 Q E R i1 i2 k => by
    cases i1; cases i2
    refine mod_int' (by omega) ?_
    rw [Int.fmod_eq_emod_of_nonneg _ (Int.le_of_lt hb)]
    exact k _ _ nw (R.toks _) (Sub.refl _) (.int _ _)
theorem ev_div {l r : Expr} {a b : Int} (h1 : EvE C ρ l (.int a)) (h2 : EvE C ρ r (.int b)) (hb : 0 < b) (hs : b < 1000000000) : EvE C ρ (.BinOp l .FloorDiv r pos) (.int (a / b)) :=
  ev_bin h1 h2 fun fz m mu nw s v1 v2 Q E R i1 i2 k => by
    cases i1; cases i2
    refine floordiv_int (by omega) ?_ (.inl (PyProof.noPylong_small (by omega)))
    rw [Int.fdiv_eq_ediv_of_nonneg _ (Int.le_of_lt hb)]
    exact k _ _ nw (R.toks _) (Sub.refl _) (.int _ _)

/-! ## tests -/
theorem ts_cmp {l r : Expr} {op : CmpOp} {d1 d2 : Dat} {b : Bool} (h1 : EvE C ρ l d1) (h2 : EvE C ρ r d2) (hm : behindInMarks op r = false)
    (h : ∀ (fz : Led) (m : Str → Option Value) (mu nw : Led) (s : Shared) (v1 v2 : Value) (Q : Value → Shared → Prop) (E : Value → Shared → Prop), RawC C fz m mu nw s → DatIn nw v1 d1 → DatIn nw v2 d2 →
      (∀ s' nw', RawC C fz m mu nw' s' → Sub nw nw' → Q (.bool b) s') → wpAny W.M C.A (compareOp op v1 v2) Q E s) : TsE C ρ (.Compare l [op] [r] pos) b := by
  constructor; intro fz m mu nw s Q E R lo k
  refine wpAny_isTrue_Compare1 (h1.run fz m mu nw s _ _ R lo fun v1 s1 n1 R1 e1 i1 => ?_) hm
  refine h2.run fz m mu n1 s1 _ _ R1 (lo.mono e1) fun v2 s2 n2 R2 e2 i2 => ?_
  refine h fz m mu n2 s2 v1 v2 _ E R2 (i1.mono e2) i2 fun s' nw' R' e' => wpAny_truthy_bool (k s' nw' R' ((e1.trans e2).trans e'))
theorem ts_lt {l r : Expr} {a b : Int} (h1 : EvE C ρ l (.int a)) (h2 : EvE C ρ r (.int b)) : TsE C ρ (.Compare l [.Lt] [r] pos) (decide (a < b)) :=
  ts_cmp h1 h2 (noMarks rfl _) fun fz m mu nw s v1 v2 Q E R i1 i2 k => by cases i1; cases i2; exact lt_int (k _ nw R (Sub.refl _))
theorem ts_gt {l r : Expr} {a b : Int} (h1 : EvE C ρ l (.int a)) (h2 : EvE C ρ r (.int b)) : TsE C ρ (.Compare l [.Gt] [r] pos) (decide (a > b)) :=
  ts_cmp h1 h2 (noMarks rfl _) fun fz m mu nw s v1 v2 Q E R i1 i2 k => by cases i1; cases i2; exact gt_int (k _ nw R (Sub.refl _))
theorem ts_eq {l r : Expr} {a b : Int} (h1 : EvE C ρ l (.int a)) (h2 : EvE C ρ r (.int b)) : TsE C ρ (.Compare l [.Eq] [r] pos) (decide (a = b)) :=
  ts_cmp h1 h2 (noMarks rfl _) fun fz m mu nw s v1 v2 Q E R i1 i2 k => by cases i1; cases i2; exact eq_int (k _ nw R (Sub.refl _))
theorem ts_ne {l r : Expr} {a b : Int} (h1 : EvE C ρ l (.int a)) (h2 : EvE C ρ r (.int b)) : TsE C ρ (.Compare l [.NotEq] [r] pos) (decide (a ≠ b)) :=
  ts_cmp h1 h2 (noMarks rfl _) fun fz m mu nw s v1 v2 Q E R i1 i2 k => by
    cases i1; cases i2
    refine ne_int ?_
    have e : ∀ a b : Int, (a != b) = decide (a ≠ b) := fun a b => by by_cases h : a = b <;> simp [h]
    rw [e]
    exact k _ nw R (Sub.refl _)
theorem ts_not {x : Expr} {b : Bool} (h : TsE C ρ x b) : TsE C ρ (.UnaryOp .Not x pos) (!b) :=
  ⟨fun fz m mu nw s _ E R lo k => isTrue_not (h.run fz m mu nw s _ E R lo k)⟩
theorem ts_or2 {x y : Expr} {a b : Bool} (h1 : TsE C ρ x a) (h2 : a = false → TsE C ρ y b) : TsE C ρ (.BoolOp .Or [x, y] pos) (a || b) := by
  constructor; intro fz m mu nw s Q E R lo k
  refine isTrue_or (h1.run fz m mu nw s _ E R lo fun s1 n1 R1 e1 => ?_)
  cases a with
  | true => exact k s1 n1 R1 e1
  | false =>
    refine isTrue_or ((h2 rfl).run fz m mu n1 s1 _ E R1 (lo.mono e1) fun s2 n2 R2 e2 => ?_)
    have := k s2 n2 R2 (e1.trans e2)
    cases b with
    | true => exact this
    | false => exact isTrue_or_nil this
theorem ts_and2 {x y : Expr} {a b : Bool} (h1 : TsE C ρ x a) (h2 : a = true → TsE C ρ y b) : TsE C ρ (.BoolOp .And [x, y] pos) (a && b) := by
  constructor; intro fz m mu nw s Q E R lo k
  refine isTrue_and (h1.run fz m mu nw s _ E R lo fun s1 n1 R1 e1 => ?_)
  cases a with
  | false => exact k s1 n1 R1 e1
  | true =>
    refine isTrue_and ((h2 rfl).run fz m mu n1 s1 _ E R1 (lo.mono e1) fun s2 n2 R2 e2 => ?_)
    have := k s2 n2 R2 (e1.trans e2)
    cases b with
    | false => exact this
    | true => exact isTrue_and_nil this
theorem ts_val {x : Expr} {b : Bool} (h : EvE C ρ x (.bool b)) (he : ∀ whole, isTrue x C.env whole = (do let v ← whole; standAt x.pos; holding [v] (truthy v))) : TsE C ρ x b :=
  ⟨fun fz m mu nw s _ E R lo k => isTrue_plain (h.run fz m mu nw s _ E R lo fun v s' n' R' e' i' => by cases i'; exact wpAny_truthy_bool (k s' n' R' e')) (he _)⟩

/-! ## displays -/
structure EvL (C : Cx W qual scope f cdv) (ρ : Rho) (es : List Expr) (ds : List Dat) : Prop where
  run : ∀ (p : Pos) (fz : Led) (m : Str → Option Value) (mu nw : Led) (s : Shared) (Q : List Value → Shared → Prop) (E : Value → Shared → Prop), RawC C fz m mu nw s → Loc C fz ρ m nw →
    (∀ vs s' nw', RawC C fz m mu nw' s' → Sub nw nw' → DatAll nw' vs ds → Q vs s') → wpAny W.M C.A (spliced (backTo p (starEach es C.env))) Q E s
theorem evl_nil : EvL C ρ [] [] := ⟨fun _ _ _ _ nw _ _ _ R _ k => args_nil (k _ _ nw R (Sub.refl _) .nil)⟩
theorem evl_cons {e : Expr} {es : List Expr} {d : Dat} {ds : List Dat} (h : EvE C ρ e d) (t : EvL C ρ es ds) (he : starEach (e :: es) C.env = (false, eval e C.env) :: starEach es C.env) : EvL C ρ (e :: es) (d :: ds) := by
  constructor; intro p fz m mu nw s Q E R lo k
  refine args_cons (h.run fz m mu nw s _ E R lo fun v s1 n1 R1 e1 i1 => ?_) he
  exact t.run p fz m mu n1 s1 _ E R1 (lo.mono e1) fun vs s2 n2 R2 e2 i2 => k _ _ n2 R2 (e1.trans e2) (.cons (i1.mono e2) i2)

theorem ev_list {es : List Expr} {ds : List Dat} (h : EvL C ρ es ds) (hz : ds.length ≤ sizeLine) : EvE C ρ (.List es pos) (.list ds) := by
  constructor; intro fz m mu nw s Q E R lo k
  refine List_ (h.run _ fz m mu nw s _ E R lo fun vs s1 n1 R1 e1 i1 => ?_)
  obtain ⟨Λ, N, add, _⟩ := R1.use
  refine newList_K R1.F N (fun D h' F' N' lt => ?_) (by rw [i1.length]; exact hz)
  exact k _ _ _ (add { s1 with heap := h' } _ _ F' N' lt rfl rfl) (e1.trans Sub.cons) (.list (.head _) (i1.mono Sub.cons))
theorem ev_tuple {es : List Expr} {ds : List Dat} {kk : Nat} (h : EvL C ρ es ds) (hz : ds.length ≤ sizeLine) : EvE C ρ (.Tuple es kk pos) (.tuple ds) := by
  constructor; intro fz m mu nw s Q E R lo k
  refine Tuple_ (h.run _ fz m mu nw s _ E R lo fun vs s1 n1 R1 e1 i1 => ?_)
  obtain ⟨Λ, N, add, _⟩ := R1.use
  refine newTuple_N R1.F N (fun h' F' N' => ?_) (by rw [i1.length]; exact hz)
  exact k _ _ _ (add { s1 with heap := h' } _ _ F' N' (fun p hp => Heap.lt_size (N p hp).1) rfl rfl) (e1.trans Sub.cons) (.tuple (.head _) (i1.mono Sub.cons))

/-! ## items -/
theorem ev_idx {e1 e2 : Expr} {ds : List Dat} {k : Int} {d : Dat} (h1 : EvE C ρ e1 (.list ds)) (h2 : EvE C ρ e2 (.int k)) (h0 : 0 ≤ k) (hfit : k < 2 ^ 63) (hx : ds[k.toNat]? = some d)
    (hs : ∀ l u, subscripted e2 false (.ref l) (.int k u) = operate [.ref l, .int k u] (getItem (.ref l) (.int k u))) : EvE C ρ (.Subscript e1 e2 pos) d := by
  constructor; intro fz m mu nw s Q E R lo kk
  refine Subscript_ (h1.run fz m mu nw s _ E R lo fun v1 s1 n1 R1 e1 i1 => ?_)
  refine h2.run fz m mu n1 s1 _ E R1 (lo.mono e1) fun v2 s2 n2 R2 e2 i2 => ?_
  cases i2
  have i1' := i1.mono e2
  cases i1' with
  | list hm ha =>
    obtain ⟨v, hv, iv⟩ := datAll_at ha hx
    have hL := R2.list hm
    exact tail_any hL.typeIs slot_list_getitem.lookup (wpAny_getItem_list hL h0 hfit (by simpa using hv) (kk _ _ n2 R2 (e1.trans e2) iv)) (hs _ _)
theorem ev_tidx {e1 e2 : Expr} {ds : List Dat} {k : Int} {d : Dat} (h1 : EvE C ρ e1 (.tuple ds)) (h2 : EvE C ρ e2 (.int k)) (h0 : 0 ≤ k) (hfit : k < 2 ^ 63) (hx : ds[k.toNat]? = some d)
    (hs : ∀ l u, subscripted e2 false (.ref l) (.int k u) = operate [.ref l, .int k u] (getItem (.ref l) (.int k u))) : EvE C ρ (.Subscript e1 e2 pos) d := by
  constructor; intro fz m mu nw s Q E R lo kk
  refine Subscript_ (h1.run fz m mu nw s _ E R lo fun v1 s1 n1 R1 e1 i1 => ?_)
  refine h2.run fz m mu n1 s1 _ E R1 (lo.mono e1) fun v2 s2 n2 R2 e2 i2 => ?_
  obtain ⟨u, rfl⟩ := datIn_int i2
  obtain ⟨a, vs, c, rfl, hm, ha⟩ := datIn_tuple (i1.mono e2)
  obtain ⟨v, hv, iv⟩ := datAll_at ha hx
  have hT : IsTup s2.heap a vs.toArray := ⟨_, R2.get hm, rfl, c, rfl⟩
  have hk : k.toNat < vs.length := by
    by_cases q : k.toNat < vs.length
    · exact q
    · rw [List.getElem?_eq_none (by omega)] at hv; cases hv
  have hj : seqIndex? k vs.length = some k.toNat := by
    unfold seqIndex?
    simp only [if_neg (show ¬ k < 0 by omega)]
    rw [if_pos (by simp; omega)]
  exact item_tupleT hT (by omega) hfit hj hv (kk _ _ n2 R2 (e1.trans e2) iv) (hs _ _)

/-! ## calls -/
theorem ev_builtin {n : Str} {v : Value} {fz : Led} {m : Str → Option Value} {mu nw : Led} {s : Shared} {Q : Value → Shared → Prop} {E : Value → Shared → Prop} (hg : W.mg n = none) (hv : bootBuiltins n = some v) (hn : n ≠ "__name__")
    (hx : scope.names.lookup n = some .globalImplicit) (hd : (n == ("__debug__" : Str)) = false) (R : RawC C fz m mu nw s) (k : Q v s) : wpAny W.M C.A (eval (.Name n pos) C.env) Q E s :=
  Calls.Name_function_global C.hk hx (Calls.loadGlobal_builtin (env := C.env) (R.T.g.keeps R.F.keep) hg (R.T.b.keeps R.F.keep) ((R.T.blt n hn).trans hv) k) hd
theorem cw_plain {e : Expr} {es : List Expr} (he : starEach (e :: es) C.env = (false, eval e C.env) :: starEach es C.env) (hp : (backTo pos (starEach es C.env)).any (·.1) = false) : (backTo pos (starEach (e :: es) C.env)).any (·.1) = false := by
  rw [he]
  show (false || (backTo pos (starEach es C.env)).any (·.1)) = false
  rw [hp]; rfl
/-- a built-in function upon its arguments -/
theorem ev_callB {n : Str} {id : String} {e : Expr} {es : List Expr} {ds : List Dat} {r : Dat} (hg : W.mg n = none) (hv : bootBuiltins n = some (.builtin id)) (hn : n ≠ "__name__") (hx : scope.names.lookup n = some .globalImplicit)
    (hd : (n == ("__debug__" : Str)) = false) (hl : EvL C ρ (e :: es) ds) (he : starEach (e :: es) C.env = (false, eval e C.env) :: starEach es C.env) (hp : (backTo pos (starEach es C.env)).any (·.1) = false)
    (hc : ∀ (fz : Led) (m : Str → Option Value) (mu nw : Led) (s : Shared) (vs : List Value) (Q : Value → Shared → Prop) (E : Value → Shared → Prop), RawC C fz m mu nw s → DatAll nw vs ds →
      (∀ v s' nw', RawC C fz m mu nw' s' → Sub nw nw' → DatIn nw' v r → Q v s') → wpAny W.M C.A (call (.builtin id) vs) Q E s) : EvE C ρ (.Call (.Name n px) (e :: es) [] pos) r := by
  constructor; intro fz m mu nw s Q E R lo k
  refine Call_ (ev_builtin hg hv hn hx hd R ?_)
  refine callWith_builtin (cw_plain he hp) ?_
  have h := hl.run pos fz m mu nw s (fun vs s' => wpAny W.M C.A (call (.builtin id) ([] ++ vs)) Q E s') E R lo fun vs s1 n1 R1 e1 i1 => hc fz m mu n1 s1 vs Q E R1 i1 fun v s2 n2 R2 e2 i2 => k v s2 n2 R2 (e1.trans e2) i2
  rw [he] at h ⊢
  exact evalArgs_plain h
/-- a built-in class upon its arguments -/
theorem ev_callT {n : Str} {id : String} {e : Expr} {es : List Expr} {ds : List Dat} {r : Dat} (hg : W.mg n = none) (hv : bootBuiltins n = some (.type id)) (hn : n ≠ "__name__") (hx : scope.names.lookup n = some .globalImplicit)
    (hd : (n == ("__debug__" : Str)) = false) (hl : EvL C ρ (e :: es) ds) (he : starEach (e :: es) C.env = (false, eval e C.env) :: starEach es C.env) (hp : (backTo pos (starEach es C.env)).any (·.1) = false)
    (hc : ∀ (fz : Led) (m : Str → Option Value) (mu nw : Led) (s : Shared) (vs : List Value) (Q : Value → Shared → Prop) (E : Value → Shared → Prop), RawC C fz m mu nw s → DatAll nw vs ds →
      (∀ v s' nw', RawC C fz m mu nw' s' → Sub nw nw' → DatIn nw' v r → Q v s') → wpAny W.M C.A (call (.type id) vs) Q E s) : EvE C ρ (.Call (.Name n px) (e :: es) [] pos) r := by
  constructor; intro fz m mu nw s Q E R lo k
  refine Call_ (ev_builtin hg hv hn hx hd R ?_)
  refine PyProof.Rows.callWith_type (cw_plain he hp) ?_
  have h := hl.run pos fz m mu nw s (fun vs s' => wpAny W.M C.A (call (.type id) ([] ++ vs)) Q E s') E R lo fun vs s1 n1 R1 e1 i1 => hc fz m mu n1 s1 vs Q E R1 i1 fun v s2 n2 R2 e2 i2 => k v s2 n2 R2 (e1.trans e2) i2
  rw [he] at h ⊢
  exact evalArgs_plain h
/-- a def of the text's own -/
theorem ev_call {n : Str} {fa : Addr} {st : Stmt} {cd : Value} {e : Expr} {es : List Expr} {ds : List Dat} {r : Dat} {lv : Nat} (H : FnAt W n fa st cd) (hx : scope.names.lookup n = some .globalImplicit)
    (hd : (n == ("__debug__" : Str)) = false) (hl : EvL C ρ (e :: es) ds) (he : starEach (e :: es) C.env = (false, eval e C.env) :: starEach es C.env) (hp : (backTo pos (starEach es C.env)).any (·.1) = false)
    (hc : CallE W lv fa ds r) (hlv : lv ≤ C.lv) : EvE C ρ (.Call (.Name n px) (e :: es) [] pos) r := by
  constructor; intro fz m mu nw s Q E R lo k
  refine Call_ (ldG R.F R.T.g H.g ?_ hx hd)
  have hkeep : keepIn W.K (.ref fa) = true := by
    obtain ⟨oc, od, osl, doc, pm, an, ct, ho⟩ := H.o
    unfold keepIn
    simp only [ho]
  refine callWith_K R.T.X hkeep ?_ he hp
  refine hl.run pos fz m mu nw s _ E R lo fun vs s1 n1 R1 e1 i1 => ⟨R1.now.X, ?_⟩
  have room : Room C.A lv := ⟨C.room.hh, by have := C.room.hd; omega, by have := C.room.hu; omega⟩
  exact hc C.A C.h₀ C.L C.fr fz m mu n1 s1 vs Q E room C.hf R1 i1 fun v s2 n2 R2 e2 i2 => k v s2 n2 R2 (e1.trans e2) i2

theorem datAll1 {nw : Led} {vs : List Value} {d : Dat} (h : DatAll nw vs [d]) : ∃ v, vs = [v] ∧ DatIn nw v d := by
  cases h with | cons a b => cases b; exact ⟨_, rfl, a⟩
theorem datAll2 {nw : Led} {vs : List Value} {d d' : Dat} (h : DatAll nw vs [d, d']) : ∃ v v', vs = [v, v'] ∧ DatIn nw v d ∧ DatIn nw v' d' := by
  cases h with | cons a b => obtain ⟨v', rfl, c⟩ := datAll1 b; exact ⟨_, _, rfl, a, c⟩

theorem ev_len {e : Expr} {ds : List Dat} (h : EvE C ρ e (.list ds)) (hg : W.mg "len" = none) (hx : scope.names.lookup (Str.ofString "len") = some .globalImplicit) (hz : ds.length ≤ sizeLine) (he : starEach [e] C.env = [(false, eval e C.env)]) :
    EvE C ρ (.Call (.Name "len" px) [e] [] pos) (.int ds.length) :=
  ev_callB hg boot_len (by decide) hx (by decide) (evl_cons h evl_nil he) he rfl fun fz m mu nw s vs Q E R i k => by
    obtain ⟨v, rfl, iv⟩ := datAll1 i
    obtain ⟨a, us, c, rfl, hm, ha⟩ := datIn_list iv
    have hsz : us.toArray.size = ds.length := by rw [List.size_toArray, ha.length]
    refine len_list (R.list hm) (by rw [hsz]; have := sizeLine_lt; omega) ?_
    rw [hsz]
    exact k _ _ nw (R.toks _) (Sub.refl _) (.int _ _)
theorem ev_copy {e : Expr} {ds : List Dat} (h : EvE C ρ e (.list ds)) (hg : W.mg "list" = none) (hx : scope.names.lookup (Str.ofString "list") = some .globalImplicit) (hz : ds.length ≤ sizeLine) (he : starEach [e] C.env = [(false, eval e C.env)]) :
    EvE C ρ (.Call (.Name "list" px) [e] [] pos) (.list ds) :=
  ev_callT hg PyProof.Rows.boot_list (by decide) hx (by decide) (evl_cons h evl_nil he) he rfl fun fz m mu nw s vs Q E R i k => by
    obtain ⟨v, rfl, iv⟩ := datAll1 i
    obtain ⟨a, us, c, rfl, hm, ha⟩ := datIn_list iv
    obtain ⟨Λ, N, add, _⟩ := R.use
    refine list_copyK R.F N (R.list hm) (fun D c h' F' N' lt => ?_) (by rw [List.size_toArray, ha.length]; exact hz)
    exact k _ _ _ (add { s with heap := h' } _ _ F' N' lt rfl rfl) Sub.cons (.list (.head _) (ha.mono Sub.cons))
/-! ## lists: +, * -/
theorem ev_ladd {l r : Expr} {xs ys : List Dat} (h1 : EvE C ρ l (.list xs)) (h2 : EvE C ρ r (.list ys)) (hz : xs.length + ys.length ≤ sizeLine) : EvE C ρ (.BinOp l .Add r pos) (.list (xs ++ ys)) :=
  ev_bin h1 h2 fun fz m mu nw s v1 v2 Q E R i1 i2 k => by
    obtain ⟨a, us, c, rfl, hm, ha⟩ := datIn_list i1
    obtain ⟨b, ws, c', rfl, hm', hb⟩ := datIn_list i2
    obtain ⟨Λ, N, add, _⟩ := R.use
    refine add_arrays R.F N (R.list hm) (R.list hm') (fun h' F' N' => ?_) (by simp only [List.size_toArray, ha.length, hb.length]; exact hz)
    exact k _ _ _ (add { s with heap := h' } _ _ F' N' (fun p hp => Heap.lt_size (N p hp).1) rfl rfl) Sub.cons (.list (vs := us ++ ws) (.head _) ((ha.append hb).mono Sub.cons))
end
end Mine

open PySem PySem.W PyProof.Rows PySem.Calls PySem.Spec
set_option Elab.async false
set_option maxRecDepth 100000
set_option linter.unusedVariables false
set_option genInjectivity false
set_option genSizeOf false
namespace Mine

/-! ## the ledger's parts -/
section
variable {W : Wo} {h₀ : Heap} {L : Addr} {fr fz mu nw : Led} {m : Str → Option Value} {s : Shared}
theorem Raw.news (R : Raw W h₀ L fr fz m mu nw s) : News h₀ L s.heap nw := by
  obtain ⟨tb, fr', a, b, N, d⟩ := R.led
  exact fun p hp => N p (mem_lam.mpr (.inr (.inr (.inr (.inr hp)))))
theorem lam_mut {tb fr fz nw : Led} (q : Addr × Obj) : (lam tb fr [] fz (q :: nw)).Perm (lam tb fr [q] fz nw) := by
  unfold lam
  refine List.Perm.append_left tb (List.Perm.append_left fr ?_)
  exact List.perm_middle
/-- what was made is held as the one list that is filled -/
theorem Raw.toMut {q : Addr × Obj} (R : Raw W h₀ L fr fz m [] (q :: nw) s) : Raw W h₀ L fr fz m [q] nw s :=
  ⟨R.F, R.T, R.G, R.O, by
    obtain ⟨tb, fr', a, b, N, d⟩ := R.led
    exact ⟨tb, fr', a, b, fun p hp => N p ((lam_mut q).mem_iff.mpr hp), nodup_perm (lam_mut q) d⟩⟩
theorem Raw.freeze {q : Addr × Obj} (R : Raw W h₀ L fr fz m [q] nw s) : Raw W h₀ L fr fz m [] (q :: nw) s :=
  ⟨R.F, R.T, R.G, R.O, by
    obtain ⟨tb, fr', a, b, N, d⟩ := R.led
    exact ⟨tb, fr', a, b, fun p hp => N p ((lam_mut q).mem_iff.mp hp), nodup_perm (lam_mut q).symm d⟩⟩
theorem lam_hold {tb fr mu fz nw : Led} (q : Addr × Obj) : (lam tb fr mu fz (q :: nw)).Perm (lam tb fr mu (q :: fz) nw) := by
  unfold lam
  refine List.Perm.append_left tb (List.Perm.append_left fr (List.Perm.append_left mu ?_))
  exact List.perm_middle
theorem Raw.hold {q : Addr × Obj} (R : Raw W h₀ L fr fz m mu (q :: nw) s) : Raw W h₀ L fr (q :: fz) m mu nw s :=
  ⟨R.F, R.T, R.G, R.O, by
    obtain ⟨tb, fr', a, b, N, d⟩ := R.led
    exact ⟨tb, fr', a, b, fun p hp => N p ((lam_hold q).mem_iff.mpr hp), nodup_perm (lam_hold q) d⟩⟩
theorem lam_top {tb fr mu fz nw : Led} (q : Addr × Obj) : (lam tb fr mu (q :: fz) nw).Perm (q :: lam tb fr mu fz nw) := (lam_hold q).symm.trans (lam_perm q)
theorem Raw.drop {q : Addr × Obj} (R : Raw W h₀ L fr (q :: fz) m mu nw s) : Raw W h₀ L fr fz m mu nw s :=
  ⟨R.F, R.T, R.G, R.O, by
    obtain ⟨tb, fr', a, b, N, d⟩ := R.led
    exact ⟨tb, fr', a, b, fun p hp => N p ((lam_top q).mem_iff.mpr (.tail _ hp)), (List.nodup_cons.mp (nodup_perm (lam_top q) d)).2⟩⟩
/-- the held thing alone may have been turned -/
theorem Raw.setHeld {I : Addr} {o o' : Obj} (R : Raw W h₀ L fr ((I, o) :: fz) m mu nw s) {s' : Shared} (hs : ∀ b o, b ≠ I → s.heap.get? b = some o → s'.heap.get? b = some o) (hI : s'.heap.get? I = some o') (G : Gs W s'.gens) (O : s'.os = s.os) :
    Raw W h₀ L fr ((I, o') :: fz) m mu nw s' := by
  obtain ⟨tb, fr', a, b, N, d⟩ := R.led
  have hme := N (I, o) ((lam_top (I, o)).mem_iff.mpr (.head _))
  have hnd := List.nodup_cons.mp (nodup_perm (lam_top (I, o)) d)
  refine ⟨⟨R.F.ns.at' fun o e => hs _ o (Ne.symm hme.2.1) e, fun b o e => hs b o (fun q => by rw [q, hme.2.2] at e; cases e) (R.F.keep b o e), R.F.above⟩, R.T, G, O.trans R.O, ⟨tb, fr', a, b, fun p hp => ?_, ?_⟩⟩
  · rcases List.mem_cons.mp ((lam_top (I, o')).mem_iff.mp hp) with rfl | hp
    · exact ⟨hI, hme.2⟩
    · have hp' := N p ((lam_top (I, o)).mem_iff.mpr (.tail _ hp))
      exact ⟨hs _ _ (fun q => hnd.1 (List.mem_map.mpr ⟨p, hp, q⟩)) hp'.1, hp'.2⟩
  · exact nodup_perm (lam_top (I, o')).symm (List.nodup_cons.mpr hnd)
/-- the held thing is dropped, whatever became of it -/
theorem Raw.lose {I : Addr} {o : Obj} (R : Raw W h₀ L fr ((I, o) :: fz) m mu nw s) {s' : Shared} (hs : ∀ b o, b ≠ I → s.heap.get? b = some o → s'.heap.get? b = some o) (G : Gs W s'.gens) (O : s'.os = s.os) :
    Raw W h₀ L fr fz m mu nw s' := by
  obtain ⟨tb, fr', a, b, N, d⟩ := R.led
  have hme := N (I, o) ((lam_top (I, o)).mem_iff.mpr (.head _))
  have hnd := List.nodup_cons.mp (nodup_perm (lam_top (I, o)) d)
  refine ⟨⟨R.F.ns.at' fun o e => hs _ o (Ne.symm hme.2.1) e, fun b o e => hs b o (fun q => by rw [q, hme.2.2] at e; cases e) (R.F.keep b o e), R.F.above⟩, R.T, G, O.trans R.O, ⟨tb, fr', a, b, fun p hp => ?_, hnd.2⟩⟩
  have hp' := N p ((lam_top (I, o)).mem_iff.mpr (.tail _ hp))
  exact ⟨hs _ _ (fun q => hnd.1 (List.mem_map.mpr ⟨p, hp, q⟩)) hp'.1, hp'.2⟩
end

section
variable {W : Wo} {qual : Str} {scope : Scope} {f : Addr} {cdv : Value} {C : Cx W qual scope f cdv} {ρ : Rho} {μ : Option (Str × List Dat)} {H : Led × Led} {pos px : Pos} {s : Shared} {Q : Flow → Shared → Prop} {E : Value → Shared → Prop} {rest : List Stmt}

theorem C_notmod : (C.env.scope.kind == .class || (C.env.scope.kind == .module && C.env.locals != C.env.globals)) = false := by
  show (scope.kind == .class || (scope.kind == .module && C.L != mainGlobals)) = false
  rw [C.hk]; rfl
/-- a name is stored -/
theorem st_store {x : Str} {v : Value} {d : Dat} {m : Str → Option Value} {mu nw : Led} {Q : Unit → Shared → Prop} (hfz : C.fz.Sublist H.1 ∧ Sub C.n₀ H.2) (R : RawC C H.1 m mu nw s) (lo : Loc C H.1 ρ m nw) (mi : MutIs μ m mu nw) (sb : Sub H.2 nw) (iv : DatIn nw v d)
    (hx : scope.names.lookup x = some .local) (hμ : ∀ p, μ = some p → p.1 ≠ x) (k : ∀ s', St C H ((x, d) :: ρ) μ s' → Q () s') : wpAny W.M C.A (storeName C.env x v) Q E s := by
  refine wpAny_storeName_local hx R.F.ns (fun h' hn hs => k _ ⟨hfz, _, mu, nw, R.set hn hs, ⟨lo.cells, lo.base, fun y d' e => ?_⟩, ?_, sb⟩) C_notmod
  · rw [List.lookup_cons] at e
    by_cases q : y = x
    · subst q
      simp at e
      subst e
      exact ⟨v, if_pos rfl, iv⟩
    · rw [beq_eq_false_iff_ne.mpr q] at e
      obtain ⟨v', a, b⟩ := lo.names y d' e
      exact ⟨v', (if_neg q).trans a, b⟩
  · cases μ with
    | none => exact mi
    | some p =>
      obtain ⟨D, vs, c, a, b, e⟩ := mi
      exact ⟨D, vs, c, a, (if_neg (hμ p rfl)).trans b, e⟩

noncomputable def Then (C : Cx W qual scope f cdv) (rest : List Stmt) (Q : Flow → Shared → Prop) (E : Value → Shared → Prop) (fl : Flow) (s : Shared) : Prop :=
  match fl with | .next => wpAny W.M C.A (execs rest C.env) Q E s | fl => Q fl s

theorem x_nil (h : Q .next s) : wpAny W.M C.A (execs [] C.env) Q E s := wpAny_execs_nil h
theorem x_assign {x : Str} {e : Expr} {d : Dat} (S : St C H ρ μ s) (h : EvE C ρ e d) (hl : scope.names.lookup x = some .local) (hs : swapsWith e (some (.Name x px)) pos.line C.env = pure false) (hμ : ∀ p, μ = some p → p.1 ≠ x)
    (k : ∀ s', St C H ((x, d) :: ρ) μ s' → wpAny W.M C.A (execs rest C.env) Q E s') : wpAny W.M C.A (execs (.Assign [.Name x px] e pos :: rest) C.env) Q E s := by
  obtain ⟨hfz, m, mu, nw, R, lo, mi, sb⟩ := S
  refine wpAny_execs_cons (wpAny_Assign_Name (h.run H.1 m mu nw s _ E R lo fun v s1 n1 R1 e1 i1 => ?_) hs)
  exact st_store hfz R1 (lo.mono e1) (mi.mono e1) (sb.trans e1) i1 hl hμ k
/-- a list that the frame will fill -/
theorem x_new {x : Str} {p : Pos} (S : St C H ρ none s) (hl : scope.names.lookup x = some .local) (hs : swapsWith (.List [] p) (some (.Name x px)) pos.line C.env = pure false)
    (k : ∀ s', St C H (ρ.filter fun q => q.1 != x) (some (x, [])) s' → wpAny W.M C.A (execs rest C.env) Q E s') : wpAny W.M C.A (execs (.Assign [.Name x px] (.List [] p) pos :: rest) C.env) Q E s := by
  obtain ⟨hfz, m, mu, nw, R, lo, mi, sb⟩ := S
  have mi : mu = [] := mi
  subst mi
  refine wpAny_execs_cons (wpAny_Assign_Name (List_ (args_nil ?_)) hs)
  obtain ⟨Λ, N, add, _⟩ := R.use
  refine newList_K R.F N (fun D h' F' N' lt => ?_) (Nat.zero_le _)
  have R1 := (add { s with heap := h' } _ _ F' N' lt rfl rfl).toMut
  refine wpAny_storeName_local hl R1.F.ns (fun h'' hn hs => k _ ⟨hfz, _, _, nw, R1.set hn hs, ⟨lo.cells, lo.base, fun y d' e => ?_⟩, ⟨D, [], 0, rfl, if_pos rfl, .nil⟩, sb⟩) C_notmod
  have hy : y ≠ x := fun q => by
    subst q
    have := List.lookup_eq_some_iff.mp e
    obtain ⟨l1, l2, e1, _⟩ := this
    have hm : (y, d') ∈ ρ.filter fun q => q.1 != y := by rw [e1]; simp
    simpa using (List.mem_filter.mp hm).2
  have e' : ρ.lookup y = some d' := by
    clear k R1 N' F' add N R lo
    induction ρ with
    | nil => simp at e
    | cons q r ih =>
      rw [List.filter_cons] at e
      rw [List.lookup_cons]
      split at e
      · rw [List.lookup_cons] at e
        split at e
        · exact e
        · exact ih e
      · rename_i hq
        have hqx : q.1 = x := by simpa using hq
        have : (y == q.1) = false := beq_eq_false_iff_ne.mpr (hqx ▸ hy)
        simp only [this]
        exact ih e
  obtain ⟨v', a, b⟩ := lo.names y d' e'
  exact ⟨v', (if_neg hy).trans a, b⟩
theorem x_freeze {x : Str} {ds : List Dat} {t : List Stmt} (S : St C H ρ (some (x, ds)) s) (k : St C H ((x, .list ds) :: ρ) none s → wpAny W.M C.A (execs t C.env) Q E s) : wpAny W.M C.A (execs t C.env) Q E s := by
  obtain ⟨hfz, m, mu, nw, R, lo, ⟨D, vs, c, rfl, b, e⟩, sb⟩ := S
  refine k ⟨hfz, m, [], _, R.freeze, ⟨lo.cells, lo.base.trans Sub.cons, fun y d' q => ?_⟩, rfl, sb.trans Sub.cons⟩
  rw [List.lookup_cons] at q
  by_cases h : y = x
  · subst h
    simp at q
    subst q
    exact ⟨_, b, .list (.head _) (e.mono Sub.cons)⟩
  · rw [beq_eq_false_iff_ne.mpr h] at q
    obtain ⟨v', a, b⟩ := lo.names y d' q
    exact ⟨v', a, b.mono Sub.cons⟩
/-- fewer names are known -/
theorem St.weak {ρ' : Rho} (S : St C H ρ μ s) (h : ∀ p ∈ ρ', ρ.lookup p.1 = some p.2) : St C H ρ' μ s := by
  obtain ⟨hfz, m, mu, nw, R, lo, mi, sb⟩ := S
  refine ⟨hfz, m, mu, nw, R, ⟨lo.cells, lo.base, fun x d e => lo.names x d ?_⟩, mi, sb⟩
  obtain ⟨l1, l2, e1, _⟩ := List.lookup_eq_some_iff.mp e
  exact h (x, d) (by rw [e1]; simp)
theorem x_ret {e : Expr} {d : Dat} (S : St C H ρ μ s) (h : EvE C ρ e d) (k : ∀ v s', Ret C d v s' → Q (.ret v) s') : wpAny W.M C.A (execs (.Return (some e) pos :: rest) C.env) Q E s := by
  obtain ⟨hfz, m, mu, nw, R, lo, mi, sb⟩ := S
  exact wpAny_execs_cons (wpAny_Return_some (h.run H.1 m mu nw s _ E R lo fun v s1 n1 R1 e1 i1 => k v s1 ⟨H.1, m, mu, n1, hfz.1, R1, hfz.2.trans (sb.trans e1), i1⟩))
theorem x_if {t : Expr} {body orelse : List Stmt} {b : Bool} (S : St C H ρ μ s) (h : TsE C ρ t b) (kt : b = true → ∀ s', St C H ρ μ s' → wpAny W.M C.A (execs body C.env) (Then C rest Q E) E s')
    (kf : b = false → ∀ s', St C H ρ μ s' → wpAny W.M C.A (execs orelse C.env) (Then C rest Q E) E s') : wpAny W.M C.A (execs (.If t body orelse pos :: rest) C.env) Q E s := by
  obtain ⟨hfz, m, mu, nw, R, lo, mi, sb⟩ := S
  refine wpAny_execs_cons (wpAny_If (h.run H.1 m mu nw s _ E R lo fun s1 n1 R1 e1 => ?_))
  have S1 : St C H ρ μ s1 := ⟨hfz, m, mu, n1, R1, lo.mono e1, mi.mono e1, sb.trans e1⟩
  have cv : ∀ fl s', Then C rest Q E fl s' → (match fl with | .next => wpAny W.M C.A (execs rest C.env) Q E s' | fl => Q fl s') := fun fl s' h => by cases fl <;> exact h
  cases b with
  | true => exact wpAny_mono (kt rfl s1 S1) (fun fl s' h => cv fl s' h) fun _ _ x => x
  | false => exact wpAny_mono (kf rfl s1 S1) (fun fl s' h => cv fl s' h) fun _ _ x => x
theorem then_ret {v : Value} {s' : Shared} (h : Q (.ret v) s') : Then C rest Q E (.ret v) s' := h
theorem then_next {s' : Shared} (h : wpAny W.M C.A (execs rest C.env) Q E s') : Then C rest Q E .next s' := h

theorem x_append {x : Str} {e : Expr} {d : Dat} {ds : List Dat} {p1 p2 p3 : Pos} {pl : Sem Bool} (S : St C H ρ (some (x, ds)) s) (h : EvE C ρ e d) (hl : scope.names.lookup x = some .local) (hd : (x == ("__debug__" : Str)) = false)
    (he : starEach [e] C.env = [(false, eval e C.env)]) (hs : swapsWith (.Call (.Attribute (.Name x p1) "append" p2) [e] [] p3) none pos.line C.env = pure false) (hi : interactive C.env = false) (hz : ds.length < sizeLine)
    (hm : eval (.Call (.Attribute (.Name x p1) "append" p2) [e] [] p3) C.env = (do
      let ov ← eval (.Name x p1) C.env
      standAt p2.atName
      let (f, first) ← holding [ov] (getMethod ov "append" pl)
      callWith p3 f first (backTo p3 (starEach [e] C.env)) []))
    (k : ∀ s', St C H ρ (some (x, ds ++ [d])) s' → wpAny W.M C.A (execs rest C.env) Q E s') : wpAny W.M C.A (execs (.Expr (.Call (.Attribute (.Name x p1) "append" p2) [e] [] p3) pos :: rest) C.env) Q E s := by
  obtain ⟨hfz, m, mu, nw, R, lo, ⟨D, vs, c, rfl, b, iv⟩, sb⟩ := S
  have hD : ∀ {nw s}, RawC C H.1 m [(D, listOf vs.toArray c)] nw s → s.heap.get? D = some (listOf vs.toArray c) := fun R => R.freeze.get (.head _)
  refine wpAny_execs_cons (wpAny_Expr (MethodCall_ (ldL R.F b ?_ hl hd) hm) hi hs)
  refine getMethod_list_append (hD R) rfl rfl ?_
  refine callWith_builtin (cw_plain (es := []) he rfl) ?_
  have hh := (evl_cons h evl_nil he).run p3 H.1 m _ nw s (fun us s' => wpAny W.M C.A (call (.builtin "list.append") ([.ref D] ++ us)) (fun v s' => match v with | .ref _ => False | _ => wpAny W.M C.A (execs rest C.env) Q E s') E s') E R lo fun us s1 n1 R1 e1 i1 => ?_
  · rw [he] at hh ⊢
    exact evalArgs_plain hh
  obtain ⟨v, rfl, i2⟩ := datAll1 i1
  obtain ⟨tb, fr', a1, a2, N, nd⟩ := R1.led
  have eqL : ∀ o : Obj, lam tb fr' [(D, o)] H.1 n1 = (tb ++ fr') ++ (D, o) :: (H.1 ++ n1) := fun o => by simp [lam, List.append_assoc]
  have hnd : ∀ p, p ∈ (tb ++ fr') ∨ p ∈ (H.1 ++ n1) → p.1 ≠ D := by
    rw [eqL] at nd
    have hp : ((tb ++ fr') ++ (D, listOf vs.toArray c) :: (H.1 ++ n1)).Perm ((D, listOf vs.toArray c) :: ((tb ++ fr') ++ (H.1 ++ n1))) := List.perm_middle
    have := (List.nodup_cons.mp (nodup_perm hp nd)).1
    exact fun p hp q => this (List.mem_map.mpr ⟨p, List.mem_append.mpr hp, q⟩)
  have U : ∀ (pre post : Led) (o o' : Obj), (∀ p ∈ pre, p.1 ≠ D) → (∀ p ∈ post, p.1 ≠ D) → Upd D o o' (pre ++ (D, o) :: post) (pre ++ (D, o') :: post) := fun pre post o o' h1 h2 => by
    induction pre with
    | nil => exact .head h2
    | cons q r ih => exact .tail (h1 q (.head _)) (ih fun p hp => h1 p (.tail _ hp))
  rw [eqL] at N
  refine append_K R1.F N (U _ _ _ _ (fun p hp => hnd p (.inl hp)) fun p hp => hnd p (.inr hp)) (fun h' F' N' => ?_) (by rw [List.size_toArray, iv.length]; exact Nat.le_of_lt hz)
  rw [← eqL] at N'
  have nd' : (adrs (lam tb fr' [(D, listOf (vs.toArray.push v) (c + 1))] H.1 n1)).Nodup := by
    rw [eqL] at nd ⊢
    simpa [adrs] using nd
  rw [List.push_toArray] at N' nd'
  exact k _ ⟨hfz, m, _, n1, ⟨F', R1.T, R1.G, R1.O, ⟨tb, fr', a1, a2, N', nd'⟩⟩, lo.mono e1, ⟨D, vs ++ [v], c + 1, rfl, b, (iv.mono e1).append (.one i2)⟩, sb.trans e1⟩

/-- a loop over a list: what holds before each turn -/
noncomputable def LoopQ (C : Cx W qual scope f cdv) (H : Led × Led) (J : Rho → Option (Str × List Dat) → Prop) (rest : List Stmt) (Q : Flow → Shared → Prop) (E : Value → Shared → Prop) (fl : Flow) (s : Shared) : Prop :=
  match fl with
  | .ret v => Q (.ret v) s
  | .brk => wpAny W.M C.A (execs rest C.env) Q E s
  | _ => ∃ ρ' μ', J ρ' μ' ∧ St C H ρ' μ' s
/-- what a loop walks over: data, one after the other -/
structure IterE (C : Cx W qual scope f cdv) (ρ : Rho) (e : Expr) (ds : List Dat) : Prop where
  run : ∀ (fz : Led) (m : Str → Option Value) (mu nw : Led) (s : Shared) (Q : Value → Shared → Prop) (E : Value → Shared → Prop), RawC C fz m mu nw s → Loc C fz ρ m nw →
    (∀ (I : Addr) (o : Obj) (fp : List Addr) (P : Nat → Value → Prop) (Stt : Nat → Heap → Prop) (s' : Shared) (nw' : Led), RawC C ((I, o) :: fz) m mu nw' s' → Sub nw nw' → (∀ A' : Around, A'.handled = none → Walks W.prog W.w A' I fp [I] ds.length P Stt) →
      (∀ b ∈ fp, b = I ∨ ∃ p ∈ nw', p.1 = b) → Stt 0 s'.heap → (∀ i h, Stt i h → ∃ o, h.get? I = some o ∧ (o.cls = .type "list_iterator" ∨ o.cls = .type "range_iterator" ∨ o.cls = .type "tuple_iterator")) → (∀ i v, P i v → ∃ d, ds[i]? = some d ∧ DatIn nw' v d) → Q (.ref I) s') →
    wpAny W.M C.A (eval e C.env) (fun xv s₁ => wpAny W.M C.A (pyIter xv) Q E s₁) E s
theorem it_list {e : Expr} {ds : List Dat} (he : EvE C ρ e (.list ds)) : IterE C ρ e ds := by
  constructor; intro fz m mu nw s Q E R lo k
  refine he.run fz m mu nw s _ E R lo fun v s1 n1 R1 e1 i1 => ?_
  obtain ⟨l, vs, c, rfl, hm, ha⟩ := datIn_list i1
  refine wpAny_pyIter_list (R1.list hm) ?_
  have R2 := (R1.add (s' := { s1 with heap := s1.heap.push { cls := .type "list_iterator", data := .fields #[.ref l, .int 0 0] } }) (fun b o e => Heap.get?_push_of_some _ e) (Heap.get?_push_size _ rfl) (Nat.le_refl _) R1.G rfl).hold
  have hne : l ≠ s1.heap.objs.size := Nat.ne_of_lt (Heap.lt_size (R1.get hm))
  have hsz : vs.toArray.size = ds.length := by rw [List.size_toArray, ha.length]
  refine k s1.heap.objs.size _ [s1.heap.objs.size, l] (fun i v => vs.toArray[i]? = some v) (fun i h => h.IsListIter s1.heap.objs.size l i ∧ h.IsList l vs.toArray) _ n1 R2 e1
    (fun A' hA => hsz ▸ Walks.list hA _ l hne vs.toArray) (fun b hb => ?_) ⟨⟨_, Heap.get?_push_size _ rfl, rfl, rfl⟩, R2.list hm⟩ (fun i h st => ?_) fun i v hv => ?_
  · rcases List.mem_cons.mp hb with rfl | hb
    · exact .inl rfl
    · exact .inr ⟨_, hm, (List.mem_singleton.mp hb).symm⟩
  · obtain ⟨o, h1, h2, _⟩ := st.1
    exact ⟨o, h1, .inl h2⟩
  · have hv' : vs[i]? = some v := by simpa using hv
    have hi : i < ds.length := by
      rw [← ha.length]
      exact (List.getElem?_eq_some_iff.mp hv').1
    obtain ⟨v', h1, h2⟩ := datAll_at ha (i := i) (d := ds[i]) (by simp [hi])
    rw [hv'] at h1
    cases h1
    exact ⟨_, by simp [hi], h2⟩
theorem it_tuple {e : Expr} {ds : List Dat} (he : EvE C ρ e (.tuple ds)) : IterE C ρ e ds := by
  constructor; intro fz m mu nw s Q E R lo k
  refine he.run fz m mu nw s _ E R lo fun v s1 n1 R1 e1 i1 => ?_
  obtain ⟨l, vs, c, rfl, hm, ha⟩ := datIn_tuple i1
  have hT : ∀ {s : Shared}, s.heap.get? l = some { cls := .type "tuple", data := .seq vs.toArray c } → s.heap.IsTuple l vs.toArray := fun h => ⟨_, h, rfl, c, rfl⟩
  refine wpAny_pyIter_tuple (hT (R1.get hm)) ?_
  have R2 := (R1.add (s' := { s1 with heap := s1.heap.push { cls := .type "tuple_iterator", data := .fields #[.ref l, .int 0 0] } }) (fun b o e => Heap.get?_push_of_some _ e) (Heap.get?_push_size _ rfl) (Nat.le_refl _) R1.G rfl).hold
  have hne : l ≠ s1.heap.objs.size := Nat.ne_of_lt (Heap.lt_size (R1.get hm))
  have hsz : vs.toArray.size = ds.length := by rw [List.size_toArray, ha.length]
  refine k s1.heap.objs.size _ [s1.heap.objs.size, l] (fun i v => vs.toArray[i]? = some v) (fun i h => h.IsTupleIter s1.heap.objs.size l i ∧ h.IsTuple l vs.toArray) _ n1 R2 e1
    (fun A' hA => hsz ▸ Walks.tuple hA _ l hne vs.toArray) (fun b hb => ?_) ⟨⟨_, Heap.get?_push_size _ rfl, rfl, rfl⟩, hT (R2.get hm)⟩ (fun i h st => ?_) fun i v hv => ?_
  · rcases List.mem_cons.mp hb with rfl | hb
    · exact .inl rfl
    · exact .inr ⟨_, hm, (List.mem_singleton.mp hb).symm⟩
  · obtain ⟨o, h1, h2, _⟩ := st.1
    exact ⟨o, h1, .inr (.inr h2)⟩
  · have hv' : vs[i]? = some v := by simpa using hv
    have hi : i < ds.length := by
      rw [← ha.length]
      exact (List.getElem?_eq_some_iff.mp hv').1
    obtain ⟨v', h1, h2⟩ := datAll_at ha (i := i) (d := ds[i]) (by simp [hi])
    rw [hv'] at h1
    cases h1
    exact ⟨_, by simp [hi], h2⟩
theorem it_range {e : Expr} {n : Int} (he : EvE C ρ e (.int n)) (hg : W.mg "range" = none) (hx : scope.names.lookup (Str.ofString "range") = some .globalImplicit) (h0 : 0 ≤ n) (hz : n ≤ 100000) (hs : starEach [e] C.env = [(false, eval e C.env)]) :
    IterE C ρ (.Call (.Name "range" px) [e] [] pos) ((List.range n.toNat).map fun i : Nat => Dat.int (i : Int)) := by
  constructor; intro fz m mu nw s Q E R lo k
  refine Call_ (ev_builtin hg PyProof.Rows.Boot.«range» (by decide) hx (by decide) R ?_)
  refine PyProof.Rows.callWith_type (cw_plain (es := []) hs rfl) ?_
  have hh := (evl_cons he evl_nil hs).run pos fz m mu nw s (fun us s' => wpAny W.M C.A (call (.type "range") ([] ++ us)) (fun xv s₁ => wpAny W.M C.A (pyIter xv) Q E s₁) E s') E R lo fun us s1 n1 R1 e1 i1 => ?_
  · rw [hs] at hh ⊢
    exact evalArgs_plain hh
  obtain ⟨v, rfl, iv⟩ := datAll1 i1
  obtain ⟨t, rfl⟩ := datIn_int iv
  obtain ⟨Λ, N, _, same⟩ := R1.use
  refine range1_rows R1.F N fun h' tk t₁ u₁ v₁ hr F' N' hk => ?_
  have R2 := same { s1 with heap := h', toks := tk } F' N' R1.G rfl
  have hsm : Builtin.Range.small 0 n 1 = true := small_one (by decide) (by decide) (by omega) (by omega)
  refine wpAny_pyIter_range hr hsm ?_
  have R3 := (R2.add (s' := { s1 with heap := h'.push { cls := .type "range_iterator", data := .fields #[rawInt 0, rawInt (Builtin.Range.rangeSize 0 n 1), rawInt 1] }, toks := tk }) (fun b o e => Heap.get?_push_of_some _ e) (Heap.get?_push_size _ rfl) (Nat.le_refl _) R2.G rfl).hold
  have hrs : Builtin.Range.rangeSize 0 n 1 = (n.toNat : Int) := by
    rw [rangeSize_nat]; congr 1; omega
  refine k h'.objs.size _ [h'.objs.size] _ _ _ n1 R3 e1 (fun A' hA => by rw [List.length_map, List.length_range]; exact (Walks.range hA h'.objs.size 0 1 n.toNat).bound) (fun b hb => .inl (List.mem_singleton.mp hb)) ?_ (fun i h st => ⟨_, st, .inr (.inl rfl)⟩) fun i v hv => ?_
  · show IsRangeIter _ _ _ _ _
    rw [← hrs]
    simpa using Heap.get?_push_size _ rfl
  · obtain ⟨hi, t, rfl⟩ := hv
    refine ⟨.int (i : Int), by simp [hi], ?_⟩
    have : (0 : Int) + (i : Int) * 1 = i := by omega
    rw [this]
    exact .int _ _

/-- how a loop's target takes an item -/
noncomputable def Binds (C : Cx W qual scope f cdv) (target : Expr) (x : Str → Prop) (bind : Dat → Rho → Rho → Prop) : Prop :=
  ∀ (H : Led × Led) (m : Str → Option Value) (mu nw : Led) (s : Shared) (v : Value) (d : Dat) (ρ : Rho) (μ : Option (Str × List Dat)) (Q : Unit → Shared → Prop) (E : Value → Shared → Prop),
    (C.fz.Sublist H.1 ∧ Sub C.n₀ H.2) → RawC C H.1 m mu nw s → Loc C H.1 ρ m nw → MutIs μ m mu nw → Sub H.2 nw → DatIn nw v d → (∃ ρ', bind d ρ ρ') → (∀ p, μ = some p → ¬ x p.1) → (∀ s' ρ', bind d ρ ρ' → St C H ρ' μ s' → Q () s') → wpAny W.M C.A (assign target C.env v) Q E s
theorem binds_name {x : Str} (hx : scope.names.lookup x = some .local) : Binds C (.Name x px) (· = x) (fun d ρ ρ' => ρ' = (x, d) :: ρ) :=
  fun H m mu nw s v d ρ μ Q E hfz R lo mi sb iv _ hμ k => wpAny_assign_Name (st_store hfz R lo mi sb iv hx (fun p hp q => hμ p hp q) fun s' S' => k s' _ rfl S')

theorem letGo {target : Expr} {r : Addr} {o : Obj} {v : Value} {s : Shared} {Q : Unit → Shared → Prop} {E : Value → Shared → Prop} (ho : s.heap.get? r = some o) (hc : o.cls = .type "list_iterator" ∨ o.cls = .type "range_iterator" ∨ o.cls = .type "tuple_iterator") (h : Q () s) : wpAny W.M C.A (letOwnedTupleGo target (.ref r) v) Q E s := by
  have key : ∀ (o : Obj), (o.cls = .type "list_iterator" ∨ o.cls = .type "range_iterator" ∨ o.cls = .type "tuple_iterator") → ∀ (a : Addr), wpAny W.M C.A (match o.cls, o.data with
    | .type n, .fields vs => if (["enumerate", "zip", "dict_itemiterator", "dict_reverseitemiterator", "odict_iterator", "itertools.zip_longest", "itertools.pairwise"].contains n && vs[0]? == some (rawInt a)) = true then (do rule "for.unpacks-the-owned-tuple"; updateField r 0 .none) else pure ()
    | _, _ => pure ()) Q E s := by
    intro o hc a
    obtain ⟨c, d, dt, sl⟩ := o
    simp only at hc
    rcases hc with rfl | rfl | rfl <;> cases dt <;> first | exact wpAny_pure h | (simp only [show (["enumerate", "zip", "dict_itemiterator", "dict_reverseitemiterator", "odict_iterator", "itertools.zip_longest", "itertools.pairwise"].contains "list_iterator") = false from by decide, show (["enumerate", "zip", "dict_itemiterator", "dict_reverseitemiterator", "odict_iterator", "itertools.zip_longest", "itertools.pairwise"].contains "range_iterator") = false from by decide, show (["enumerate", "zip", "dict_itemiterator", "dict_reverseitemiterator", "odict_iterator", "itertools.zip_longest", "itertools.pairwise"].contains "tuple_iterator") = false from by decide, Bool.false_and, Bool.false_eq_true, if_false]; exact wpAny_pure h)
  unfold letOwnedTupleGo
  cases target <;> first | exact wpAny_pure h | (cases v <;> first | exact wpAny_pure h | exact wpAny_bind (wpAny_load ho (key o hc _)))

theorem x_forG {target : Expr} {xs : Str → Prop} {bind : Dat → Rho → Rho → Prop} {e : Expr} {body : List Stmt} {ds : List Dat} (S : St C H ρ μ s) (he : IterE C ρ e ds) (hb : Binds C target xs bind) (J : Nat → Rho → Option (Str × List Dat) → Prop) (h0 : J 0 ρ μ)
    (hs : ∀ v, foldedSetIterable e C.env v = pure v) (hE : PassesOwn W.M C.A C.env E) (hJ : ∀ i ρ' μ', J i ρ' μ' → ∀ p, μ' = some p → ¬ xs p.1)
    (hB : ∀ i d ρ' μ', ds[i]? = some d → J i ρ' μ' → ∃ ρ₂, bind d ρ' ρ₂)
    (step : ∀ i d ρ' μ' ρ₂ H' s', ds[i]? = some d → J i ρ' μ' → bind d ρ' ρ₂ → St C H' ρ₂ μ' s' → wpAny W.M C.A (execs body C.env) (LoopQ C H' (J (i + 1)) rest Q E) E s')
    (done : ∀ ρ' μ' s', J ds.length ρ' μ' → St C H ρ' μ' s' → wpAny W.M C.A (execs rest C.env) Q E s') : wpAny W.M C.A (execs (.For target e body [] pos :: rest) C.env) Q E s := by
  obtain ⟨hfz, m, mu, nw, R, lo, mi, sb⟩ := S
  refine wpAny_execs_cons (wpAny_For (he.run H.1 m mu nw s _ E R lo fun I o fp P Stt s2 n1 R2 e1 Wk hfp hst hob hP => ?_) hs)
  have pass : ∀ e s, E e s → notedBy W.M C.A C.env (cameBackBy W.M C.A C.env E) e s := hE
  have Wk := Wk C.A C.room.hh
  refine codeAny_loop' rfl (fun n s' => ∃ i ρ' μ' o, n = ds.length + 1 - i ∧ i ≤ ds.length ∧ J i ρ' μ' ∧ Stt i s'.heap ∧ ∃ m mu nw, RawC C ((I, o) :: H.1) m mu nw s' ∧ Loc C H.1 ρ' m nw ∧ MutIs μ' m mu nw ∧ Sub n1 nw) ?_ (ds.length + 1)
    ⟨0, ρ, μ, o, rfl, Nat.zero_le _, h0, hst, m, mu, n1, R2, lo.mono e1, mi.mono e1, Sub.refl _⟩
  rintro n s' ⟨i, ρ', μ', o, rfl, hi, hJi, hst', m', mu', nw', R', lo', mi', sb'⟩
  show wpAny _ _ ((forTurn target (.ref I) body [] C.env).onRaise (fun x => do noteFrame x C.env; theTreesLotGoes x)) _ _ s'
  refine wpAny_noted ?_
  simp only [forTurn]
  refine wpAny_bind (wpAny_standAt (wpAny_bind (wpAny_onRaise ?_)))
  by_cases hlt : i < ds.length
  · refine Wk.item i s' _ _ hlt hst' fun v h' tk hv hst₁ hk => ?_
    obtain ⟨d, hd, iv⟩ := hP i v hv
    obtain ⟨o', ho', hoc'⟩ := hob _ _ hst₁
    have R3 := R'.setHeld (s' := { s' with heap := h', toks := tk }) (fun b o hb e => hk b o (fun q => hb (List.mem_singleton.mp q)) e) ho' R'.G rfl
    refine wpAny_bind (letGo ho' hoc' (wpAny_bind ?_))
    refine hb ((I, o') :: H.1, n1) m' mu' nw' _ v d ρ' μ' _ _ ⟨hfz.1.trans (List.sublist_cons_self _ _), hfz.2.trans (sb.trans e1)⟩ R3 (lo'.more fun _ h => List.mem_cons_of_mem _ h) mi' sb' (iv.mono sb') (hB i d ρ' μ' hd hJi) (hJ i ρ' μ' hJi) fun s₄ ρ₂ hρ₂ S₄ => ?_
    refine wpAny_bind (wpAny_mono (step i d ρ' μ' ρ₂ _ s₄ hd hJi hρ₂ S₄) (fun fl s₅ h₅ => ?_) pass)
    have go : (∃ ρ' μ', J (i + 1) ρ' μ' ∧ St C ((I, o') :: H.1, n1) ρ' μ' s₅) → ∃ n, n < ds.length + 1 - i ∧ ∃ i ρ' μ' o, n = ds.length + 1 - i ∧ i ≤ ds.length ∧ J i ρ' μ' ∧ Stt i s₅.heap ∧
        ∃ m mu nw, RawC C ((I, o) :: H.1) m mu nw s₅ ∧ Loc C H.1 ρ' m nw ∧ MutIs μ' m mu nw ∧ Sub n1 nw := by
      rintro ⟨ρ₃, μ₂, hJ₂, _, m₂, mu₂, nw₂, R₂, lo₂, mi₂, sb₂⟩
      refine ⟨ds.length + 1 - (i + 1), by omega, i + 1, ρ₃, μ₂, o', rfl, by omega, hJ₂, ?_, m₂, mu₂, nw₂, R₂, lo₂.on lo.cells, mi₂, sb₂⟩
      refine Wk.frame _ _ _ hst₁ fun b hb ob eb => ?_
      rcases hfp b hb with rfl | ⟨q, hq, rfl⟩
      · rw [ho'] at eb; cases eb
        obtain ⟨tb, fr', _, _, N, _⟩ := R₂.led
        exact (N _ ((lam_top (b, o')).mem_iff.mpr (.head _))).1
      · have h1 : h'.get? q.1 = some q.2 := R3.get (sb' _ hq)
        rw [h1] at eb; cases eb
        exact R₂.get (sb₂ _ hq)
    cases fl with
    | next => exact wpAny_pure (.inl ⟨rfl, go h₅⟩)
    | cont => exact wpAny_pure (.inl ⟨rfl, go h₅⟩)
    | brk => exact wpAny_pure h₅
    | ret v => exact wpAny_pure h₅
  · have hin : i = ds.length := by omega
    subst hin
    refine Wk.done s' _ _ hst' fun h' tk hk => ?_
    have R3 := R'.lose (s' := { s' with heap := h', toks := tk }) (fun b o hb e => hk b o (fun q => hb (List.mem_singleton.mp q)) e) R'.G rfl
    refine wpAny_pure (.inr ⟨rfl, codeAny_block (wpAny_execs_nil ?_)⟩)
    exact done ρ' μ' _ hJi ⟨hfz, m', mu', nw', R3, lo', mi', (sb.trans e1).trans sb'⟩
theorem x_for {x : Str} {e : Expr} {body : List Stmt} {ds : List Dat} (S : St C H ρ μ s) (he : IterE C ρ e ds) (J : Nat → Rho → Option (Str × List Dat) → Prop) (h0 : J 0 ρ μ) (hx : scope.names.lookup x = some .local)
    (hs : ∀ v, foldedSetIterable e C.env v = pure v) (hE : PassesOwn W.M C.A C.env E) (hJ : ∀ i ρ' μ', J i ρ' μ' → ∀ p, μ' = some p → p.1 ≠ x)
    (step : ∀ i d ρ' μ' H' s', ds[i]? = some d → J i ρ' μ' → St C H' ((x, d) :: ρ') μ' s' → wpAny W.M C.A (execs body C.env) (LoopQ C H' (J (i + 1)) rest Q E) E s')
    (done : ∀ ρ' μ' s', J ds.length ρ' μ' → St C H ρ' μ' s' → wpAny W.M C.A (execs rest C.env) Q E s') : wpAny W.M C.A (execs (.For (.Name x px) e body [] pos :: rest) C.env) Q E s :=
  x_forG S he (binds_name hx) J h0 hs hE hJ (fun _ _ _ _ _ _ => ⟨_, rfl⟩) (fun i d ρ' μ' ρ₂ H' s' hd hJi e S' => by subst e; exact step i d ρ' μ' H' s' hd hJi S') done

/-- a while: the number falls at each turn -/
noncomputable def WhQ (C : Cx W qual scope f cdv) (H : Led × Led) (J : Rho → Option (Str × List Dat) → Prop) (rest : List Stmt) (Q : Flow → Shared → Prop) (E : Value → Shared → Prop) (fl : Flow) (s : Shared) : Prop :=
  match fl with
  | .ret v => Q (.ret v) s
  | .brk => wpAny W.M C.A (execs rest C.env) Q E s
  | _ => ∃ ρ' μ', J ρ' μ' ∧ St C H ρ' μ' s
theorem x_while {t : Expr} {body : List Stmt} (hE : PassesOwn W.M C.A C.env E) (J : Nat → Rho → Option (Str × List Dat) → Prop)
    (step : ∀ n ρ' μ', J n ρ' μ' → ∃ b, TsE C ρ' t b ∧ (b = true → ∀ s', St C H ρ' μ' s' → wpAny W.M C.A (execs body C.env) (WhQ C H (fun ρ₂ μ₂ => ∃ n', n' < n ∧ J n' ρ₂ μ₂) rest Q E) E s') ∧
      (b = false → ∀ s', St C H ρ' μ' s' → wpAny W.M C.A (execs rest C.env) Q E s'))
    (n : Nat) (h0 : J n ρ μ) (S : St C H ρ μ s) : wpAny W.M C.A (execs (.While t body [] pos :: rest) C.env) Q E s := by
  refine wpAny_execs_cons (whl_start 0 ?_)
  have key : ∀ (n : Nat) (ρ : Rho) (μ : Option (Str × List Dat)) (s : Shared), J n ρ μ → St C H ρ μ s →
      ∀ kk, WhlRest W.prog W.w C.A E C.env t body [] (fun fl s' => match fl with | .next => wpAny W.M C.A (execs rest C.env) Q E s' | fl => Q fl s') kk s := by
    intro n
    induction n using Nat.strongRecOn with
    | ind n ih =>
      intro ρ μ s hJ S kk
      obtain ⟨b, ht, k1, k2⟩ := step n ρ μ hJ
      refine (whl_turn (k := 0) hE ?_ : WhlRest W.prog W.w C.A E C.env t body [] _ 1 s)
      obtain ⟨hfz, m, mu, nw, R, lo, mi, sb⟩ := S
      refine ht.run H.1 m mu nw s _ E R lo fun s1 n1 R1 e1 => ?_
      have S1 : St C H ρ μ s1 := ⟨hfz, m, mu, n1, R1, lo.mono e1, mi.mono e1, sb.trans e1⟩
      cases b with
      | false =>
        refine WhlIf.no rfl (wpAny_execs_nil ?_)
        exact k2 rfl s1 S1
      | true =>
        refine WhlIf.yes rfl (wpAny_mono (k1 rfl s1 S1) (fun fl s2 h2 => ?_) fun _ _ x => x)
        cases fl with
        | ret v => exact h2
        | brk => exact h2
        | next =>
          obtain ⟨ρ', μ', ⟨n', hn, hJ'⟩, S'⟩ := h2
          exact ih n' hn ρ' μ' s2 hJ' S' 0
        | cont =>
          obtain ⟨ρ', μ', ⟨n', hn, hJ'⟩, S'⟩ := h2
          exact ih n' hn ρ' μ' s2 hJ' S' 0
  exact key n ρ μ s h0 S 0
end
end Mine

open PySem PySem.W PyProof.Rows PySem.Calls PySem.Spec
set_option Elab.async false
set_option maxRecDepth 100000
namespace Mine

theorem datAll_drop {nw : Led} : ∀ {vs : List Value} {ds : List Dat} (k : Nat), DatAll nw vs ds → DatAll nw (vs.drop k) (ds.drop k)
  | _, _, 0, h => h
  | _, _, _ + 1, .nil => .nil
  | _, _, k + 1, .cons _ b => datAll_drop k b
theorem datAll_take {nw : Led} : ∀ {vs : List Value} {ds : List Dat} (k : Nat), DatAll nw vs ds → DatAll nw (vs.take k) (ds.take k)
  | _, _, 0, _ => by simpa using DatAll.nil
  | _, _, _ + 1, .nil => .nil
  | _, _, k + 1, .cons a b => .cons a (datAll_take k b)
theorem datAll_rep {nw : Led} {v : Value} {d : Dat} (h : DatIn nw v d) : ∀ k, DatAll nw (List.replicate k v) (List.replicate k d)
  | 0 => .nil
  | k + 1 => .cons h (datAll_rep h k)

section
variable {W : Wo} {qual : Str} {scope : Scope} {f : Addr} {cdv : Value} {C : Cx W qual scope f cdv} {ρ : Rho} {pos px : Pos}

/-! ## cuts -/
/-- an end of a cut -/
noncomputable def EvP (C : Cx W qual scope f cdv) (ρ : Rho) (e : Option Expr) (x : Option Int) : Prop :=
  match e, x with
  | none, none => True
  | some e, some i => EvE C ρ e (.int i)
  | _, _ => False
theorem evp_run {e : Option Expr} {x : Option Int} (h : EvP C ρ e x) {fz : Led} {m : Str → Option Value} {mu nw : Led} {s : Shared} {Q : Value → Shared → Prop} {E : Value → Shared → Prop} (R : RawC C fz m mu nw s) (lo : Loc C fz ρ m nw)
    (k : ∀ v s' nw', RawC C fz m mu nw' s' → Sub nw nw' → IsPart v x → Q v s') : wpAny W.M C.A (evalPart e C.env) Q E s := by
  cases e with
  | none =>
    cases x with
    | none => exact wpAny_pure (k _ _ nw R (Sub.refl _) .none)
    | some i => exact h.elim
  | some e =>
    cases x with
    | none => exact h.elim
    | some i =>
      have h : EvE C ρ e (.int i) := h
      exact h.run fz m mu nw s Q E R lo fun v s' nw' R' e' i' => by
        obtain ⟨t, rfl⟩ := datIn_int i'
        exact k _ _ nw' R' e' (.int _ _)
/-- the cut of a list, its ends not below nought -/
noncomputable def cut {α : Type} (ds : List α) (lo hi : Option Int) : List α := match lo, hi with
  | none, none => ds
  | none, some b => ds.take b.toNat
  | some a, none => ds.drop a.toNat
  | some a, some b => (ds.drop a.toNat).take (b.toNat - a.toNat)
theorem pick_cut {nw : Led} {vs : List Value} {ds : List Dat} {lo hi : Option Int} (h : DatAll nw vs ds) (hl : ∀ a, lo = some a → 0 ≤ a) (hh : ∀ b, hi = some b → 0 ≤ b) : DatAll nw (slicePick vs.toArray lo hi none).toList (cut ds lo hi) := by
  have base : ∀ {a b : Nat}, sliceBounds lo hi none vs.toArray.size = ((a : Int), (b : Int), 1) → (slicePick vs.toArray lo hi none).toList = (vs.drop a).take (b - a) := fun e => by
    rw [kmk_pick_nat _ e]
  have hlen := h.length
  cases lo with
  | none =>
    cases hi with
    | none => rw [slicePick_all]; exact h
    | some b =>
      have hb := hh b rfl
      have e : sliceBounds none (some b) none vs.toArray.size = (((0 : Nat) : Int), ((min b.toNat vs.toArray.size : Nat) : Int), 1) := by
        simp only [sliceBounds, Option.getD_none, show (1 : Int) > 0 by decide, if_true, if_neg (show ¬ (b < 0) by omega)]
        congr 1; congr 1; omega
      rw [base e]
      show DatAll nw ((vs.drop 0).take (min b.toNat vs.toArray.size - 0)) (ds.take b.toNat)
      rw [List.drop_zero, Nat.sub_zero, List.size_toArray, kmk_take_min]
      exact datAll_take _ h
  | some a =>
    have ha := hl a rfl
    cases hi with
    | none =>
      have e : sliceBounds (some a) none none vs.toArray.size = (((min a.toNat vs.toArray.size : Nat) : Int), ((vs.toArray.size : Nat) : Int), 1) := by
        simp only [sliceBounds, Option.getD_none, show (1 : Int) > 0 by decide, if_true, if_neg (show ¬ (a < 0) by omega)]
        congr 1; omega
      rw [base e]
      show DatAll nw ((vs.drop (min a.toNat vs.toArray.size)).take (vs.toArray.size - min a.toNat vs.toArray.size)) (ds.drop a.toNat)
      rw [List.size_toArray, kmk_drop_min, List.take_of_length_le (by rw [List.length_drop]; omega)]
      exact datAll_drop _ h
    | some b =>
      have hb := hh b rfl
      have e : sliceBounds (some a) (some b) none vs.toArray.size = (((min a.toNat vs.toArray.size : Nat) : Int), ((min b.toNat vs.toArray.size : Nat) : Int), 1) := by
        simp only [sliceBounds, Option.getD_none, show (1 : Int) > 0 by decide, if_true, if_neg (show ¬ (a < 0) by omega), if_neg (show ¬ (b < 0) by omega)]
        congr 1
        · omega
        · congr 1; omega
      rw [base e]
      show DatAll nw ((vs.drop (min a.toNat vs.toArray.size)).take (min b.toNat vs.toArray.size - min a.toNat vs.toArray.size)) ((ds.drop a.toNat).take (b.toNat - a.toNat))
      rw [List.size_toArray, kmk_drop_min]
      have e2 : (vs.drop a.toNat).take (min b.toNat vs.length - min a.toNat vs.length) = (vs.drop a.toNat).take (b.toNat - a.toNat) := by
        by_cases q : a.toNat ≤ vs.length
        · by_cases q2 : b.toNat ≤ vs.length
          · rw [Nat.min_eq_left q, Nat.min_eq_left q2]
          · rw [List.take_of_length_le (by rw [List.length_drop]; omega), List.take_of_length_le (by rw [List.length_drop]; omega)]
        · rw [List.drop_of_length_le (by omega)]; simp
      rw [e2]
      exact datAll_take _ (datAll_drop _ h)
theorem ev_cut {e : Expr} {lo hi : Option Expr} {x y : Option Int} {ds : List Dat} {p : Pos} (h : EvE C ρ e (.list ds)) (h1 : EvP C ρ lo x) (h2 : EvP C ρ hi y) (hx : ∀ a, x = some a → 0 ≤ a) (hy : ∀ b, y = some b → 0 ≤ b) (hz : ds.length ≤ sizeLine)
    (ht : ∀ l r, letTemporaryGo e (.ref l) r = pure ()) : EvE C ρ (.Subscript e (.Slice lo hi none p) pos) (.list (cut ds x y)) := by
  constructor; intro fz m mu nw s Q E R l k
  refine Subscript_ (h.run fz m mu nw s _ E R l fun v s1 n1 R1 e1 i1 => ?_)
  refine wpAny_Slice (evp_run h1 R1 (l.mono e1) fun vl s2 n2 R2 e2 pl => evp_run h2 R2 ((l.mono e1).mono e2) fun vu s3 n3 R3 e3 pu => ?_)
  show wpAny W.M C.A (pure Value.none) _ E s3
  refine wpAny_pure ?_
  obtain ⟨a, us, c, rfl, hm, ha⟩ := datIn_list ((i1.mono e2).mono e3)
  obtain ⟨Λ, N, add, _⟩ := R3.use
  refine kmk_slice R3.F N (R3.list hm) pl pu (fun D h' F' N' lt => ?_) rfl (ht _) (by rw [List.size_toArray, ha.length]; exact hz)
  refine k _ _ _ (add { s3 with heap := h' } D _ F' N' lt rfl rfl) ((e1.trans (e2.trans e3)).trans Sub.cons) ?_
  have := (pick_cut ha hx hy)
  exact .list (vs := (slicePick us.toArray x y none).toList) (n := 0) (by rw [Array.toArray_toList]; exact .head _) (this.mono Sub.cons)

/-! ## [d] * n -/
theorem fold_rep {v : Value} : ∀ (n : Nat) (acc : Array Value), (List.foldl (fun x1 x2 => x1 ++ x2) acc (List.replicate n #[v])).toList = acc.toList ++ List.replicate n v
  | 0, acc => by simp
  | n + 1, acc => by
    rw [List.replicate_succ, List.foldl_cons, fold_rep n]
    simp [List.replicate_succ]
theorem ev_rep {l r : Expr} {d : Dat} {n : Int} (h1 : EvE C ρ l (.list [d])) (h2 : EvE C ρ r (.int n)) (hn : -(2 ^ 63 : Int) ≤ n) (hz : n ≤ 2 ^ 24) : EvE C ρ (.BinOp l .Mult r pos) (.list (List.replicate n.toNat d)) :=
  ev_bin h1 h2 fun fz m mu nw s v1 v2 Q E R i1 i2 k => by
    obtain ⟨a, us, c, rfl, hm, ha⟩ := datIn_list i1
    obtain ⟨t, rfl⟩ := datIn_int i2
    obtain ⟨v, rfl, iv⟩ := datAll1 ha
    obtain ⟨Λ, N, add, _⟩ := R.use
    refine mul_list R.F N (R.get hm) hn (by omega) (by simp; omega) fun h' F' N' => ?_
    refine k _ _ _ (add { s with heap := h' } _ _ F' N' (fun p hp => Heap.lt_size (N p hp).1) rfl rfl) Sub.cons ?_
    refine .list (vs := List.replicate n.toNat v) (n := 0) ?_ ((datAll_rep iv _).mono Sub.cons)
    have e : (List.foldl (fun x1 x2 => x1 ++ x2) #[] (List.replicate (if (#[v] : Array Value).isEmpty = true then 0 else n.toNat) #[v])) = (List.replicate n.toNat v).toArray := by
      apply Array.toList_inj.mp
      rw [if_neg (by simp), fold_rep]
      simp
    rw [← e]
    exact .head _

/-! ## data compared -/
open Classical in
theorem ts_neq {l r : Expr} {d1 d2 : Dat} (h1 : EvE C ρ l d1) (h2 : EvE C ρ r d2) (k1 : kqdOk 9 d1 = true) (k2 : kqdOk 9 d2 = true) : TsE C ρ (.Compare l [.NotEq] [r] pos) (!decide (d1 = d2)) :=
  ts_cmp h1 h2 (noMarks rfl _) fun fz m mu nw s v1 v2 Q E R i1 i2 k => by
    obtain ⟨as, ra⟩ := kqd_in R.news 9 i1 k1
    obtain ⟨bs, rb⟩ := kqd_in R.news 9 i2 k2
    have la := kqd_lay 9 d1 k1
    have lb := kqd_lay 9 d2 k2
    have e : PyData.eqv (kqdP d1) (kqdP d2) = decide (d1 = d2) := by
      have q := kqd_eqv 9 d1 d2 9 k1 k2
      by_cases hq : d1 = d2
      · rw [decide_eq_true hq]; exact q.mpr hq
      · rw [decide_eq_false hq]; exact Bool.eq_false_iff.mpr fun x => hq (q.mp x)
    refine ne_dataH ra rb ?_ ?_ (by have := C.room.hu; have : cLine = 9900 := rfl; omega) (by rw [e]; exact k _ nw R (Sub.refl _))
    · unfold SeqAt.shaped; rw [la.1, Bool.true_and]; exact decide_eq_true (Nat.le_trans la.2 (by decide))
    · unfold SeqAt.shaped; rw [lb.1, Bool.true_and]; exact decide_eq_true (Nat.le_trans lb.2 (by decide))
open Classical in
theorem ts_same {l r : Expr} {d : Dat} (h1 : EvE C ρ l d) (h2 : EvE C ρ r d) (k1 : kqdOk 9 d = true) : TsE C ρ (.Compare l [.NotEq] [r] pos) false := by
  have := ts_neq (pos := pos) h1 h2 k1 k1
  rw [show decide (d = d) = true from decide_eq_true rfl] at this
  exact this

/-! ## is None -/
noncomputable def isNone : Dat → Bool
  | .none => true
  | _ => false
theorem ts_isNone {e : Expr} {d : Dat} {kk : Nat} (h : EvE C ρ e d) : TsE C ρ (.Compare e [.Is] [.Constant .none kk px] pos) (isNone d) :=
  ts_cmp h ev_none (noMarks rfl _) fun fz m mu nw s v1 v2 Q E R i1 i2 k => by
    cases i2
    cases i1 with
    | none => exact wpAny_is_self rfl (k _ nw R (Sub.refl _))
    | _ => exact wpAny_is_other rfl (by intro q; cases q) (k _ nw R (Sub.refl _))
theorem ts_isNotNone {e : Expr} {d : Dat} {kk : Nat} (h : EvE C ρ e d) : TsE C ρ (.Compare e [.IsNot] [.Constant .none kk px] pos) (!isNone d) :=
  ts_cmp h ev_none (noMarks rfl _) fun fz m mu nw s v1 v2 Q E R i1 i2 k => by
    cases i2
    cases i1 with
    | none => exact wpAny_isNot_self rfl (k _ nw R (Sub.refl _))
    | _ => exact wpAny_isNot_other rfl (by intro q; cases q) (k _ nw R (Sub.refl _))

/-! ## max, min, sum of ints -/
theorem ev_max {e : Expr} {ns : List Int} {M : Int} (h : EvE C ρ e (li ns)) (hM : M ∈ ns) (hle : ∀ a ∈ ns, a ≤ M) (hg : W.mg "max" = none) (hx : scope.names.lookup (Str.ofString "max") = some .globalImplicit) (he : starEach [e] C.env = [(false, eval e C.env)]) :
    EvE C ρ (.Call (.Name "max" px) [e] [] pos) (.int M) :=
  ev_callB hg PyProof.Rows.Boot.«max» (by decide) hx (by decide) (evl_cons h evl_nil he) he rfl fun fz m mu nw s vs Q E R i k => by
    obtain ⟨v, rfl, iv⟩ := datAll1 i
    obtain ⟨a, us, c, rfl, hm, ha⟩ := datIn_list iv
    obtain ⟨Λ, N, _, same⟩ := R.use
    refine max_list_N C.room.hh R.F N (R.list hm) (datAll_ints ha) (List.length_pos_of_mem hM) fun h' M' t tk F' N' m1 m2 => ?_
    have : M' = M := by have := hle _ m1; have := m2 _ hM; omega
    subst this
    exact k _ _ nw (same { s with heap := h', toks := tk } F' N' R.G rfl) (Sub.refl _) (.int _ _)
theorem ev_sum {e : Expr} {ns : List Int} (h : EvE C ρ e (li ns)) (hg : W.mg "sum" = none) (hx : scope.names.lookup (Str.ofString "sum") = some .globalImplicit) (he : starEach [e] C.env = [(false, eval e C.env)]) :
    EvE C ρ (.Call (.Name "sum" px) [e] [] pos) (.int ns.sum) :=
  ev_callB hg PyProof.Rows.Boot.«sum» (by decide) hx (by decide) (evl_cons h evl_nil he) he rfl fun fz m mu nw s vs Q E R i k => by
    obtain ⟨v, rfl, iv⟩ := datAll1 i
    obtain ⟨a, us, c, rfl, hm, ha⟩ := datIn_list iv
    obtain ⟨Λ, N, _, same⟩ := R.use
    refine LSm.sum_ints R.F N C.room.hh (R.list hm) (datAll_ints ha) fun h' tk t' F' N' => ?_
    exact k _ _ nw (same { s with heap := h', toks := tk } F' N' R.G rfl) (Sub.refl _) (.int _ _)

/-! ## type(e) is T -/
noncomputable def tyOf : Dat → String
  | .none => "NoneType"
  | .bool _ => "bool"
  | .int _ => "int"
  | .str _ => "str"
  | .bytes _ => "bytes"
  | .tuple _ => "tuple"
  | .list _ => "list"
theorem tyOf_ne (d : Dat) : tyOf d ≠ "builtin_function_or_method" := by cases d <;> simp [tyOf]
theorem typeIs_dat {h₀ : Heap} {L : Addr} {nw : Led} {s : Shared} {v : Value} {d : Dat} (N : News h₀ L s.heap nw) (i : DatIn nw v d) : s.TypeIs v (tyOf d) := by
  cases i with
  | none => exact typeIs_none s
  | bool b => exact PySem.typeIs_bool s b
  | int i t => exact typeIs_int s i t
  | str x t => exact typeIs_str s x t
  | bytes b t => exact typeIs_bytes s b t
  | tuple hm _ => exact ⟨_, (N _ hm).1, rfl⟩
  | list hm _ => exact ⟨_, (N _ hm).1, rfl⟩
end
end Mine

open PySem PySem.W PyProof.Rows PySem.Calls PySem.Spec
set_option Elab.async false
set_option maxRecDepth 100000
set_option linter.unusedVariables false
namespace Mine
section
variable {W : Wo} {qual : Str} {scope : Scope} {f : Addr} {cdv : Value} {C : Cx W qual scope f cdv} {ρ : Rho} {pos px : Pos} {μ : Option (Str × List Dat)} {H : Led × Led}

/-! ## several names at once -/
theorem raw_store {x : Str} {v : Value} {fz : Led} {m : Str → Option Value} {mu nw : Led} {s : Shared} {Q : Unit → Shared → Prop} {E : Value → Shared → Prop} (R : RawC C fz m mu nw s) (hx : scope.names.lookup x = some .local)
    (k : ∀ s', RawC C fz (fun y => if y = x then some v else m y) mu nw s' → Q () s') : wpAny W.M C.A (storeName C.env x v) Q E s :=
  wpAny_storeName_local hx R.F.ns (fun h' hn hs => k _ (R.set hn hs)) C_notmod
theorem loc_store {x : Str} {v : Value} {d : Dat} {m : Str → Option Value} {fz nw : Led} (lo : Loc C fz ρ m nw) (i : DatIn nw v d) : Loc C fz ((x, d) :: ρ) (fun y => if y = x then some v else m y) nw := by
  refine ⟨lo.cells, lo.base, ?_⟩
  intro y d' e
  rw [List.lookup_cons] at e
  by_cases q : y = x
  · subst q
    simp at e
    subst e
    exact ⟨v, if_pos rfl, i⟩
  · rw [beq_eq_false_iff_ne.mpr q] at e
    obtain ⟨v', a, b⟩ := lo.names y d' e
    exact ⟨v', (if_neg q).trans a, b⟩
theorem mut_store {x : Str} {v : Value} {m : Str → Option Value} {mu nw : Led} (mi : MutIs μ m mu nw) (hμ : ∀ p, μ = some p → p.1 ≠ x) : MutIs μ (fun y => if y = x then some v else m y) mu nw := by
  cases μ with
  | none => exact mi
  | some p =>
    obtain ⟨D, vs, c, a, b, e⟩ := mi
    exact ⟨D, vs, c, a, (if_neg (hμ p rfl)).trans b, e⟩
theorem binds_3 {x y z : Str} {p1 p2 p3 : Pos} {k : Nat} (hx : scope.names.lookup x = some .local) (hy : scope.names.lookup y = some .local) (hz : scope.names.lookup z = some .local) :
    Binds C (.Tuple [.Name x p1, .Name y p2, .Name z p3] k px) (fun n => n = x ∨ n = y ∨ n = z) (fun d ρ ρ' => ∃ a b c, d = .tuple [a, b, c] ∧ ρ' = (z, c) :: (y, b) :: (x, a) :: ρ) := by
  intro H m mu nw s v d ρ μ Q E hfz R lo mi sb iv hb hμ k
  obtain ⟨_, a, b, c, rfl, _⟩ := hb
  obtain ⟨t, vs, n, rfl, hm, ha⟩ := datIn_tuple iv
  cases ha with
  | cons i1 r =>
    obtain ⟨v2, v3, rfl, i2, i3⟩ := datAll2 r
    refine assign_Tuple_tuple C.room.hh (items := #[_, v2, v3]) ⟨_, R.get hm, rfl, n, rfl⟩ rfl rfl fun h' hx' => ?_
    have R1 := R.ext (s' := { s with heap := h' }) (fun b o e => hx' b o (Nat.ne_of_lt (Heap.lt_size e)) e) R.G rfl
    refine assignInOrder_cons (wpAny_assign_Name (raw_store R1 hx fun s2 R2 => ?_))
    refine assignInOrder_cons (wpAny_assign_Name (raw_store R2 hy fun s3 R3 => ?_))
    refine assignInOrder_cons (wpAny_assign_Name (raw_store R3 hz fun s4 R4 => ?_))
    refine assignInOrder_nil (k s4 _ ⟨a, b, c, rfl, rfl⟩ ⟨hfz, _, mu, nw, R4, loc_store (loc_store (loc_store lo i1) i2) i3, ?_, sb⟩)
    exact mut_store (mut_store (mut_store mi fun p hp q => hμ p hp (.inl q)) fun p hp q => hμ p hp (.inr (.inl q))) fun p hp q => hμ p hp (.inr (.inr q))
theorem x_unpack2 {x y : Str} {e : Expr} {a b : Dat} {p1 p2 p3 : Pos} {kk : Nat} {s : Shared} {Q : Flow → Shared → Prop} {E : Value → Shared → Prop} {rest : List Stmt} (S : St C H ρ none s) (h : EvE C ρ e (.tuple [a, b])) (hx : scope.names.lookup x = some .local) (hy : scope.names.lookup y = some .local)
    (hs : swapsWith e (some (.Tuple [.Name x p1, .Name y p2] kk p3)) pos.line C.env = pure false) (hw : swappedStores [.Tuple [.Name x p1, .Name y p2] kk p3] e C.env = pure none) (k : ∀ s', St C H ((y, b) :: (x, a) :: ρ) none s' → wpAny W.M C.A (execs rest C.env) Q E s') :
    wpAny W.M C.A (execs (.Assign [.Tuple [.Name x p1, .Name y p2] kk p3] e pos :: rest) C.env) Q E s := by
  obtain ⟨hfz, m, mu, nw, R, lo, mi, sb⟩ := S
  refine wpAny_execs_cons (Assign_Tuple (h.run H.1 m mu nw s _ E R lo fun v s1 n1 R1 e1 i1 => ?_) (hs := hs) (hw := hw))
  obtain ⟨t, vs, n, rfl, hm, ha⟩ := datIn_tuple i1
  obtain ⟨v1, v2, rfl, i1, i2⟩ := datAll2 ha
  refine assign_Tuple_tuple C.room.hh (items := #[v1, v2]) ⟨_, R1.get hm, rfl, n, rfl⟩ rfl rfl fun h' hx' => ?_
  have R1 := R1.ext (s' := { s1 with heap := h' }) (fun b o e => hx' b o (Nat.ne_of_lt (Heap.lt_size e)) e) R1.G rfl
  refine assignInOrder_cons (wpAny_assign_Name (raw_store R1 hx fun s2 R2 => ?_))
  refine assignInOrder_cons (wpAny_assign_Name (raw_store R2 hy fun s3 R3 => ?_))
  exact assignInOrder_nil (k s3 ⟨hfz, _, mu, n1, R3, loc_store (loc_store (lo.mono e1) i1) i2, mi.mono e1, sb.trans e1⟩)

/-! ## the tail of a tuple -/
theorem ev_tail1 {e : Expr} {d : Dat} {ds : List Dat} {kk : Nat} {p1 p2 : Pos} (h : EvE C ρ e (.tuple (d :: ds))) (hz : ds.length < sizeLine) (ht : ∀ l r, letTemporaryGo e (.ref l) r = pure ()) :
    EvE C ρ (.Subscript e (.Slice (some (.Constant (.int 1) kk p1)) none none p2) pos) (.tuple ds) := by
  constructor; intro fz m mu nw s Q E R l k
  refine Subscript_ (h.run fz m mu nw s _ E R l fun v s1 n1 R1 e1 i1 => ?_)
  refine wpAny_Slice (wpAny_Constant_int (k := kk) (pos := p1) (wpAny_pure (wpAny_pure ?_)))
  obtain ⟨a, us, c, rfl, hm, ha⟩ := datIn_tuple i1
  have R2 := R1.toks (s1.toks + 1)
  obtain ⟨Λ, N, add, _⟩ := R2.use
  have hT : IsTup s1.heap a us.toArray := ⟨_, R1.get hm, rfl, c, rfl⟩
  have hlen := ha.length
  refine slice_tuple_from (s := { s1 with toks := s1.toks + 1 }) (a := 1) R2.F N hT (Nat.le_refl _) (by rw [List.size_toArray, hlen]; simp) (fun h' F' N' => ?_) rfl (ht _) (by rw [List.size_toArray, hlen]; exact hz)
  refine k _ _ _ (add { s1 with heap := h', toks := s1.toks + 1 } _ _ F' N' (fun p hp => Nat.lt_succ_of_lt (Heap.lt_size (N p hp).1)) rfl rfl) (e1.trans Sub.cons) ?_
  exact .tuple (.head _) ((datAll_drop 1 ha).mono Sub.cons)

/-! ## an int of a list of ints -/
theorem ev_iidx {e1 e2 : Expr} {ns : List Int} {k : Int} (h1 : EvE C ρ e1 (li ns)) (h2 : EvE C ρ e2 (.int k)) (h0 : 0 ≤ k) (hk : k.toNat < ns.length) (hz : ns.length ≤ 2 ^ 24)
    (hs : ∀ l u, subscripted e2 false (.ref l) (.int k u) = operate [.ref l, .int k u] (getItem (.ref l) (.int k u))) : EvE C ρ (.Subscript e1 e2 pos) (.int (ns.getD k.toNat 0)) :=
  ev_idx h1 h2 h0 (by omega) (by simp [hk]) hs
/-! ## an int of a table of the top's -/
theorem ev_tab {n : Str} {e2 : Expr} {a : Addr} {ns : List Int} {k : Int} (hg : W.mg n = some (.ref a)) (hK : ∃ oc od osl c vs, W.K.lookup a = some ⟨.type "tuple", od, .seq (List.toArray vs) c, osl⟩ ∧ IntsAre vs ns ∧ oc = (0 : Nat)) (hx : scope.names.lookup n = some .globalImplicit)
    (hd : (n == ("__debug__" : Str)) = false) (h2 : EvE C ρ e2 (.int k)) (h0 : 0 ≤ k) (hk : k.toNat < ns.length) (hfit : k < 2 ^ 62)
    (hs : ∀ l u, subscripted e2 false (.ref l) (.int k u) = operate [.ref l, .int k u] (getItem (.ref l) (.int k u))) : EvE C ρ (.Subscript (.Name n px) e2 pos) (.int (ns.getD k.toNat 0)) := by
  constructor; intro fz m mu nw s Q E R lo kk
  refine Subscript_ (ldG R.F R.T.g hg ?_ hx hd)
  refine h2.run fz m mu nw s _ E R lo fun v2 s2 n2 R2 e2 i2 => ?_
  obtain ⟨u, rfl⟩ := datIn_int i2
  obtain ⟨_, od, osl, c, vs, ho, hi, _⟩ := hK
  have hT : IsTup s2.heap a vs.toArray := ⟨_, R2.now.X _ _ ho, rfl, c, rfl⟩
  have hlen := hi.length
  have hj : seqIndex? k vs.length = some k.toNat := by
    unfold seqIndex?
    simp only [if_neg (show ¬ k < 0 by omega)]
    rw [if_pos (by simp; omega)]
  obtain ⟨t, ht⟩ := hi.get k.toNat (ns.getD k.toNat 0) (by simp [hk])
  exact item_tupleT hT (by omega) (by omega) hj ht (kk _ _ n2 R2 e2 (.int _ _)) (hs _ _)
end
end Mine

open PySem PySem.W PyProof.Rows PySem.Calls PySem.Spec
set_option Elab.async false
set_option maxRecDepth 100000
set_option linter.unusedVariables false
namespace Mine

/-! ## the table of a def's codes -/
theorem tabs_split {tabs : List (Addr × Addr)} {tb : Led} {c P : Addr} (h : TabsAre tabs tb) (hm : (c, P) ∈ tabs) : ∃ ps tb1 tb2, TriplesOk ps.toList ∧ tb = tb1 ++ (P, tabObj ps) :: tb2 ∧ ∀ ps', TriplesOk ps'.toList → TabsAre tabs (tb1 ++ (P, tabObj ps') :: tb2) := by
  induction h with
  | nil => cases hm
  | cons ht hr ih =>
    rename_i c' P' ps r tb
    rcases List.mem_cons.mp hm with e | hm
    · cases e
      exact ⟨ps, [], tb, ht, rfl, fun ps' h' => .cons h' hr⟩
    · obtain ⟨ps2, t1, t2, a, b, d⟩ := ih hm
      exact ⟨ps2, (P', tabObj ps) :: t1, t2, a, by rw [b]; rfl, fun ps' h' => .cons ht (d ps' h')⟩
theorem triples_snoc (l : List Value) (i j : Int) (t u : Tok) (c : Value) (h : TriplesOk l) : TriplesOk (l ++ [.int i t, .int j u, c]) := by
  fun_induction TriplesOk l with
  | case1 => exact trivial
  | case2 _ _ _ _ _ rest ih => exact ih h
  | case3 => exact h.elim

theorem Gs.lt {W : Wo} {g : Array GenState} (h : Gs W g) {k : Nat} {x : GenState} (e : W.gn[k]? = some x) : k < g.size := (Array.getElem?_eq_some_iff.mp (h.2 k x e)).1
theorem Gs.push {W : Wo} {g : Array GenState} (h : Gs W g) {x : GenState} (hx : x.bare = true) : Gs W (g.push x) :=
  ⟨h.1.push hx, fun k y e => by rw [Array.getElem?_push_lt (h.lt e)]; have := h.2 k y e; rw [Array.getElem?_eq_getElem (h.lt e)] at this; exact this⟩
theorem Gs.moved {W : Wo} {g g' : Array GenState} (h : Gs W g) {x : GenState} (hx : x.bare = true) (m : GenOnlyQ g.size (g.push x) g') : Gs W g' :=
  ⟨m.bare (h.1.push hx), fun k y e => by
    have hp := (h.push hx).2 k y e
    rcases m with rfl | ⟨⟨_, ho⟩, _⟩
    · exact hp
    · rw [ho k (Nat.ne_of_lt (h.lt e))]; exact hp⟩
section
variable {W : Wo} {h₀ : Heap} {L : Addr} {fr fz mu nw : Led} {m : Str → Option Value} {s : Shared}
/-- the code of a generator expression: found, or made and noted -/
theorem Raw.genCode (R : Raw W h₀ L fr fz m mu nw s) {env : Env} {c P : Addr} {pos : Pos} {q : Str} {gs : Scope} {M : Model} {A : Around} {E : Value → Shared → Prop} {Q : Value → Shared → Prop} (hc : env.code = .ref c) (hm : (c, P) ∈ W.tabs)
    (k : ∀ cv s', Raw W h₀ L fr fz m mu nw s' → s.heap.objs.size ≤ s'.heap.objs.size → s'.gens = s.gens → Q cv s') : wpAny M A (genexprCode env pos q gs) Q E s := by
  obtain ⟨tb, fr', ht, hu, N, nd⟩ := R.led
  obtain ⟨ps, t1, t2, tri, rfl, put⟩ := tabs_split ht hm
  have hmem : (P, tabObj ps) ∈ lam (t1 ++ (P, tabObj ps) :: t2) fr' mu fz nw := mem_lam.mpr (.inl (by simp))
  have hP := (N _ hmem).1
  have CH := (R.T.tab _ hm).keeps R.F.keep
  cases hf : codeAmong pos ps.toList with
  | some cv =>
    obtain ⟨o, vs, file, tf, flags, tg, inF, text, tt, e1, _, e3, _, f3, f4, f5, f6, f7, f11⟩ := CH
    unfold genexprCode codeAt
    rw [hc, if_neg (show ¬ ((Value.ref c == Value.none) = true) from Bool.false_ne_true)]
    refine wpAny_bind (wpAny_fieldsOf e1 e3 ?_)
    rw [f3]
    refine wpAny_bind (wpAny_fieldsOf hP rfl ?_)
    rw [hf]
    exact wpAny_pure (k cv s R (Nat.le_refl _) rfl)
  | none =>
    refine wpAny_genexprCodeX hc (CH.code hP tri) (CH.tab hP) hf fun c' h' tk hx hge hlt hcode _ htab _ => ?_
    have hne : ∀ b o, h₀.get? b = some o → b ≠ P := fun b o e q => by rw [q, (N _ hmem).2.2] at e; cases e
    have hp : (lam (t1 ++ (P, tabObj ps) :: t2) fr' mu fz nw).Perm ((P, tabObj ps) :: lam (t1 ++ t2) fr' mu fz nw) := by
      unfold lam; rw [List.append_assoc, List.cons_append]
      exact List.perm_middle.trans (by rw [List.append_assoc])
    have hp' : ∀ ob : Obj, (lam (t1 ++ (P, ob) :: t2) fr' mu fz nw).Perm ((P, ob) :: lam (t1 ++ t2) fr' mu fz nw) := fun ob => by
      unfold lam; rw [List.append_assoc, List.cons_append]
      exact List.perm_middle.trans (by rw [List.append_assoc])
    have hnd := List.nodup_cons.mp (nodup_perm hp nd)
    refine k _ _ ⟨⟨R.F.ns.extBut hx (Ne.symm (N _ hmem).2.1), fun b o e => hx b o (hne b o e) (R.F.keep b o e), R.F.above⟩, R.T, R.G, R.O, ⟨_, fr', put (ps ++ #[rawInt pos.line, rawInt pos.col, .ref c']) ?_, hu, fun p hp2 => ?_, ?_⟩⟩ (Nat.le_trans hge (Nat.le_of_lt hlt)) rfl
    · rw [Array.toList_append]
      exact triples_snoc _ _ _ _ _ _ tri
    · rcases List.mem_cons.mp ((hp' _).mem_iff.mp hp2) with rfl | hp2
      · exact ⟨htab.2, (N _ hmem).2⟩
      · have := N p (hp.mem_iff.mpr (.tail _ hp2))
        exact ⟨hx _ _ (fun q => hnd.1 (List.mem_map.mpr ⟨p, hp2, q⟩)) this.1, this.2⟩
    · exact nodup_perm (hp' _).symm (List.nodup_cons.mpr hnd)
end

section
variable {W : Wo} {qual : Str} {scope : Scope} {f : Addr} {cdv : Value} {C : Cx W qual scope f cdv} {ρ : Rho} {pos px gpos ppx : Pos}
/-- what the element of a generator expression gives, wherever it is asked -/
noncomputable def EltE (W : Wo) (C : Cx W qual scope f cdv) (gs : Scope) (x : Str) (elt : Expr) (d : Dat) (b : Bool) : Prop :=
  ∀ (Ca : Addr) (code : Value) (nw : Led) (A' : Around) (E' : Value → Shared → Prop) (v : Value) (s₂ : Shared) (m₂ : Str → Option Value), A'.handled = none → A'.depth ≤ 600 → A'.units ≤ 6000 → At W s₂.heap → (∀ p ∈ nw, s₂.heap.get? p.1 = some p.2) →
    s₂.heap.Ns Ca m₂ → m₂ x = some v → DatIn nw v d → wpAny W.M A' (eval elt (genEnv gs [] Ca code builtinsNs C.env)) (fun y s₃ => y = .bool b ∧ Keeps s₂ s₃) E' s₂
theorem ev_all {x : Str} {elt iter : Expr} {gs : Scope} {ds : List Dat} {q : Dat → Bool} {c P : Addr} (hit : IterE C ρ iter ds) (hcd : cdv = .ref c) (htab : (c, P) ∈ W.tabs) (hg : W.mg "all" = none) (hxa : scope.names.lookup (Str.ofString "all") = some .globalImplicit)
    (hco : gs.isCoroutine = false) (hclos : closureFor gs C.env = pure []) (hcell : ∀ y ∈ gs.names, y.2 ≠ .cell) (h0 : gs.names.lookup (".0" : Str) = some NameKind.local) (hx : gs.names.lookup x = some .local) (hkind : gs.kind = .function)
    (hs : ∀ v, genFold iter C.env v = pure v) (hel : ∀ d ∈ ds, EltE W C gs x elt d (q d)) :
    EvE C ρ (.Call (.Name "all" ppx) [.GeneratorExp elt [⟨.Name x px, iter, [], 0⟩] gs gpos] [] pos) (.bool (ds.all q)) := by
  constructor; intro fz m mu nw s Q E R lo k
  have he : starEach [Expr.GeneratorExp elt [⟨.Name x px, iter, [], 0⟩] gs gpos] C.env = [(false, eval (.GeneratorExp elt [⟨.Name x px, iter, [], 0⟩] gs gpos) C.env)] := rfl
  refine Call_ (ev_builtin hg PyProof.Rows.Boot.«all» (by decide) hxa (by decide) R ?_)
  refine callWith_builtin (cw_plain (es := []) he rfl) ?_
  have key : wpAny W.M C.A (spliced (backTo pos (starEach [Expr.GeneratorExp elt [⟨.Name x px, iter, [], 0⟩] gs gpos] C.env))) (fun us s' => wpAny W.M C.A (call (.builtin "all") ([] ++ us)) Q E s') E s := by
    refine args_cons ?_ he
    refine wpAny_GeneratorExp_walksQD C.room.hh hco hclos hcell h0 hx hkind (by have := C.room.hd; have : recursionLimit = 1000 := rfl; omega) ?_ hs
    refine hit.run fz m mu nw s _ E R lo fun I o fp Pp Stt s2 n2 R2 e2 Wk hfp hst hob hP => ⟨R2.now.nolimit, ?_⟩
    refine R2.genCode (show C.env.code = .ref c from hcd) htab fun cv s3 R3 hsz hgens => ?_
    have hB := R3.now.bmod
    refine wpAny_builtinsFor hB.ns hB.name hB.ne hB.obj hB.cls hB.dict hB.data ?_
    have fpkeep : ∀ b ∈ fp, ∀ ob, s2.heap.get? b = some ob → s3.heap.get? b = some ob := fun b hb ob eb => by
      rcases hfp b hb with rfl | ⟨p, hp, rfl⟩
      · have h2 : ∀ {s}, RawC C ((b, o) :: fz) m mu n2 s → s.heap.get? b = some o := fun R => by
          obtain ⟨tb, fr', _, _, N, _⟩ := R.led
          exact (N _ ((lam_top (b, o)).mem_iff.mpr (.head _))).1
        rw [h2 R2] at eb; cases eb
        exact h2 R3
      · rw [R2.get hp] at eb; cases eb
        exact R3.get hp
    have hI : s3.heap.get? I = some o := by
      obtain ⟨tb, fr', _, _, N, _⟩ := R3.led
      exact (N _ ((lam_top (I, o)).mem_iff.mpr (.head _))).1
    have hIn : C.h₀.get? I = none := by
      obtain ⟨tb, fr', _, _, N, _⟩ := R3.led
      exact (N _ ((lam_top (I, o)).mem_iff.mpr (.head _))).2.2
    have hnI : ∀ p ∈ n2, p.1 ≠ I := fun p hp => by
      obtain ⟨tb, fr', _, _, N, nd⟩ := R3.led
      have := (List.nodup_cons.mp (nodup_perm (lam_top (I, o)) nd)).1
      exact fun q => this (List.mem_map.mpr ⟨p, mem_lam.mpr (.inr (.inr (.inr (.inr hp)))), q⟩)
    have hcI : cStatics ≠ I := fun e => by
      obtain ⟨_, hn, _⟩ := R3.T.nolimit
      obtain ⟨o', _, _, ho', _⟩ := hn
      rw [e, hIn] at ho'; cases ho'
    refine ⟨I, fp, [I], ds.length, Pp, Stt, (fun _ => true), (fun i y => ∃ d, ds[i]? = some d ∧ y = .bool (q d)), rfl, Wk, (Wk C.A C.room.hh).frame _ _ _ hst fpkeep, fun b hb => ?_, R3.now.nolimit, (by simpa using hcI), fun href hhref => ⟨?_, ?_⟩, fun a h₅ tk gst hgb hag hsz₅ hk₅ WS hat => ?_⟩
    · rcases hfp b hb with rfl | ⟨p, hp, rfl⟩
      · exact Heap.lt_size hI
      · exact Heap.lt_size (R3.get hp)
    · intro A' E' i v s₂ m₂ _ _ _ _ _ _ _
      exact wpAny_tests_nil ⟨rfl, ⟨_, _, rfl, fun _ _ e => e⟩⟩
    · intro A' E' i v s₂ m₂ hA hD hU hPi _ hns hm hkp
      obtain ⟨d, hd, iv⟩ := hP i v hPi
      have keep2 : ∀ b ob, b ≠ I → s3.heap.get? b = some ob → s₂.heap.get? b = some ob := fun b ob hb e => hkp b (List.mem_range.mpr (Heap.lt_size e)) (by simpa using hb) ob (hhref b ob e)
      have hat2 : At W s₂.heap := R3.T.keeps fun b ob e => keep2 b ob (fun q => by rw [q, hIn] at e; cases e) (R3.F.keep b ob e)
      refine wpAny_mono (hel d (List.mem_of_getElem? hd) _ cv n2 A' E' v s₂ m₂ hA (Nat.le_trans hD (by have := C.room.hd; omega)) (Nat.le_trans hU (by have := C.room.hu; omega)) hat2 (fun p hp => keep2 _ _ (hnI p hp) (R3.get hp)) hns hm iv) (fun y s₃ h => ⟨⟨d, hd, h.1⟩, h.2⟩) fun _ _ e => e
    · -- the generator stands: it is walked through
      refine args_nil ?_
      have hpass : passing (fun _ => true) ds.length 0 = List.range ds.length := by simp [passing]
      have hlen : (passing (fun _ => true) ds.length 0).length = ds.length := by rw [hpass, List.length_range]
      have WS1 := WS.in4_1
      refine call_all_walkS (WS1.self 0 _ _ _ hat ⟨a, _, _, _, _, _, _, (fun j => (ds[j]?.map q).getD true), rfl, WS1, hat, ?_, fun s' hm => ?_⟩)
      · intro j v s Q E hv hQ
        obtain ⟨i, hi, d, hd, rfl⟩ := hv
        rw [hpass] at hi
        have hij : i = j := by
          have := List.getElem?_eq_some_iff.mp hi
          obtain ⟨h1, h2⟩ := this
          simpa using h2.symm
        subst hij
        simp only [hd, Option.map_some, Option.getD_some] at hQ
        exact wpAny_truthy_bool hQ
      · have ev : (List.range (passing (fun _ => true) ds.length 0).length).all (fun j => (ds[j]?.map q).getD true) = ds.all q := by
          rw [hlen, Bool.eq_iff_iff, List.all_eq_true, List.all_eq_true]
          constructor
          · intro h d hd
            obtain ⟨j, hj, rfl⟩ := List.getElem_of_mem hd
            simpa [hj] using h j (List.mem_range.mpr hj)
          · intro h j hj
            have hj' := List.mem_range.mp hj
            simpa [hj'] using h _ (List.getElem_mem hj')
        rw [ev]
        have R4 : RawC C ((I, o) :: fz) m mu n2 { s3 with gens := s3.gens.push gst, toks := tk, heap := h₅ } := R3.ext hk₅ (R3.G.push hgb) rfl
        have R5 : RawC C fz m mu n2 s' := by
          refine Raw.lose (I := I) (o := o) R3 (fun b ob hb e => hm.heap b ob (fun hin => ?_) (hk₅ b ob e)) (R3.G.moved hgb hm.gens) hm.os
          rcases List.mem_cons.mp hin with rfl | hin
          · exact Nat.lt_irrefl _ (Heap.lt_size e)
          · exact hb (List.mem_singleton.mp hin)
        exact k _ _ n2 R5 e2 (.bool _)
  rw [he] at key ⊢
  exact evalArgs_plain key
end
end Mine

open PySem PySem.W PyProof.Rows PySem.Calls PySem.Spec
set_option Elab.async false
set_option maxRecDepth 100000
set_option linter.unusedVariables false
namespace Mine
section
variable {W : Wo} {qual : Str} {scope : Scope} {f : Addr} {cdv : Value} {C : Cx W qual scope f cdv} {gs : Scope} {x : Str} {pos p1 p2 p3 p4 : Pos}

theorem gen_builtin {n : Str} {v : Value} {Ca : Addr} {code : Value} {A' : Around} {s : Shared} {Q : Value → Shared → Prop} {E : Value → Shared → Prop} (T : At W s.heap) (hk : gs.kind = .function) (hg : W.mg n = none) (hv : bootBuiltins n = some v) (hn : n ≠ "__name__")
    (hx : gs.names.lookup n = some .globalImplicit) (hd : (n == ("__debug__" : Str)) = false) (k : Q v s) : wpAny W.M A' (eval (.Name n pos) (genEnv gs [] Ca code builtinsNs C.env)) Q E s :=
  Name_function_global hk hx (loadGlobal_builtin (env := genEnv gs [] Ca code builtinsNs C.env) T.g hg T.b ((T.blt n hn).trans hv) k) hd
theorem gen_local {v : Value} {Ca : Addr} {code : Value} {A' : Around} {s : Shared} {m₂ : Str → Option Value} {Q : Value → Shared → Prop} {E : Value → Shared → Prop} (hns : s.heap.Ns Ca m₂) (hm : m₂ x = some v) (hk : gs.kind = .function) (hx : gs.names.lookup x = some .local)
    (hd : (x == ("__debug__" : Str)) = false) (k : Q v s) : wpAny W.M A' (eval (.Name x pos) (genEnv gs [] Ca code builtinsNs C.env)) Q E s :=
  wpAny_Name (wpAny_loadName_local hk hx hns hm k) hd

/-- type(x) is int -/
theorem elt_int {i : Int} (hg : W.mg "type" = none) (hg2 : W.mg "int" = none) (hk : gs.kind = .function) (hx : gs.names.lookup x = some .local) (hd : (x == ("__debug__" : Str)) = false) (h1 : gs.names.lookup (Str.ofString "type") = some .globalImplicit) (h2 : gs.names.lookup (Str.ofString "int") = some .globalImplicit) :
    EltE W C gs x (.Compare (.Call (.Name "type" p1) [.Name x p2] [] p3) [.Is] [.Name "int" p4] pos) (.int i) true := by
  intro Ca code nw A' E' v s₂ m₂ hA hD hU T hnw hns hm iv
  obtain ⟨t, rfl⟩ := datIn_int iv
  refine wpAny_Compare1 ?_ (noMarks rfl _)
  refine Call_ (gen_builtin T hk hg PyProof.Rows.Boot.«type» (by decide) h1 (by decide) ?_)
  refine PyProof.Rows.callWith_type rfl (evalArgs_plain (spliced_cons ?_))
  refine gen_local (C := C) hns hm hk hx hd (spliced_nil ?_)
  refine call_type_of (typeIs_int s₂ i t) (by decide) ?_
  refine gen_builtin T hk hg2 PyProof.Rows.Boot.«int» (by decide) h2 (by decide) ?_
  exact wpAny_is_self rfl ⟨rfl, ⟨_, _, rfl, fun _ _ e => e⟩⟩
end
end Mine

open PySem PySem.W PyProof.Rows PySem.Calls PySem.Spec
set_option Elab.async false
set_option maxRecDepth 100000
set_option linter.unusedVariables false
namespace Mine
section
variable {W : Wo} {qual : Str} {scope : Scope} {f : Addr} {cdv : Value} {C : Cx W qual scope f cdv} {ρ : Rho} {μ : Option (Str × List Dat)} {H : Led × Led} {gs : Scope} {x y : Str} {pos px py sp p1 p2 p3 p4 : Pos} {s : Shared} {Q : Flow → Shared → Prop} {E : Value → Shared → Prop} {rest : List Stmt}

theorem ints_of_items : ∀ {vs : List Value} {ns : List Int}, vs.length = ns.length → (∀ (j : Nat) (v : Value), vs[j]? = some v → ∃ (n : Int) (t : Tok), ns[j]? = some n ∧ v = Value.int n t) → IntsAre vs ns
  | [], [], _, _ => .nil
  | v :: vs, n :: ns, hl, h => by
    obtain ⟨n', t, e1, rfl⟩ := h 0 v rfl
    cases e1
    exact .cons _ _ (ints_of_items (by simpa using hl) fun j v hj => by simpa using h (j + 1) v (by simpa using hj))
  | [], _ :: _, hl, _ => by simp at hl
  | _ :: _, [], hl, _ => by simp at hl
end
end Mine

open PySem PySem.W PyProof.Rows PySem.Calls PySem.Spec
set_option Elab.async false
set_option maxRecDepth 100000
set_option linter.unusedVariables false
set_option genInjectivity false
set_option genSizeOf false
namespace Mine

/-! # an exception that flies -/
/-- the caller's state while an exception flies: what is no frame stands in B -/
structure Fly (W : Wo) (h₀ : Heap) (L : Addr) (fr fz : Led) (m : Str → Option Value) (mu nw : Led) (B : Heap) (s : Shared) : Prop where
  F : Fr h₀ L s.heap m
  T : At W h₀
  G : Gs W s.gens
  O : s.os = W.os
  led : ∃ tb fr', TabsAre W.tabs tb ∧ Ups fr fr' ∧ News h₀ L s.heap (lam tb fr' mu fz nw) ∧ (adrs (lam tb fr' mu fz nw)).Nodup ∧ ∀ p, p ∈ tb ∨ p ∈ mu ∨ p ∈ fz ∨ p ∈ nw → B.get? p.1 = some p.2
  h0B : ∀ b o, h₀.get? b = some o → B.get? b = some o
  frd : ∀ p ∈ fr, ∃ es n, p.2.data = .dict es n
section
variable {W : Wo} {h₀ : Heap} {L : Addr} {fr fz : Led} {m : Str → Option Value} {mu nw : Led} {B : Heap} {s : Shared}
theorem Fly.raw (Y : Fly W h₀ L fr fz m mu nw B s) : Raw W h₀ L fr fz m mu nw s :=
  ⟨Y.F, Y.T, Y.G, Y.O, let ⟨tb, fr', a, b, c, d, _⟩ := Y.led; ⟨tb, fr', a, b, c, d⟩⟩
theorem ups_step {h h' : Heap} (sm : h.UpToSlots h') : ∀ {fr fr' : Led}, Ups fr fr' → (∀ p ∈ fr, ∃ es n, p.2.data = .dict es n) → (∀ p ∈ fr', h.get? p.1 = some p.2) → ∃ fr'', Ups fr fr'' ∧ adrs fr'' = adrs fr' ∧ ∀ p ∈ fr'', h'.get? p.1 = some p.2
  | _, _, .nil, _, _ => ⟨[], .nil, rfl, fun _ h => nomatch h⟩
  | _, _, .cons (a := a) (o := o) (sl := sl) u, hd, hg => by
    obtain ⟨fr'', u', e, g⟩ := ups_step sm u (fun p hp => hd p (.tail _ hp)) fun p hp => hg p (.tail _ hp)
    obtain ⟨es, n, hdat⟩ := hd _ (.head _)
    obtain ⟨sl', hs⟩ := sm a { o with slots := sl } (hg _ (.head _)) fun vs q => by
      have : o.data = .fields vs := q
      rw [hdat] at this; cases this
    refine ⟨(a, { o with slots := sl' }) :: fr'', .cons u', by simp [adrs] at e ⊢; exact e, fun p hp => ?_⟩
    rcases List.mem_cons.mp hp with rfl | hp
    · exact hs
    · exact g p hp
theorem Fly.step (Y : Fly W h₀ L fr fz m mu nw B s) {h' : Heap} (st : B.StaysIn h') (sm : s.heap.UpToSlots h') : Fly W h₀ L fr fz m mu nw B { s with heap := h' } := by
  obtain ⟨tb, fr', a, b, N, d, hB⟩ := Y.led
  obtain ⟨fr'', u, e, g⟩ := ups_step sm b Y.frd fun p hp => (N p (mem_lam.mpr (.inr (.inl hp)))).1
  have hadr : adrs (lam tb fr'' mu fz nw) = adrs (lam tb fr' mu fz nw) := by
    simp only [lam, adrs, List.map_append] at e ⊢
    rw [e]
  refine ⟨⟨sm.ns Y.F.ns, fun b o q => st _ _ (Y.h0B b o q), Y.F.above⟩, Y.T, Y.G, Y.O, ⟨tb, fr'', a, u, fun p hp => ?_, hadr ▸ d, hB⟩, Y.h0B, Y.frd⟩
  have hold : ∃ q ∈ lam tb fr' mu fz nw, q.1 = p.1 := by
    have : p.1 ∈ adrs (lam tb fr'' mu fz nw) := List.mem_map_of_mem hp
    rw [hadr] at this
    obtain ⟨q, hq, e⟩ := List.mem_map.mp this
    exact ⟨q, hq, e⟩
  obtain ⟨q, hq, eq⟩ := hold
  refine ⟨?_, eq ▸ (N q hq).2.1, eq ▸ (N q hq).2.2⟩
  rcases mem_lam.mp hp with h | h | h | h | h
  · exact st _ _ (hB p (.inl h))
  · exact g p h
  · exact st _ _ (hB p (.inr (.inl h)))
  · exact st _ _ (hB p (.inr (.inr (.inl h))))
  · exact st _ _ (hB p (.inr (.inr (.inr h))))
end

/-- the contract of a def that raises FormatError -/
noncomputable def CallX (W : Wo) (lv : Nat) (f : Addr) (ds : List Dat) : Prop :=
  ∀ (A : Around) (h₀ : Heap) (L : Addr) (fr fz : Led) (m : Str → Option Value) (mu nw : Led) (s : Shared) (vs : List Value) (Q : Value → Shared → Prop) (E : Value → Shared → Prop) (l : List Env),
    Room A lv → A.frames = some l → FrA A L fr → Raw W h₀ L fr fz m mu nw s → DatAll nw vs ds →
    (∀ e s' nw' B t, Sub nw nw' → Fly W h₀ L fr fz m mu nw' B s' → Heap.FlyingW B l e (.ref W.fe) (.ref t) s'.heap → E (.ref e) s') → wpAny W.M A (call (.ref f) vs) Q E s

section
variable {W : Wo} {qual : Str} {scope : Scope} {f : Addr} {cdv : Value} {C : Cx W qual scope f cdv} {ρ : Rho} {μ : Option (Str × List Dat)} {H : Led × Led} {pos px : Pos} {s : Shared} {Q : Flow → Shared → Prop} {E : Value → Shared → Prop} {rest : List Stmt}
/-- an exception has been made in this frame -/
noncomputable def Exc (C : Cx W qual scope f cdv) (e : Addr) (s' : Shared) : Prop :=
  ∃ fz m mu nw s₂ vs, C.fz.Sublist fz ∧ RawC C fz m mu nw s₂ ∧ Sub C.n₀ nw ∧ Heap.MadeExcOf s₂.heap s'.heap e (.ref W.fe) vs ∧ s'.gens = s₂.gens ∧ s'.os = s₂.os
theorem x_raise {x : Str} {k : Nat} {np cp kp : Pos} (S : St C H ρ μ s) (hx : scope.names.lookup (Str.ofString "FormatError") = some .globalImplicit) (hX : ∀ e s', Exc C e s' → E (.ref e) s') :
    wpAny W.M C.A (execs (.Raise (some (.Call (.Name "FormatError" np) [.Constant (.str x) k kp] [] cp)) none pos :: rest) C.env) Q E s := by
  obtain ⟨hfz, m, mu, nw, R, lo, mi, sb⟩ := S
  obtain ⟨tl, Nn, nm, q, bs, hdct, sn, sub, ab, col, dd, k0, k1, k2, k3, k5, mN, hC, hN, hni, TT⟩ := R.T.own.obj
  have FB := PySem.F.excBase_Exception
  refine wpAny_execs_cons (wpAny_Raise_call_subT (C := W.fe) (nm := nm) (q := q) (N := Nn) (bs := bs) (bm := tl) (hdct := hdct) (sn := sn) (sub := sub) (ab := ab) (col := col) (dd := dd) (k0 := k0) (k1 := k1) (k2 := k2) (k3 := k3) (k5 := k5)
    FB (mN := mN) (TT.hasType FB.hasBase) C.room.hh rfl hni (ldG R.F R.T.g R.T.own.bound ⟨rfl, ?_⟩ hx (by decide)))
  refine Calls.evalArgs_plain (wpAny_mono (Q := fun vs s₂ => vs.length ≤ sizeLine ∧ (∀ b o, C.h₀.get? b = some o → s₂.heap.get? b = some o) ∧ ∀ h' e, Heap.MadeExcOf s₂.heap h' e (.ref W.fe) vs → E (.ref e) { s₂ with heap := h' }) (E := E) ?_ (fun vs s₂ h₂ => ⟨rfl, h₂.1, h₂.2.1 _ _ hC, hN.keeps h₂.2.1, TT.keeps h₂.2.1, h₂.2.2⟩) fun _ _ y => y)
  refine args_cons (wpAny_Constant_str (args_nil ⟨by show 1 ≤ sizeLine; decide, fun b o e => R.F.keep b o e, fun h' e he => ?_⟩)) rfl
  exact hX e _ ⟨H.1, m, mu, nw, { s with toks := s.toks + 1 }, _, hfz.1, R.toks _, hfz.2.trans sb, he, rfl, rfl⟩

theorem funFrames_of {h B : Heap} : ∀ {l : List Env} {fr : Led}, FrEnvs l fr → (∀ p ∈ fr, h.get? p.1 = some p.2 ∧ B.get? p.1 = none) → h.FunFrames B l
  | _, _, .nil, _ => trivial
  | _, _, .cons k1 k2 ⟨es, n, hd⟩ r, g => ⟨k1, ⟨_, _, k2, (g _ (.head _)).2, (g _ (.head _)).1, fun vs q => by
      have := hd.symm.trans q; cases this⟩, funFrames_of r fun p hp => g p (.tail _ hp)⟩
theorem frEnvs_dict : ∀ {l : List Env} {fr : Led}, FrEnvs l fr → ∀ p ∈ fr, ∃ es n, p.2.data = .dict es n
  | _, _, .nil, _, h => nomatch h
  | _, _, .cons _ _ hd r, p, h => by
    rcases List.mem_cons.mp h with rfl | h
    · exact hd
    · exact frEnvs_dict r p h
/-- it leaves the frame -/
theorem Exc.leave {A : Around} {h₀ : Heap} {L : Addr} {fr fz : Led} {m : Str → Option Value} {mu nw : Led} (K : Link C A h₀ L fr fz m mu nw) {l : List Env} (hA : A.frames = some l) (hfr : FrA A L fr) {e : Addr} {s' : Shared} (X : Exc C e s') {Q : Unit → Shared → Prop} {E : Value → Shared → Prop}
    (k : ∀ s'' nw' B t, Sub nw nw' → Fly W h₀ L fr fz m mu nw' B s'' → Heap.FlyingW B l e (.ref W.fe) (.ref t) s''.heap → Q () s'') : wpAny W.M C.A (leaving C.env (.ref e)) Q E s' := by
  obtain ⟨fz', m', mu', nw', s₂, vs, hfz, R, hn, hx, hg, ho⟩ := X
  obtain ⟨oL, fr', es, ep, hCfr, hu, hLd, hLk, hLf⟩ := K.frame
  obtain ⟨tb₂, fr₂, t2, u2, N2, nd2⟩ := R.led
  have hCA : C.A.frames = some (C.env :: l) := by rw [K.frames, hA]; rfl
  obtain ⟨env', outer', el, _, _, fe⟩ := C.hf _ hCA
  have eo : l = outer' := (List.cons.inj el).2
  subst eo
  have fe2 := fe.ups u2
  -- the frames are hidden
  let fs : List Addr := C.L :: adrs fr₂
  have hLself : C.h₀.get? C.L = none := by
    cases q : C.h₀.get? C.L with
    | none => rfl
    | some o => exact absurd (Heap.lt_size q) (Nat.not_lt.mpr R.F.above)
  have hfs : ∀ b ∈ fs, C.h₀.get? b = none := fun b hb => by
    rcases List.mem_cons.mp hb with rfl | hb
    · exact hLself
    · obtain ⟨p, hp, rfl⟩ := List.mem_map.mp hb
      exact (N2 p (mem_lam.mpr (.inr (.inl hp)))).2.2
  have stB : ∀ b o, C.h₀.get? b = some o → (hideAll s₂.heap fs).get? b = some o := hide_stays R.F.keep hfs
  obtain ⟨oC, esC, epC, hoC, hdC, _, _⟩ := id R.F.ns
  have FF : s₂.heap.FunFrames (hideAll s₂.heap fs) (C.env :: l) := by
    refine ⟨by show scope.kind ≠ .module; rw [C.hk]; decide, ⟨C.L, oC, rfl, hideAll_none _ (.head _), hoC, fun vs q => by have := hdC.symm.trans q; cases this⟩, ?_⟩
    exact funFrames_of fe2 fun p hp => ⟨(N2 p (mem_lam.mpr (.inr (.inl hp)))).1, hideAll_none _ (.tail _ (List.mem_map_of_mem hp))⟩
  refine wpAny_leaves_madeW hCA rfl (fun b o q => of_hideAll _ q) FF hx fun h' t fl z1 z2 sm => ?_
  rw [hCfr] at u2
  rw [K.fz] at hfz
  cases u2 with
  | cons u3 =>
    rename_i sl fr₃
    have sl2 : (lam tb₂ fr₃ mu fz nw').Sublist (lam tb₂ ((L, { oL with slots := sl }) :: fr₃) mu' fz' nw') := by
      unfold lam
      refine List.Sublist.append_left ?_ tb₂
      refine List.Sublist.trans ?_ (List.sublist_cons_self _ _)
      refine List.Sublist.append_left ?_ fr₃
      rw [← List.append_assoc]
      exact (List.Sublist.append_right hfz nw').trans (List.sublist_append_right _ _)
    have R2 := K.back (K.fz ▸ hfz) R
    have nd3 : (adrs (lam tb₂ fr₃ mu fz nw')).Nodup := nd2.sublist (sl2.map _)
    -- what is no frame of the callee's ledger
    have nofr : ∀ p, p ∈ tb₂ ∨ p ∈ mu ∨ p ∈ fz ∨ p ∈ nw' → p.1 ∉ fs := fun p hp q => by
      have hin : p ∈ tb₂ ∨ p ∈ (mu' ++ (fz' ++ nw')) := by
        rcases hp with h | h | h | h
        · exact .inl h
        · exact .inr (List.mem_append_right _ (List.mem_append_left _ (hfz.subset (List.mem_append_left _ h))))
        · exact .inr (List.mem_append_right _ (List.mem_append_left _ (hfz.subset (List.mem_append_right _ h))))
        · exact .inr (List.mem_append_right _ (List.mem_append_right _ h))
      have hmem : p ∈ lam tb₂ ((L, { oL with slots := sl }) :: fr₃) mu' fz' nw' := by
        rcases hin with h | h
        · exact mem_lam.mpr (.inl h)
        · exact List.mem_append_right _ (List.mem_append_right _ h)
      rcases List.mem_cons.mp q with q | q
      · exact (N2 p hmem).2.1 q
      · obtain ⟨r, hr, er⟩ := List.mem_map.mp q
        have hperm : (lam tb₂ ((L, { oL with slots := sl }) :: fr₃) mu' fz' nw').Perm (((L, { oL with slots := sl }) :: fr₃) ++ (tb₂ ++ (mu' ++ (fz' ++ nw')))) := by
          unfold lam
          generalize mu' ++ (fz' ++ nw') = zz
          generalize (L, { oL with slots := sl }) :: fr₃ = ff
          rw [← List.append_assoc, ← List.append_assoc]
          exact List.Perm.append_right _ List.perm_append_comm
        have nd4 := nodup_perm hperm nd2
        unfold adrs at nd4
        rw [List.map_append] at nd4
        refine (List.nodup_append.mp nd4).2.2 _ (List.mem_map_of_mem hr) _ (List.mem_map.mpr ⟨p, ?_, rfl⟩) er
        rcases hin with h | h
        · exact List.mem_append_left _ h
        · exact List.mem_append_right _ h
    have Y0 : Fly W h₀ L fr fz m mu nw' (hideAll s₂.heap fs) s₂ := by
      have nL2 : ∀ p ∈ lam tb₂ fr₃ mu fz nw', p.1 ≠ L ∧ h₀.get? p.1 = none := fun p hp => by
        have hp2 := sl2.subset hp
        refine ⟨fun q => ?_, ?_⟩
        · have hperm : (lam tb₂ ((L, { oL with slots := sl }) :: fr₃) mu' fz' nw').Perm ((L, { oL with slots := sl }) :: lam tb₂ fr₃ mu' fz' nw') := by unfold lam; exact List.perm_middle
          refine (List.nodup_cons.mp (nodup_perm hperm nd2)).1 (List.mem_map.mpr ⟨p, ?_, q⟩)
          rcases mem_lam.mp hp with h | h | h | h | h
          · exact mem_lam.mpr (.inl h)
          · exact mem_lam.mpr (.inr (.inl h))
          · exact mem_lam.mpr (.inr (.inr (.inr (.inl (hfz.subset (List.mem_append_left _ h))))))
          · exact mem_lam.mpr (.inr (.inr (.inr (.inl (hfz.subset (List.mem_append_right _ h))))))
          · exact mem_lam.mpr (.inr (.inr (.inr (.inr h))))
        · cases q : h₀.get? p.1 with
          | none => rfl
          | some o => have := (N2 p hp2).2.2; rw [K.st0 _ _ q] at this; cases this
      refine ⟨R2.F, K.T, R.G, R.O, ⟨tb₂, fr₃, t2, hu.trans u3, fun p hp => ⟨(N2 p (sl2.subset hp)).1, nL2 p hp⟩, nd3, fun p hp => ?_⟩, fun b o q => stB _ _ (K.st0 b o q), ?_⟩
      · refine hideAll_get _ (N2 p (sl2.subset (mem_lam.mpr ?_))).1 (nofr p hp)
        rcases hp with h | h | h | h
        · exact .inl h
        · exact .inr (.inr (.inl h))
        · exact .inr (.inr (.inr (.inl h)))
        · exact .inr (.inr (.inr (.inr h)))
      · obtain ⟨env, outer, e1, _, _, fr1⟩ := hfr l hA
        exact frEnvs_dict fr1
    have Y1 : Fly W h₀ L fr fz m mu nw' (hideAll s₂.heap fs) { s' with heap := h' } := by
      have y := Y0.step (h' := h') fl.1 ((Heap.UpToSlots.of_keeps hx.keeps).trans sm)
      exact ⟨y.F, y.T, hg ▸ R.G, ho.trans R.O, y.led, y.h0B, y.frd⟩
    exact k _ nw' _ t (K.n₀ ▸ hn) Y1 fl
end
end Mine

open PySem PySem.W PyProof.Rows PySem.Calls PySem.Spec
set_option Elab.async false
set_option maxRecDepth 100000
set_option linter.unusedVariables false
namespace Mine
/-- what a raise does in a body -/
noncomputable abbrev Lv {W : Wo} {qual : Str} {scope : Scope} {f : Addr} {cdv : Value} (C : Cx W qual scope f cdv) (X : Value → Shared → Prop) (e : Value) (s' : Shared) : Prop := wpAny W.M C.A (leaving C.env e) (fun _ s'' => X e s'') (fun e' s'' => X e' s'') s'
noncomputable def FinO {W : Wo} {qual : Str} {scope : Scope} {f : Addr} {cdv : Value} (C : Cx W qual scope f cdv) (res : Option Dat) (fl : Flow) (s : Shared) : Prop := ∃ r, res = some r ∧ Fin C r fl s
theorem call_ofX {W : Wo} {n : Str} {f : Addr} {st : Stmt} {cdv : Value} {lv : Nat} {ds : List Dat} {res : Option Dat} (ps : List Str) (H : FnAt W n f st cdv)
    (hb : ∀ (doc pm : Value) (an : Option Addr) (ct : Value) (vs : List Value), vs.length = ds.length → bindArgs (fnOf n n (paramsOf st) (bodyOf st) (scopeOf st) .none .none doc pm an cdv ct) ⟨vs, []⟩ = pure (ps.zip vs))
    (hl : ps.length = ds.length) (hn : ps.Nodup) (hloc : ∀ x ∈ ps, (scopeOf st).names.lookup x = some .local)
    (hco : (scopeOf st).isCoroutine = false) (hgen : (scopeOf st).isGenerator = false) (hk : (scopeOf st).kind = .function) (hcell : ∀ x ∈ (scopeOf st).names, x.2 ≠ .cell)
    (h : ∀ (C : Cx W n (scopeOf st) f cdv) (s : Shared) (X : Value → Shared → Prop), C.lv = lv → (res = none → ∀ e s', Exc C e s' → Lv C X (.ref e) s') → St C (C.fz, C.n₀) (ps.zip ds) none s → wpAny W.M C.A (execs (bodyOf st) C.env) (FinO C res) (Lv C X) s) :
    (∀ r, res = some r → CallE W (lv + 1) f ds r) ∧ (res = none → CallX W (lv + 1) f ds) := by
  refine ⟨fun r hr => ?_, fun hr => ?_⟩
  · intro A h₀ L fr fz m mu nw s vs Q E room hfr R hvs hQ
    refine call_gen ps H hb hl hn hloc hco hgen hk hcell room hfr R hvs fun C s₁ hlv K S => ?_
    refine wpAny_mono (h C s₁ E hlv (fun q => by rw [hr] at q; cases q) S) (fun fl s' hf => ?_) (fun _ _ x => x)
    obtain ⟨r', e, fz', m', mu', nw', hfz, R', hs', hd'⟩ := hf
    rw [hr] at e
    cases e
    exact hQ _ s' nw' (K.back hfz R') (K.n₀ ▸ hs') hd'
  · intro A h₀ L fr fz m mu nw s vs Q E l room hA hfr R hvs hQ
    refine call_gen ps H hb hl hn hloc hco hgen hk hcell room hfr R hvs fun C s₁ hlv K S => ?_
    refine wpAny_mono (h C s₁ E hlv (fun _ e s' x => x.leave K hA hfr fun s'' nw' B t sb Y fl => hQ e s'' nw' B t sb Y fl) S) (fun fl s' hf => ?_) (fun _ _ x => x)
    obtain ⟨r', e, _⟩ := hf
    rw [hr] at e
    cases e

section
variable {W : Wo} {qual : Str} {scope : Scope} {f : Addr} {cdv : Value} {C : Cx W qual scope f cdv} {ρ : Rho} {μ : Option (Str × List Dat)} {H : Led × Led} {pos px : Pos} {s : Shared} {Q : Flow → Shared → Prop} {E : Value → Shared → Prop} {rest : List Stmt}
variable {n g y : Str} {fa : Addr} {st : Stmt} {cd : Value} {a : Expr} {ds : List Dat} {r : Dat} {lv : Nat} {p1 p2 p3 p4 p5 p6 p7 p8 : Pos} {kk : Nat} {b : Bool}

theorem loop_ret {J : Rho → Option (Str × List Dat) → Prop} {v : Value} {s' : Shared} (h : Q (.ret v) s') : LoopQ C H J rest Q E (.ret v) s' := h
theorem loop_next {J : Rho → Option (Str × List Dat) → Prop} {ρ' : Rho} {μ' : Option (Str × List Dat)} {s' : Shared} (hJ : J ρ' μ') (S : St C H ρ' μ' s') : LoopQ C H J rest Q E .next s' := ⟨ρ', μ', hJ, S⟩
theorem wh_next {J : Rho → Option (Str × List Dat) → Prop} {ρ' : Rho} {μ' : Option (Str × List Dat)} {s' : Shared} (hJ : J ρ' μ') (S : St C H ρ' μ' s') : WhQ C H J rest Q E .next s' := ⟨ρ', μ', hJ, S⟩
/-- try: g = n(a) .. : nothing is raised -/
theorem x_try_ok {hds : List ExceptHandler} {hd0 : ExceptHandler} (S : St C H ρ none s) (h : EvE C ρ (.Call (.Name n p1) [a] [] p2) r) (hl : scope.names.lookup g = some .local) (hs : swapsWith (.Call (.Name n p1) [a] [] p2) (some (.Name g p3)) p4.line C.env = pure false)
    (k : ∀ s', St C H ((g, r) :: ρ) none s' → wpAny W.M C.A (execs rest C.env) Q E s') :
    wpAny W.M C.A (execs (.Try [.Assign [.Name g p3] (.Call (.Name n p1) [a] [] p2) p4] (hd0 :: hds) [] [] pos :: rest) C.env) Q E s := by
  refine wpAny_execs_cons (wpAny_Try_except (x_assign S h hl hs (by intro p hp; cases hp) fun s' S' => x_nil ?_))
  exact wpAny_execs_nil (k s' S')
/-- try: g = n(a) except FormatError: y = b : it is raised -/
theorem x_try_exc (S : St C H ρ none s) (HF : FnAt W n fa st cd) (hx : scope.names.lookup n = some .globalImplicit) (hd : (n == ("__debug__" : Str)) = false) (ha : EvE C ρ a (.list ds)) (he : starEach [a] C.env = [(false, eval a C.env)])
    (hc : CallX W lv fa [.list ds]) (hlv : lv ≤ C.lv) (hfr : C.A.frames ≠ none) (hs : swapsWith (.Call (.Name n p1) [a] [] p2) (some (.Name g p3)) p4.line C.env = pure false) (hfe : scope.names.lookup (Str.ofString "FormatError") = some .globalImplicit) (hy : scope.names.lookup y = some .local)
    (hs2 : swapsWith (.Constant (.bool b) kk p6) (some (.Name y p5)) p7.line C.env = pure false)
    (k : ∀ s', St C H ((y, .bool b) :: ρ) none s' → wpAny W.M C.A (execs rest C.env) Q (fun _ _ => False) s') :
    wpAny W.M C.A (execs (.Try [.Assign [.Name g p3] (.Call (.Name n p1) [a] [] p2) p4] [.ExceptHandler (some (.Name "FormatError" p8)) none [.Assign [.Name y p5] (.Constant (.bool b) kk p6) p7] px] [] [] pos :: rest) C.env) Q (fun _ _ => False) s := by
  obtain ⟨hfz, m, mu, nw, R, lo, mi, sb⟩ := S
  obtain ⟨l, hl⟩ : ∃ l, C.A.frames = some l := by
    cases q : C.A.frames with
    | none => exact (hfr q).elim
    | some l => exact ⟨l, rfl⟩
  obtain ⟨outer, el⟩ := C.he l hl
  subst el
  refine wpAny_execs_cons (wpAny_Try_except (wpAny_execs_cons (wpAny_Assign_Name ?_ hs)))
  refine Call_ (ldG R.F R.T.g HF.g ?_ hx hd)
  have hkeep : keepIn W.K (.ref fa) = true := by
    obtain ⟨oc, od, osl, doc, pm, an, ct, ho⟩ := HF.o
    unfold keepIn
    simp only [ho]
  refine callWith_K R.T.X hkeep ?_ he rfl
  refine (evl_cons ha evl_nil he).run p2 H.1 m mu nw s _ _ R lo fun vs s1 n1 R1 e1 i1 => ⟨R1.now.X, ?_⟩
  have room : Room C.A lv := ⟨C.room.hh, by have := C.room.hd; omega, by have := C.room.hu; omega⟩
  refine hc C.A C.h₀ C.L C.fr H.1 m mu n1 s1 vs _ _ _ room hl C.hf R1 i1 fun e s2 n2 B t sb2 Y fl => ?_
  -- it is caught here
  refine wpAny_looks_onW hl rfl fl fun h₄ held₄ sm₄ => ?_
  have Y4 := Y.step held₄.1 sm₄
  refine wpAny_landsW (s := { s2 with heap := h₄ }) held₄ fun h₅ fl₅ sm₅ => ?_
  have Y5 := Y4.step fl₅.1 sm₅
  have R5 := Y5.raw
  obtain ⟨bm, Nn, nm, q, bs, hdct, sn, sub, ab, col, dd, k0, k1, k2, k3, k5, mN, hC, hN, hni, T⟩ := R5.now.own.obj
  obtain ⟨ob, hob, hobc⟩ := fl₅.there
  refine wpAny_handleBy_cons (codeAny_handlers_test (ldG R5.F R5.T.g R5.T.own.bound ?_ hfe (by decide))) (by intro q; cases q)
  refine wpAny_excMatches_sub_self hC hob hobc (T.hasType (by decide)) (codeAny_handlers_suite ?_)
  refine lands_againW (s := { s2 with heap := h₅ }) fl₅ fun h₆ fl₆ sm₆ => ?_
  have Y6 := Y5.step fl₆.1 sm₆
  have R6 := Y6.raw
  refine wpAny_mono (Q := fun fl s' => fl = .next ∧ wpAny W.M C.A (execs rest C.env) Q (fun _ _ => False) s') (E := fun _ _ => False) (wpAny_execs_cons (wpAny_Assign_Name (Constant_bool (wpAny_storeName_local hy R6.F.ns (fun h' hn hsb => wpAny_execs_nil ⟨rfl, ?_⟩) C_notmod)) hs2)) (fun fl s' h => ?_) (fun _ _ x => x.elim)
  · exact k _ ⟨hfz, _, mu, n2, R6.set hn hsb, loc_store ((lo.mono e1).mono sb2) (.bool b), mut_store (μ := none) mi (by intro p hp; cases hp), (sb.trans e1).trans sb2⟩
  · obtain ⟨rfl, h⟩ := h
    exact h
end
end Mine

open PySem PySem.W PyProof.Rows PySem.Calls PySem.Spec
set_option Elab.async false
set_option maxRecDepth 100000
set_option linter.unusedVariables false
set_option genInjectivity false
set_option genSizeOf false
namespace Mine
theorem cut_map {α β : Type} (g : α → β) (xs : List α) (a b : Option Int) : cut (xs.map g) a b = (cut xs a b).map g := by
  unfold cut
  cases a <;> cases b <;> simp [List.map_take, List.map_drop]
theorem cut_le {α : Type} (xs : List α) (a b : Option Int) : (cut xs a b).length ≤ xs.length := by
  unfold cut
  cases a <;> cases b <;> simp <;> omega
theorem dis_at {ns : List Int} {i : Nat} {d : Dat} (h : (dis ns)[i]? = some d) : ∃ n, ns[i]? = some n ∧ d = .int n := by
  rw [List.getElem?_map] at h
  cases hq : ns[i]? with
  | none => rw [hq] at h; cases h
  | some n => rw [hq] at h; cases h; exact ⟨n, rfl, rfl⟩
section
variable {W : Wo} {qual : Str} {scope : Scope} {f : Addr} {cdv : Value} {C : Cx W qual scope f cdv} {ρ : Rho} {pos px : Pos}
theorem ev_icut {e : Expr} {lo hi : Option Expr} {x y : Option Int} {ns : List Int} {p : Pos} (h : EvE C ρ e (li ns)) (h1 : EvP C ρ lo x) (h2 : EvP C ρ hi y) (hx : ∀ a, x = some a → 0 ≤ a) (hy : ∀ b, y = some b → 0 ≤ b) (hz : ns.length ≤ sizeLine)
    (ht : ∀ l r, letTemporaryGo e (.ref l) r = pure ()) : EvE C ρ (.Subscript e (.Slice lo hi none p) pos) (li (cut ns x y)) := by
  have := ev_cut (pos := pos) (p := p) h h1 h2 hx hy (by rw [List.length_map]; exact hz) ht
  rw [cut_map] at this
  exact this
theorem ev_iladd {l r : Expr} {xs ys : List Int} (h1 : EvE C ρ l (li xs)) (h2 : EvE C ρ r (li ys)) (hz : xs.length + ys.length ≤ sizeLine) : EvE C ρ (.BinOp l .Add r pos) (li (xs ++ ys)) := by
  have := ev_ladd (pos := pos) h1 h2 (by rw [List.length_map, List.length_map]; exact hz)
  rw [← List.map_append] at this
  exact this
theorem ev_irep {l r : Expr} {d n : Int} (h1 : EvE C ρ l (li [d])) (h2 : EvE C ρ r (.int n)) (hn : -(2 ^ 63 : Int) ≤ n) (hz : n ≤ 2 ^ 24) : EvE C ρ (.BinOp l .Mult r pos) (li (List.replicate n.toNat d)) := by
  have := ev_rep (pos := pos) (d := .int d) h1 h2 hn hz
  rw [← List.map_replicate] at this
  exact this
/-- a display of ints -/
structure EvLI (C : Cx W qual scope f cdv) (ρ : Rho) (es : List Expr) (ns : List Int) : Prop where
  all : EvL C ρ es (dis ns)
theorem evli_nil : EvLI C ρ [] [] := ⟨evl_nil⟩
theorem evli_cons {e : Expr} {es : List Expr} {n : Int} {ns : List Int} (h : EvE C ρ e (.int n)) (t : EvLI C ρ es ns) (he : starEach (e :: es) C.env = (false, eval e C.env) :: starEach es C.env) : EvLI C ρ (e :: es) (n :: ns) := ⟨evl_cons h t.all he⟩
theorem ev_ilist {es : List Expr} {ns : List Int} (h : EvLI C ρ es ns) (hz : ns.length ≤ sizeLine) : EvE C ρ (.List es pos) (li ns) := ev_list h.all (by rw [List.length_map]; exact hz)
theorem ev_ilen {e : Expr} {ns : List Int} (h : EvE C ρ e (li ns)) (hg : W.mg "len" = none) (hx : scope.names.lookup (Str.ofString "len") = some .globalImplicit) (hz : ns.length ≤ sizeLine) (he : starEach [e] C.env = [(false, eval e C.env)]) :
    EvE C ρ (.Call (.Name "len" px) [e] [] pos) (.int ns.length) := by
  have := ev_len (pos := pos) (px := px) h hg hx (by rw [List.length_map]; exact hz) he
  rw [List.length_map] at this
  exact this
theorem ev_icopy {e : Expr} {ns : List Int} (h : EvE C ρ e (li ns)) (hg : W.mg "list" = none) (hx : scope.names.lookup (Str.ofString "list") = some .globalImplicit) (hz : ns.length ≤ sizeLine) (he : starEach [e] C.env = [(false, eval e C.env)]) :
    EvE C ρ (.Call (.Name "list" px) [e] [] pos) (li ns) := ev_copy h hg hx (by rw [List.length_map]; exact hz) he
theorem kqd_li (ns : List Int) : kqdOk 9 (li ns) = true := by
  show (dis ns).all (kqdOk 8) = true
  rw [List.all_eq_true]
  intro d hd
  obtain ⟨n, _, rfl⟩ := List.mem_map.mp hd
  rfl
theorem dis_inj {xs ys : List Int} : dis xs = dis ys ↔ xs = ys := by
  constructor
  · intro h
    induction xs generalizing ys with
    | nil => cases ys with | nil => rfl | cons _ _ => cases h
    | cons x xs ih =>
      cases ys with
      | nil => cases h
      | cons y ys =>
        simp only [List.map_cons, List.cons.injEq, Dat.int.injEq] at h
        rw [h.1, ih h.2]
  · intro h; rw [h]
theorem ts_ineq {l r : Expr} {xs ys : List Int} (h1 : EvE C ρ l (li xs)) (h2 : EvE C ρ r (li ys)) : TsE C ρ (.Compare l [.NotEq] [r] pos) (decide (xs ≠ ys)) := by
  classical
  have := ts_neq (pos := pos) h1 h2 (kqd_li xs) (kqd_li ys)
  have e : (!decide (li xs = li ys)) = decide (xs ≠ ys) := by
    by_cases q : xs = ys
    · subst q; simp
    · have : li xs ≠ li ys := fun h => q (dis_inj.mp (Dat.list.inj h))
      simp [q, this]
  rw [e] at this
  exact this
theorem mulOk (a : Int) {b : Int} (h : Builtin.Int.intBits b ≤ 64) : IntMulOk a b := IntMulOk.of_right h
end
end Mine
namespace Mine
/-! ## a def that is called where the frames are known -/
noncomputable def CallF (W : Wo) (lv : Nat) (f : Addr) (ds : List Dat) (r : Dat) : Prop :=
  ∀ (A : Around) (h₀ : Heap) (L : Addr) (fr fz : Led) (m : Str → Option Value) (mu nw : Led) (s : Shared) (vs : List Value) (Q : Value → Shared → Prop) (E : Value → Shared → Prop),
    Room A lv → A.frames ≠ none → FrA A L fr → Raw W h₀ L fr fz m mu nw s → DatAll nw vs ds →
    (∀ v s' nw', Raw W h₀ L fr fz m mu nw' s' → Sub nw nw' → DatIn nw' v r → Q v s') → wpAny W.M A (call (.ref f) vs) Q E s
theorem call_ofF {W : Wo} {n : Str} {f : Addr} {st : Stmt} {cdv : Value} {lv : Nat} {ds : List Dat} {r : Dat} (ps : List Str) (H : FnAt W n f st cdv)
    (hb : ∀ (doc pm : Value) (an : Option Addr) (ct : Value) (vs : List Value), vs.length = ds.length → bindArgs (fnOf n n (paramsOf st) (bodyOf st) (scopeOf st) .none .none doc pm an cdv ct) ⟨vs, []⟩ = pure (ps.zip vs))
    (hl : ps.length = ds.length) (hn : ps.Nodup) (hloc : ∀ x ∈ ps, (scopeOf st).names.lookup x = some .local)
    (hco : (scopeOf st).isCoroutine = false) (hgen : (scopeOf st).isGenerator = false) (hk : (scopeOf st).kind = .function) (hcell : ∀ x ∈ (scopeOf st).names, x.2 ≠ .cell)
    (h : ∀ (C : Cx W n (scopeOf st) f cdv) (s : Shared), C.lv = lv → C.A.frames ≠ none → St C (C.fz, C.n₀) (ps.zip ds) none s → wpAny W.M C.A (execs (bodyOf st) C.env) (Fin C r) (fun _ _ => False) s) :
    CallF W (lv + 1) f ds r := by
  intro A h₀ L fr fz m mu nw s vs Q E room hA hfr R hvs hQ
  refine call_gen ps H hb hl hn hloc hco hgen hk hcell room hfr R hvs fun C s₁ hlv K S => ?_
  refine wpAny_mono (h C s₁ hlv (fun q => ?_) S) (fun fl s' hf => ?_) (fun _ _ x => x.elim)
  · rw [K.frames] at q
    cases hq : A.frames with
    | none => exact hA hq
    | some l => rw [hq] at q; cases q
  obtain ⟨fz', m', mu', nw', hfz, R', hs', hd'⟩ := hf
  exact hQ _ s' nw' (K.back hfz R') (K.n₀ ▸ hs') hd'
section
variable {W : Wo} {qual : Str} {scope : Scope} {f : Addr} {cdv : Value} {C : Cx W qual scope f cdv} {ρ : Rho} {pos px : Pos}
theorem ev_callF {n : Str} {fa : Addr} {st : Stmt} {cd : Value} {e : Expr} {es : List Expr} {ds : List Dat} {r : Dat} {lv : Nat} (H : FnAt W n fa st cd) (hx : scope.names.lookup n = some .globalImplicit)
    (hd : (n == ("__debug__" : Str)) = false) (hl : EvL C ρ (e :: es) ds) (he : starEach (e :: es) C.env = (false, eval e C.env) :: starEach es C.env) (hp : (backTo pos (starEach es C.env)).any (·.1) = false)
    (hc : CallF W lv fa ds r) (hlv : lv ≤ C.lv) (hA : C.A.frames ≠ none) : EvE C ρ (.Call (.Name n px) (e :: es) [] pos) r := by
  constructor; intro fz m mu nw s Q E R lo k
  refine Call_ (ldG R.F R.T.g H.g ?_ hx hd)
  have hkeep : keepIn W.K (.ref fa) = true := by
    obtain ⟨oc, od, osl, doc, pm, an, ct, ho⟩ := H.o
    unfold keepIn
    simp only [ho]
  refine callWith_K R.T.X hkeep ?_ he hp
  refine hl.run pos fz m mu nw s _ E R lo fun vs s1 n1 R1 e1 i1 => ⟨R1.now.X, ?_⟩
  have room : Room C.A lv := ⟨C.room.hh, by have := C.room.hd; omega, by have := C.room.hu; omega⟩
  exact hc C.A C.h₀ C.L C.fr fz m mu n1 s1 vs Q E room hA C.hf R1 i1 fun v s2 n2 R2 e2 i2 => k v s2 n2 R2 (e1.trans e2) i2
end
theorem exists_max : ∀ (l : List Int), l ≠ [] → ∃ M, M ∈ l ∧ ∀ a ∈ l, a ≤ M
  | [], h => (h rfl).elim
  | [x], _ => ⟨x, by simp, by simp⟩
  | x :: y :: r, _ => by
    obtain ⟨M, h1, h2⟩ := exists_max (y :: r) (by simp)
    by_cases q : x ≤ M
    · exact ⟨M, .tail _ h1, fun a ha => by rcases List.mem_cons.mp ha with rfl | ha; exact q; exact h2 a ha⟩
    · exact ⟨x, .head _, fun a ha => by rcases List.mem_cons.mp ha with rfl | ha; exact Int.le_refl _; exact Int.le_trans (h2 a ha) (by omega)⟩
end Mine

open PySem PySem.W PyProof.Rows PySem.Calls PySem.Spec
set_option Elab.async false
set_option maxRecDepth 100000
set_option linter.unusedVariables false
set_option genInjectivity false
set_option genSizeOf false
namespace Mine

section
variable {prog : Program} {w : World} {A : Around}
end

/-! ## the logic's own rule -/
noncomputable abbrev Wo.at_ (W : Wo) (g : Array GenState) : Wo := { W with gn := g }
theorem At.at_ {W : Wo} {h : Heap} (T : At W h) (g : Array GenState) : At (W.at_ g) h := ⟨T.X, T.g, T.b, T.nolimit, T.blt, T.tab, T.bmod, T.own⟩
section
variable {W : Wo} {h₀ : Heap} {L : Addr} {fr fz mu nw : Led} {m : Str → Option Value} {s : Shared}
theorem Raw.at_ (R : Raw W h₀ L fr fz m mu nw s) {g : Array GenState} {s' : Shared} (hh : s'.heap = s.heap) (ho : s'.os = s.os) (G : Gs (W.at_ g) s'.gens) : Raw (W.at_ g) h₀ L fr fz m mu nw s' :=
  ⟨hh ▸ R.F, R.T.at_ g, G, ho.trans R.O, hh ▸ R.led⟩
theorem lam_swap {tb fr mu fz nw : Led} (p q : Addr × Obj) : (lam tb fr mu (p :: q :: fz) nw).Perm (lam tb fr mu (q :: p :: fz) nw) := by
  unfold lam
  refine List.Perm.append_left tb (List.Perm.append_left fr (List.Perm.append_left mu ?_))
  exact List.Perm.swap q p _
theorem Raw.swap {p q : Addr × Obj} (R : Raw W h₀ L fr (p :: q :: fz) m mu nw s) : Raw W h₀ L fr (q :: p :: fz) m mu nw s :=
  ⟨R.F, R.T, R.G, R.O, by
    obtain ⟨tb, fr', a, b, N, d⟩ := R.led
    exact ⟨tb, fr', a, b, fun x hx => N x ((lam_swap p q).mem_iff.mpr hx), nodup_perm (lam_swap p q) d⟩⟩
theorem Raw.top {p : Addr × Obj} (R : Raw W h₀ L fr (p :: fz) m mu nw s) : s.heap.get? p.1 = some p.2 := by
  obtain ⟨tb, fr', _, _, N, _⟩ := R.led
  exact (N _ ((lam_top p).mem_iff.mpr (.head _))).1
theorem Raw.topne {p : Addr × Obj} (R : Raw W h₀ L fr (p :: fz) m mu nw s) {x : Addr × Obj} (hx : x ∈ nw) : x.1 ≠ p.1 := by
  obtain ⟨tb, fr', _, _, N, nd⟩ := R.led
  have := (List.nodup_cons.mp (nodup_perm (lam_top p) nd)).1
  exact fun q => this (List.mem_map.mpr ⟨x, mem_lam.mpr (.inr (.inr (.inr (.inr hx)))), q⟩)
end

theorem Raw.permFz {W : Wo} {h₀ : Heap} {L : Addr} {fr fz fz' mu nw : Led} {m : Str → Option Value} {s : Shared} (h : fz.Perm fz') (R : Raw W h₀ L fr fz m mu nw s) : Raw W h₀ L fr fz' m mu nw s := by
  have hp : ∀ tb fr', (lam tb fr' mu fz nw).Perm (lam tb fr' mu fz' nw) := fun tb fr' => by
    unfold lam
    exact List.Perm.append_left tb (List.Perm.append_left fr' (List.Perm.append_left mu (h.append_right nw)))
  obtain ⟨tb, fr', a, b, N, d⟩ := R.led
  exact ⟨R.F, R.T, R.G, R.O, ⟨tb, fr', a, b, fun x hx => N x ((hp tb fr').mem_iff.mpr hx), nodup_perm (hp tb fr') d⟩⟩
section
variable {W : Wo} {qual : Str} {scope : Scope} {f : Addr} {cdv : Value} {C : Cx W qual scope f cdv} {ρ : Rho} {pos px gpos ppx : Pos}
end
end Mine

open PySem PySem.W PyProof.Rows PySem.Calls PySem.Spec
set_option Elab.async false
set_option maxRecDepth 100000
set_option linter.unusedVariables false
namespace Mine
/-! ## the top: what is hidden, how a def is entered, what is left -/
/-- no table and no list is written out -/
noncomputable def fineK (K : Frag) : Bool := K.all fun p => match p.2.cls, p.2.data with
  | .none, .fields _ => false
  | .type "list", _ => false
  | _, _ => true
noncomputable abbrev hid (l : Addr) (tabs : List (Addr × Addr)) : List Addr := l :: tabs.map (·.2)
section
variable {h : Heap} {l : Addr} {tabs : List (Addr × Addr)} {vs : List Value} {c : Nat}
theorem hid_get (hT : TabsAt tabs h) (hl : h.get? l = some (listOf vs.toArray c)) {b : Addr} {o : Obj} (e : h.get? b = some o) (h1 : o ≠ tabObj #[]) (h2 : o ≠ listOf vs.toArray c) : (hideAll h (hid l tabs)).get? b = some o :=
  hideAll_get _ e fun q => by
    rcases List.mem_cons.mp q with rfl | q
    · rw [hl] at e; exact h2 (Option.some.inj e).symm
    · obtain ⟨r, hr, e2⟩ := List.mem_map.mp q
      have e3 := (hT r hr).2
      rw [e2, e] at e3
      exact h1 (Option.some.inj e3)
theorem hid_ns (hT : TabsAt tabs h) (hl : h.get? l = some (listOf vs.toArray c)) {a : Addr} {mm : Str → Option Value} (x : h.Ns a mm) : (hideAll h (hid l tabs)).Ns a mm :=
  let ⟨o, es, ep, e, hd, r⟩ := x; ⟨o, es, ep, hid_get hT hl e (fun q => by rw [q] at hd; cases hd) (fun q => by rw [q] at hd; cases hd), hd, r⟩
theorem hid_K (hT : TabsAt tabs h) (hl : h.get? l = some (listOf vs.toArray c)) {K : Frag} (X : K.In h) (hK : fineK K = true) : K.In (hideAll h (hid l tabs)) := fun a o e => by
  have h2 := List.all_eq_true.mp hK (a, o) (mem_of_lookupK e)
  refine hid_get hT hl (X a o e) (fun q => ?_) (fun q => ?_)
  · subst q; exact absurd (show false = true from h2) Bool.false_ne_true
  · subst q; exact absurd (show false = true from h2) Bool.false_ne_true
theorem hid_code (hT : TabsAt tabs h) (hl : h.get? l = some (listOf vs.toArray c)) : ∀ t ∈ tabs, CodeHd (hideAll h (hid l tabs)) t.1 t.2 := fun q hq => by
  obtain ⟨o, vs, file, tf, flags, tg, inF, text, tt, e1, r1, r2, r3, r4, r5, r6, r7, r8, hne⟩ := (hT q hq).1
  exact ⟨o, vs, file, tf, flags, tg, inF, text, tt, hid_get hT hl e1 (fun q => by rw [q] at r1; cases r1) (fun q => by rw [q] at r1; exact absurd r1 (by simp [PySem.W.listOf])), r1, r2, r3, r4, r5, r6, r7, r8, hne⟩
theorem tabs_are (tabs : List (Addr × Addr)) : TabsAre tabs (tabNews tabs) := by
  induction tabs with
  | nil => exact .nil
  | cons t r ih => exact .cons (ps := #[]) trivial ih
theorem tabs_mem {tabs : List (Addr × Addr)} {tb : Led} {t : Addr × Addr} (h : TabsAre tabs tb) (hm : t ∈ tabs) : ∃ ps, (t.2, tabObj ps) ∈ tb := by
  obtain ⟨ps, t1, t2, _, e, _⟩ := tabs_split (c := t.1) (P := t.2) h hm
  exact ⟨ps, by rw [e]; simp⟩
/-- everything stands as it was -/
theorem old_of {h' : Heap} {tb : Led} (hT : TabsAt tabs h) (ht : TabsAre tabs tb) (hl : h.get? l = some (listOf vs.toArray c)) (keep : ∀ b o, (hideAll h (hid l tabs)).get? b = some o → h'.get? b = some o) (hN : ∀ p ∈ tb, h'.get? p.1 = some p.2)
    (hl' : h'.get? l = some (listOf vs.toArray c)) : OldK h h' := by
  refine ⟨fun b o e => ?_, fun b o e => ?_⟩
  · by_cases q : b ∈ hid l tabs
    · rcases List.mem_cons.mp q with rfl | q
      · rw [hl] at e; cases e; exact .inl hl'
      · obtain ⟨t, hr, rfl⟩ := List.mem_map.mp q
        obtain ⟨ps, hp⟩ := tabs_mem ht hr
        have e3 := (hT t hr).2
        rw [e] at e3
        have e4 := Option.some.inj e3
        subst e4
        obtain ⟨oc, vc, file, tf, flags, tg, inF, text, tt, e1, r1, r2, r3, _⟩ := (hT t hr).1
        refine .inr (.inl ⟨⟨t.1, oc, vc, e1, r1, r2, r3⟩, rfl, #[], ps, rfl, ?_⟩)
        have := hN _ hp
        simpa using this
    · exact .inl (keep b o (hideAll_get _ e q))
  · by_cases q : b ∈ hid l tabs
    · rcases List.mem_cons.mp q with rfl | q
      · exact ⟨_, hl'⟩
      · obtain ⟨t, hr, rfl⟩ := List.mem_map.mp q
        obtain ⟨ps, hp⟩ := tabs_mem ht hr
        exact ⟨_, hN _ hp⟩
    · exact ⟨o, keep b o (hideAll_get _ e q)⟩
end

/-- a world as the top gives it -/
theorem at_top {p : Program} {loose : List Str} {mean : ExcName → Option Value} {mg mb : Str → Option Value} {h : Heap} {prog : Program} {w : World} {K : Frag} {bm : Addr} {ob : Obj} {tabs : List (Addr × Addr)} {os : OsState} {fe l : Addr} {vs : List Value} {c : Nat} (T : Top p loose mean mg mb h) (M : BMod h mainGlobals mg bm ob) (X : K.In h) (hK : fineK K = true)
    (hT : TabsAt tabs h) (hl : h.get? l = some (listOf vs.toArray c)) (e : nsIn K mainGlobals "FormatError" = some (some (.ref fe))) (q : excIn K fe [.type "Exception", .type "BaseException", .type "object"] "Exception.__new__" = true) (gn : Array GenState) :
    At ⟨prog, w, K, mg, mb, bm, ob, tabs, os, fe, gn⟩ (hideAll h (hid l tabs)) where
  X := hid_K hT hl X hK
  g := hid_ns hT hl T.g
  b := hid_ns hT hl T.b
  nolimit := let ⟨mc, a, r⟩ := T.nolimit; ⟨mc, hid_ns hT hl a, r⟩
  blt := T.builtins
  tab := hid_code hT hl
  bmod := ⟨hid_ns hT hl M.ns, M.name, M.ne, hid_get hT hl M.obj (fun q => by have := M.cls; change ob = _ at q; rw [q] at this; cases this) (fun q => by have := M.cls; change ob = _ at q; rw [q] at this; exact absurd this (by simp [PySem.W.listOf])), M.cls, M.dict, M.data⟩
  own := own_of_in (p := p) (loose := loose) (mb := mb) (hid_K hT hl X hK) ⟨hid_ns hT hl T.g, hid_ns hT hl T.b, let ⟨mc, a, r⟩ := T.nolimit; ⟨mc, hid_ns hT hl a, r⟩, T.builtins, T.free⟩ e q
theorem ints_dat {nw : Led} : ∀ {vs : List Value} {ns : List Int}, IntsAre vs ns → DatAll nw vs (dis ns)
  | _, _, .nil => .nil
  | _, _, .cons _ _ h => .cons (.int _ _) (ints_dat h)
end Mine

open PySem PySem.W PyProof.Rows PySem.Calls PySem.Spec
set_option Elab.async false
set_option maxRecDepth 100000
set_option linter.unusedVariables false
namespace Mine
/-! ## comprehensions of ints; names that are cells -/
theorem Raw.loseAdd {W : Wo} {h₀ : Heap} {L : Addr} {fr fz mu nw : Led} {m m' : Str → Option Value} {s : Shared} {I D : Addr} {o oD : Obj} (R : Raw W h₀ L fr ((I, o) :: fz) m mu nw s) {s' : Shared} (hns : s'.heap.Ns L m') (hs : ∀ b o, b ≠ L → b ≠ I → s.heap.get? b = some o → s'.heap.get? b = some o)
    (hD : s'.heap.get? D = some oD) (hDn : s.heap.get? D = none) (G : Gs W s'.gens) (O : s'.os = s.os) : Raw W h₀ L fr fz m' mu ((D, oD) :: nw) s' := by
  obtain ⟨tb, fr', ht, hu, N, nd⟩ := R.led
  have hDne : ∀ b ob, s.heap.get? b = some ob → b ≠ D := fun b ob e q => by rw [q, hDn] at e; cases e
  have hDL : D ≠ L := fun q => by
    obtain ⟨oL, _, _, hL, _⟩ := R.F.ns
    exact hDne _ _ hL q.symm
  have hnd := List.nodup_cons.mp (nodup_perm (lam_top (I, o)) nd)
  refine ⟨⟨hns, fun b ob e => hs b ob (fun q => ?_) (fun q => ?_) (R.F.keep b ob e), R.F.above⟩, R.T, G, O.trans R.O, ⟨tb, fr', ht, hu, fun p hp => ?_, ?_⟩⟩
  · exact absurd (Heap.lt_size e) (Nat.not_lt.mpr (q ▸ R.F.above))
  · rw [q, (N _ ((lam_top (I, o)).mem_iff.mpr (.head _))).2.2] at e; cases e
  · rcases List.mem_cons.mp ((lam_perm _).mem_iff.mp hp) with rfl | hp
    · refine ⟨hD, hDL, ?_⟩
      cases q : h₀.get? D with
      | none => rfl
      | some o' => rw [R.F.keep _ _ q] at hDn; cases hDn
    · have h1 := N p ((lam_top (I, o)).mem_iff.mpr (.tail _ hp))
      exact ⟨hs _ _ h1.2.1 (fun q => hnd.1 (List.mem_map.mpr ⟨p, hp, q⟩)) h1.1, h1.2⟩
  · refine nodup_perm (lam_perm _).symm (List.nodup_cons.mpr ⟨fun hm => ?_, hnd.2⟩)
    obtain ⟨p, hp, e⟩ := List.mem_map.mp hm
    exact hDne _ _ (N p ((lam_top (I, o)).mem_iff.mpr (.tail _ hp))).1 e

section
variable {W : Wo} {qual : Str} {scope : Scope} {f : Addr} {cdv : Value} {C : Cx W qual scope f cdv} {ρ : Rho} {μ : Option (Str × List Dat)} {H : Led × Led} {gs : Scope} {x y : Str} {pos px py sp p1 p2 p3 p4 p5 p6 : Pos} {s : Shared} {Q : Flow → Shared → Prop} {E : Value → Shared → Prop} {rest : List Stmt} {cl : List (Str × Addr)}
/-- the item of a comprehension: an int for an int -/
noncomputable def EltC (C : Cx W qual scope f cdv) (gs : Scope) (cl : List (Str × Addr)) (x : Str) (elt : Expr) (k r : Int) : Prop :=
  ∀ (Ca : Addr) (s₃ : Shared) (m₃ : Str → Option Value) (t : Tok) (E' : Value → Shared → Prop), At W s₃.heap → (∀ p ∈ C.cf, s₃.heap.get? p.1 = some p.2) → (∀ p ∈ C.n₀, s₃.heap.get? p.1 = some p.2) → s₃.heap.Ns Ca m₃ → m₃ x = some (.int k t) →
    wpAny W.M C.A (eval elt (compEnvC gs cl Ca C.env)) (fun y s₄ => (∃ u, y = .int r u) ∧ Keeps s₃ s₄) E' s₃
noncomputable def PairI (fn : Int → Int) (v y : Value) : Prop := ∃ k t u, v = .int k t ∧ y = .int (fn k) u
theorem paired_ints {fn : Int → Int} {nw : Led} : ∀ {vs ys : List Value} {ns : List Int}, IntsAre vs ns → Paired (PairI fn) vs ys → DatAll nw ys (dis (ns.map fn))
  | _, _, _, .nil, .nil => .nil
  | _, _, _, .cons n tk r, .cons h t => by
    obtain ⟨k, t', u, e1, e2⟩ := h
    cases e1
    subst e2
    exact .cons (.int _ _) (paired_ints r t)
theorem comp_run {iter elt : Expr} {ns : List Int} {fn : Int → Int} (hit : IterE C ρ iter (dis ns)) (hel : ∀ k ∈ ns, EltC C gs cl x elt k (fn k)) (hz : ns.length ≤ sizeLine) {fz : Led} {m : Str → Option Value} {mu nw : Led} {s : Shared} {E : Value → Shared → Prop} (R : RawC C fz m mu nw s) (lo : Loc C fz ρ m nw)
    {Q : Value → Shared → Prop} (k : ∀ (I : Addr) (o : Obj) (s2 : Shared) (n2 : Led) (fp : List Addr) (P : Nat → Value → Prop) (Stt : Nat → Heap → Prop), RawC C ((I, o) :: fz) m mu n2 s2 → Sub nw n2 → Walks W.prog W.w C.A I fp [I] ns.length P Stt → Stt 0 s2.heap → (∀ b ∈ fp, b < s2.heap.objs.size) →
      QuietOnC W.prog W.w C.A C.env gs cl x [] elt [I] P (fun _ => true) (PairI fn) s2 → (∀ vs : List Value, vs.length = ns.length → (∀ (j : Nat) v, vs[j]? = some v → P j v) → IntsAre vs ns) → Q (.ref I) s2) :
    wpAny W.M C.A (eval iter C.env) (fun xv s₁ => wpAny W.M C.A (pyIter xv) Q E s₁) E s := by
  refine hit.run fz m mu nw s _ E R lo fun I o fp P Stt s2 n2 R2 e2 Wk hfp hst hob hP => ?_
  have hlenI : (dis ns).length = ns.length := List.length_map _
  have hint : ∀ i v, P i v → ∃ (n : Int) (t : Tok), ns[i]? = some n ∧ v = Value.int n t := fun i v hv => by
    obtain ⟨d, hd, iv⟩ := hP i v hv
    obtain ⟨n, hq, rfl⟩ := dis_at hd
    obtain ⟨t, rfl⟩ := datIn_int iv
    exact ⟨n, t, hq, rfl⟩
  have hIn : C.h₀.get? I = none := by
    obtain ⟨tb, fr', _, _, N, _⟩ := R2.led
    exact (N _ ((lam_top (I, o)).mem_iff.mpr (.head _))).2.2
  refine k I o s2 n2 fp P Stt R2 e2 (hlenI ▸ Wk C.A C.room.hh) hst (fun b hb => ?_) ⟨?_, ?_⟩ fun vs hl hv => ints_of_items hl fun j v hj => hint j v (hv j v hj)
  · rcases hfp b hb with rfl | ⟨p, hp, rfl⟩
    · exact Heap.lt_size R2.top
    · exact Heap.lt_size (R2.get hp)
  · intro Ca i v s₃ m₃ E' _ _ _ _ _ _
    exact wpAny_tests_nil ⟨rfl, ⟨_, _, rfl, fun _ _ e => e⟩⟩
  · intro Ca i v s₃ m₃ E' hCa hPi _ hns hm hkp _
    obtain ⟨n, t, hq, rfl⟩ := hint i v hPi
    have keep : ∀ b ob, b ≠ I → s2.heap.get? b = some ob → s₃.heap.get? b = some ob := fun b ob hb e => hkp b ob (by simpa using hb) e
    have hat : At W s₃.heap := R2.T.keeps fun b ob e => keep b ob (fun q => by rw [q, hIn] at e; cases e) (R2.F.keep b ob e)
    refine wpAny_mono (hel n (List.mem_of_getElem? hq) Ca s₃ m₃ t E' hat (fun p hp => ?_) (fun p hp => ?_) hns hm) (fun y s₄ h => ⟨?_, h.2⟩) fun _ _ e => e
    · have hc := lo.cells p hp
      have hne : p.1 ≠ I := by
        obtain ⟨tb, fr', _, _, N, nd⟩ := R2.led
        have := (List.nodup_cons.mp (nodup_perm (lam_top (I, o)) nd)).1
        exact fun q => this (List.mem_map.mpr ⟨p, mem_lam.mpr (.inr (.inr (.inr (.inl hc)))), q⟩)
      have hg : s2.heap.get? p.1 = some p.2 := by
        obtain ⟨tb, fr', _, _, N, nd⟩ := R2.led
        exact (N p (mem_lam.mpr (.inr (.inr (.inr (.inl (.tail _ hc))))))).1
      exact keep _ _ hne hg
    · have hc := e2 p (lo.base p hp)
      exact keep _ _ (R2.topne hc) (R2.get hc)
    · obtain ⟨u, e⟩ := h.1
      exact ⟨n, t, u, rfl, e⟩
/-- [elt for x in iter] -/
theorem ev_comp {iter elt : Expr} {ns : List Int} {fn : Int → Int} (hit : IterE C ρ iter (dis ns)) (hel : ∀ k ∈ ns, EltC C gs cl x elt k (fn k)) (hz : ns.length ≤ sizeLine) (hclos : closureFor gs C.env = pure cl) (hcell : ∀ z ∈ gs.names, z.2 ≠ .cell) (hkind : gs.kind = .function)
    (hnames : ∀ z ∈ gs.names, z.2 = .local → gs.names.lookup z.1 = some .local) (hx : gs.names.lookup x = some .local) (hs : ∀ v, foldedSetIterable iter C.env v = pure v) : EvE C ρ (.ListComp elt [⟨.Name x px, iter, [], 0⟩] gs pos) (li (ns.map fn)) := by
  constructor; intro fz m mu nw s Q E R lo k
  refine wpAny_ListComp_free (fun _ => true) (PairI fn) hclos hcell hkind hnames hx (comp_run hit hel hz R lo fun I o s2 n2 fp P Stt R2 e2 Wk hst hfp hq hv => ?_) hs
  refine ⟨I, fp, [I], ns.length, P, Stt, rfl, Wk, hz, hst, hfp, hq, fun D h' tk ys vs hD _ hpl hlen hPv hpair hk => ?_⟩
  obtain ⟨c, hDc⟩ := hpl
  rw [List.filter_eq_self.mpr (fun _ _ => rfl)] at hpair
  have R3 : RawC C fz m mu ((D, PySem.W.listOf ys c) :: n2) { s2 with heap := h', toks := tk } := by
    refine R2.loseAdd (R2.F.ns.at' fun ob e => hk _ ob ?_ e) (fun b ob h1 h2 e => hk b ob (by simpa using h2) e) hDc hD R2.G rfl
    intro q
    obtain ⟨tb, fr', _, _, N, _⟩ := R2.led
    exact (N _ ((lam_top (I, o)).mem_iff.mpr (.head _))).2.1 (List.mem_singleton.mp q).symm
  refine k _ _ _ R3 (e2.trans Sub.cons) ?_
  have ha : DatAll ((D, PySem.W.listOf ys c) :: n2) ys.toList (dis (ns.map fn)) := paired_ints (hv vs hlen hPv) hpair
  exact .list (vs := ys.toList) (n := c) (by rw [Array.toArray_toList]; exact .head _) ha
/-- y = [elt for x in iter] -/
theorem x_comp {iter elt : Expr} {ns : List Int} {fn : Int → Int} (S : St C H ρ none s) (hit : IterE C ρ iter (dis ns)) (hel : ∀ k ∈ ns, EltC C gs cl x elt k (fn k)) (hz : ns.length ≤ sizeLine)
    (hsw : swapsWith (.ListComp elt [⟨.Name x px, iter, [], 0⟩] gs pos) (some (.Name y py)) sp.line C.env = pure true) (hclos : closureFor gs C.env = pure cl) (hcell : ∀ z ∈ gs.names, z.2 ≠ .cell) (hkind : gs.kind = .function)
    (hnames : ∀ z ∈ gs.names, z.2 = .local → gs.names.lookup z.1 = some .local) (hx : gs.names.lookup x = some .local) (hy : scope.names.lookup y = some .local) (hs : ∀ v, foldedSetIterable iter C.env v = pure v)
    (k : ∀ s', St C H ((y, li (ns.map fn)) :: ρ) none s' → wpAny W.M C.A (execs rest C.env) Q E s') :
    wpAny W.M C.A (execs (.Assign [.Name y py] (.ListComp elt [⟨.Name x px, iter, [], 0⟩] gs pos) sp :: rest) C.env) Q E s := by
  obtain ⟨hfz, m, mu, nw, R, lo, mi, sb⟩ := S
  refine wpAny_execs_cons (wpAny_Assign_ListComp_free (fun _ => true) (PairI fn) hsw hclos hcell hkind hnames hx hy C_notmod (comp_run hit hel hz R lo fun I o s2 n2 fp P Stt R2 e2 Wk hst hfp hq hv => ?_) hs)
  have hIL : I ≠ C.L := by
    obtain ⟨tb, fr', _, _, N, _⟩ := R2.led
    exact (N _ ((lam_top (I, o)).mem_iff.mpr (.head _))).2.1
  refine ⟨I, fp, [I], ns.length, P, Stt, m, rfl, Wk, hz, hst, hfp, (fun q => hIL (List.mem_singleton.mp q).symm), R2.F.ns, hq, fun D h' tk ys vs hD _ hpl hlen hPv hpair hns hk => ?_⟩
  obtain ⟨c, hDc⟩ := hpl
  rw [List.filter_eq_self.mpr (fun _ _ => rfl)] at hpair
  have R3 : RawC C H.1 (fun z => if z = y then some (.ref D) else m z) mu ((D, PySem.W.listOf ys c) :: n2) { s2 with heap := h', toks := tk } :=
    R2.loseAdd hns (fun b ob h1 h2 e => hk b ob h1 (by simpa using h2) e) hDc hD R2.G rfl
  have ha : DatAll ((D, PySem.W.listOf ys c) :: n2) ys.toList (dis (ns.map fn)) := paired_ints (hv vs hlen hPv) hpair
  refine k _ ⟨hfz, _, mu, _, R3, loc_store ((lo.mono e2).mono Sub.cons) (.list (vs := ys.toList) (n := c) (by rw [Array.toArray_toList]; exact .head _) ha), ?_, (sb.trans e2).trans Sub.cons⟩
  exact mut_store (μ := none) mi (by intro p hp; cases hp)

/-! the names inside -/
theorem cin_local {v : Value} {Ca : Addr} {s : Shared} {m₂ : Str → Option Value} {Q : Value → Shared → Prop} {E : Value → Shared → Prop} (hns : s.heap.Ns Ca m₂) (hm : m₂ x = some v) (hk : gs.kind = .function) (hx : gs.names.lookup x = some .local)
    (hd : (x == ("__debug__" : Str)) = false) (k : Q v s) : wpAny W.M C.A (eval (.Name x pos) (compEnvC gs cl Ca C.env)) Q E s :=
  wpAny_Name (wpAny_loadName_local (env := compEnvC gs cl Ca C.env) hk (lookup_relabel_local hx) hns hm k) hd
theorem cin_cell {v : Value} {Ca c : Addr} {o : Obj} {s : Shared} {Q : Value → Shared → Prop} {E : Value → Shared → Prop} (hc : cl.lookup x = some c) (ho : s.heap.get? c = some o) (hod : o.data = .cell (some v)) (hk : gs.kind = .function) (hx : (relabel gs C.env).names.lookup x = some .cell)
    (hd : (x == ("__debug__" : Str)) = false) (k : Q v s) : wpAny W.M C.A (eval (.Name x pos) (compEnvC gs cl Ca C.env)) Q E s :=
  wpAny_Name (wpAny_loadName_cell (env := compEnvC gs cl Ca C.env) hk hx hc ⟨o, ho, hod⟩ k) hd
theorem cin_builtin {n : Str} {v : Value} {Ca : Addr} {s : Shared} {Q : Value → Shared → Prop} {E : Value → Shared → Prop} (T : At W s.heap) (hk : gs.kind = .function) (hg : W.mg n = none) (hv : bootBuiltins n = some v) (hn : n ≠ "__name__")
    (hx : (relabel gs C.env).names.lookup n = some .globalImplicit) (hd : (n == ("__debug__" : Str)) = false) (k : Q v s) : wpAny W.M C.A (eval (.Name n pos) (compEnvC gs cl Ca C.env)) Q E s :=
  Calls.Name_function_global (env := compEnvC gs cl Ca C.env) hk hx (Calls.loadGlobal_builtin (env := compEnvC gs cl Ca C.env) T.g hg T.b ((T.blt n hn).trans hv) k) hd
/-- min(x, K) -/
theorem eltC_min {k K : Int} {kk : Nat} (hg : W.mg "min" = none) (hk : gs.kind = .function) (hx : gs.names.lookup x = some .local) (hd : (x == ("__debug__" : Str)) = false) (hm : (relabel gs C.env).names.lookup (Str.ofString "min") = some .globalImplicit) :
    EltC C gs cl x (.Call (.Name "min" p1) [.Name x p2, .Constant (.int K) kk p3] [] p4) k (min k K) := by
  intro Ca s₃ m₃ t E' T _ _ hns hmx
  refine Call_ (cin_builtin T hk hg PyProof.Rows.Boot.«min» (by decide) hm (by decide) ?_)
  refine Calls.callWith_builtin rfl (Calls.evalArgs_plain (Calls.spliced_cons (cin_local hns hmx hk hx hd (Calls.spliced_cons (wpAny_Constant_int (k := kk) (pos := p3) (Calls.spliced_nil ?_))))))
  refine min_two_ints C.room.hh fun h' tk hkp => ?_
  refine ⟨?_, ⟨_, _, rfl, hkp⟩⟩
  by_cases q : K < k
  · exact ⟨_, by rw [if_pos q, show min k K = K by omega]⟩
  · exact ⟨_, by rw [if_neg q, show min k K = k by omega]⟩
end
end Mine

open PySem PySem.W PyProof.Rows PySem.Calls PySem.Spec
set_option Elab.async false
set_option maxRecDepth 100000
set_option linter.unusedVariables false
namespace Mine
section
variable {W : Wo} {qual : Str} {scope : Scope} {f : Addr} {cdv : Value} {C : Cx W qual scope f cdv} {ρ : Rho} {μ : Option (Str × List Dat)} {H : Led × Led} {x : Str} {pos px : Pos} {s : Shared} {rest : List Stmt}
/-- a cell is filled: from here on it is known -/
theorem x_cell {e : Expr} {d r : Dat} {c : Addr} {o₀ : Obj} {v₀ : Option Value} {pre post n : Led} (S : St C (pre ++ (c, o₀) :: post, n) ρ μ s) (hsub : C.fz.Sublist (pre ++ post)) (hcf : ∀ p ∈ C.cf, p ∈ pre ++ post) (h : EvE C ρ e d) (hl : scope.names.lookup x = some .cell)
    (hcl : C.cl.lookup x = some c) (ho : o₀.data = .cell v₀) (hs : swapsWith e (some (.Name x px)) pos.line C.env = pure false)
    (k : ∀ (C' : Cx W qual scope f cdv) (o' : Obj) (n' : Led) (s' : Shared), C'.lv = C.lv → C'.A = C.A → C'.L = C.L → C'.cl = C.cl → C'.ck = (x, d) :: C.ck → C'.fz = C.fz → C'.cf = (c, o') :: C.cf → St C' (pre ++ (c, o') :: post, n') ρ μ s' →
      wpAny W.M C'.A (execs rest C'.env) (Fin C' r) (fun _ _ => False) s') :
    wpAny W.M C.A (execs (.Assign [.Name x px] e pos :: rest) C.env) (Fin C r) (fun _ _ => False) s := by
  obtain ⟨hfz, m, mu, nw, R, lo, mi, sb⟩ := S
  have hmid : ∀ o : Obj, (pre ++ (c, o) :: post).Perm ((c, o) :: (pre ++ post)) := fun o => List.perm_middle
  refine wpAny_execs_cons (wpAny_Assign_Name (h.run _ m mu nw s _ _ R lo fun v s1 n1 R1 e1 i1 => ?_) hs)
  have hget : s1.heap.get? c = some o₀ := (R1.permFz (hmid o₀)).top
  refine wpAny_storeName_cell C.hk hl hcl ⟨o₀, hget, ho⟩ fun h' hv hsb => ?_
  obtain ⟨o', ho', hd'⟩ := hv
  have R2 := ((R1.permFz (hmid o₀)).setHeld (s' := { s1 with heap := h' }) (fun b ob hb e => (hsb.2 b hb).trans e) ho' R1.G rfl).permFz (hmid o').symm
  have hb : Sub C.n₀ n1 := hfz.2.trans (sb.trans e1)
  have hc' : ∀ y d', List.lookup y ((x, d) :: C.ck) = some d' → ∃ c2 o2 v2, C.cl.lookup y = some c2 ∧ (c2, o2) ∈ (c, o') :: C.cf ∧ o2.data = .cell (some v2) ∧ DatIn n1 v2 d' := fun y d' hy => by
    rw [List.lookup_cons] at hy
    by_cases q : y = x
    · subst q
      simp at hy
      subst hy
      exact ⟨c, o', v, hcl, .head _, hd', i1⟩
    · rw [beq_eq_false_iff_ne.mpr q] at hy
      obtain ⟨c2, o2, v2, h1, h2, h3, h4⟩ := C.hc y d' hy
      exact ⟨c2, o2, v2, h1, .tail _ h2, h3, h4.mono hb⟩
  let C' : Cx W qual scope f cdv := { C with n₀ := n1, cf := (c, o') :: C.cf, ck := (x, d) :: C.ck, hc := hc' }
  refine wpAny_mono (k C' o' n1 { s1 with heap := h' } rfl rfl rfl rfl rfl rfl rfl ⟨⟨hsub.trans ?_, Sub.refl _⟩, m, mu, n1, R2, ⟨fun p hp => ?_, Sub.refl _, (lo.mono e1).names⟩, mi.mono e1, Sub.refl _⟩) (fun fl s' hf => ?_) fun _ _ y => y
  · exact List.Sublist.append_left (List.sublist_cons_self _ _) pre
  · rcases List.mem_cons.mp hp with rfl | hp
    · exact List.mem_append_right _ (.head _)
    · rcases List.mem_append.mp (hcf p hp) with h | h
      · exact List.mem_append_left _ h
      · exact List.mem_append_right _ (.tail _ h)
  · obtain ⟨fz', m', mu', nw', a, b, c', d'⟩ := hf
    exact ⟨fz', m', mu', nw', a, b, hb.trans c', d'⟩
end

/-- a def with two cells is entered -/
theorem call_genC {W : Wo} {n : Str} {f : Addr} {st : Stmt} {cdv : Value} {lv : Nat} {ds : List Dat} (ps : List Str) (H : FnAt W n f st cdv) {n1 n2 : Str}
    (hb : ∀ (doc pm : Value) (an : Option Addr) (ct : Value) (vs : List Value), vs.length = ds.length → bindArgs (fnOf n n (paramsOf st) (bodyOf st) (scopeOf st) .none .none doc pm an cdv ct) ⟨vs, []⟩ = pure (ps.zip vs))
    (hcs : ∀ k, cellsFrom k (scopeOf st).names [] = [(n2, k + 1), (n1, k)]) (hne : n1 ≠ n2)
    (hkind : ∀ x ∈ ps, (scopeOf st).names.lookup x = some .local ∨ ((scopeOf st).names.lookup x = some .cell ∧ (x = n1 ∨ x = n2)))
    (hco : (scopeOf st).isCoroutine = false) (hgen : (scopeOf st).isGenerator = false) (hk : (scopeOf st).kind = .function)
    {A : Around} {h₀ : Heap} {L : Addr} {fr fz : Led} {m : Str → Option Value} {mu nw : Led} {s : Shared} {vs : List Value} {Q : Value → Shared → Prop} {E : Value → Shared → Prop}
    (room : Room A (lv + 1)) (hfr : FrA A L fr) (R : Raw W h₀ L fr fz m mu nw s) (hvs : DatAll nw vs ds)
    (h : ∀ (C : Cx W n (scopeOf st) f cdv) (s : Shared) (o1 o2 : Obj), C.lv = lv → Link C A h₀ L fr fz m mu nw → C.cl = [(n2, C.L + 2), (n1, C.L + 1)] → C.cf = [] → C.ck = [] →
      o1.data = .cell (bindC (fun y => (scopeOf st).names.lookup y) (ps.zip vs) (fun _ => none) n1) → o2.data = .cell (bindC (fun y => (scopeOf st).names.lookup y) (ps.zip vs) (fun _ => none) n2) →
      RawC C ((C.L + 2, o2) :: (C.L + 1, o1) :: C.fz) (bindL (fun y => (scopeOf st).names.lookup y) (ps.zip vs) fun _ => none) [] nw s →
      wpAny W.M C.A (execs (bodyOf st) C.env) (fun fl s' => Q (match fl with | .ret v => v | _ => .none) s') (fun e s' => wpAny W.M C.A (leaving C.env e) (fun _ s'' => E e s'') (fun e' s'' => E e' s'') s') s) :
    wpAny W.M A (call (.ref f) vs) Q E s := by
  obtain ⟨oc, od, osl, doc, pm, an, ct, ho⟩ := H.o
  have X := R.now.X
  refine wpAny_call ?_
  refine codeAny_call_cells (fd := fnOf n n (paramsOf st) (bodyOf st) (scopeOf st) .none .none doc pm an cdv ct) (body := bodyOf st) (binds := ps.zip vs) (by have := room.hd; have : recursionLimit = 1000 := rfl; omega) (X _ _ ho) rfl R.now.nolimit (codeRec_of X H.c) rfl
    (hb doc pm an ct vs hvs.length) rfl (fun x hx => ?_) (fun s₁ x => ?_) hco hgen hk
  · rcases hkind _ (List.of_mem_zip hx).1 with h1 | ⟨h1, h2⟩
    · exact .inl h1
    · refine .inr ⟨h1, ?_⟩
      show ((cellsFrom (s.heap.objs.size + 1) (scopeOf st).names []).lookup x.1).isSome = true
      rw [hcs]
      rcases h2 with h2 | h2
      · rw [h2, List.lookup_cons]
        split
        · rfl
        · rw [List.lookup_cons]; simp
      · rw [h2, List.lookup_cons]; simp
  obtain ⟨h₁, tk, rfl, _⟩ := x.done
  have hns : h₁.Ns s.heap.objs.size (bindL (fun y => (scopeOf st).names.lookup y) (ps.zip vs) fun _ => none) := x.toInCall.ns
  have hk₁ : ∀ b o, s.heap.get? b = some o → h₁.get? b = some o := x.toInCall.keep
  have ecl : (callEnvC (fnOf n n (paramsOf st) (bodyOf st) (scopeOf st) .none .none doc pm an cdv ct) s.heap.objs.size f).cells = [(n2, s.heap.objs.size + 2), (n1, s.heap.objs.size + 1)] := hcs _
  have hc1 : h₁.IsCell (s.heap.objs.size + 1) (bindC (fun y => (scopeOf st).names.lookup y) (ps.zip vs) (fun _ => none) n1) := x.cell n1 _ (by rw [ecl, List.lookup_cons, beq_eq_false_iff_ne.mpr hne]; simp)
  have hc2 : h₁.IsCell (s.heap.objs.size + 2) (bindC (fun y => (scopeOf st).names.lookup y) (ps.zip vs) (fun _ => none) n2) := x.cell n2 _ (by rw [ecl]; simp)
  obtain ⟨o1, g1, d1⟩ := hc1
  obtain ⟨o2, g2, d2⟩ := hc2
  obtain ⟨tb, fr', ht, hu, N, nd⟩ := R.led
  obtain ⟨oL, es, ep, hL, hLd, hLk, hLf⟩ := id R.F.ns
  have hLn : h₀.get? L = none := by
    cases q : h₀.get? L with
    | none => rfl
    | some o => exact absurd (Heap.lt_size q) (Nat.not_lt.mpr R.F.above)
  let hid : List Addr := L :: adrs (lam tb fr' mu fz nw)
  have hidn : ∀ b ∈ hid, h₀.get? b = none := by
    intro b hb
    rcases List.mem_cons.mp hb with rfl | hb
    · exact hLn
    · obtain ⟨p, hp, rfl⟩ := List.mem_map.mp hb
      exact (N p hp).2.2
  have st0 := hide_stays (h := s.heap) R.F.keep hidn
  have hsz : (hideAll s.heap hid).objs.size = s.heap.objs.size := hideAll_size _ _
  have nL : L ∉ adrs (lam tb fr' mu fz nw) := fun q => by
    obtain ⟨p, hp, e⟩ := List.mem_map.mp q
    exact (N p hp).2.1 e
  have hnone : ∀ b, s.heap.objs.size ≤ b → (hideAll s.heap hid).get? b = none := fun b hb => by
    cases q : (hideAll s.heap hid).get? b with
    | none => rfl
    | some o => exact absurd (Heap.lt_size q) (Nat.not_lt.mpr (hsz ▸ hb))
  have hp : (lam tb ((L, oL) :: fr') [] ((s.heap.objs.size + 2, o2) :: (s.heap.objs.size + 1, o1) :: (mu ++ fz)) nw).Perm ((s.heap.objs.size + 2, o2) :: (s.heap.objs.size + 1, o1) :: (L, oL) :: lam tb fr' mu fz nw) := by
    refine (lam_top _).trans (List.Perm.cons _ ((lam_top _).trans (List.Perm.cons _ ?_)))
    unfold lam
    rw [List.nil_append, List.append_assoc]
    exact List.perm_middle
  have N' : News (hideAll s.heap hid) s.heap.objs.size h₁ (lam tb ((L, oL) :: fr') [] ((s.heap.objs.size + 2, o2) :: (s.heap.objs.size + 1, o1) :: (mu ++ fz)) nw) := by
    intro p hp0
    rcases List.mem_cons.mp (hp.mem_iff.mp hp0) with rfl | hp1
    · exact ⟨g2, by show s.heap.objs.size + 2 ≠ s.heap.objs.size; omega, hnone _ (by show s.heap.objs.size ≤ s.heap.objs.size + 2; omega)⟩
    rcases List.mem_cons.mp hp1 with rfl | hp1
    · exact ⟨g1, by show s.heap.objs.size + 1 ≠ s.heap.objs.size; omega, hnone _ (by show s.heap.objs.size ≤ s.heap.objs.size + 1; omega)⟩
    rcases List.mem_cons.mp hp1 with rfl | hp'
    · exact ⟨hk₁ _ _ hL, Nat.ne_of_lt (Heap.lt_size hL), hideAll_none _ (.head _)⟩
    · exact ⟨hk₁ _ _ (N p hp').1, Nat.ne_of_lt (Heap.lt_size (N p hp').1), hideAll_none _ (.tail _ (List.mem_map_of_mem hp'))⟩
  have old : ∀ b ∈ adrs ((L, oL) :: lam tb fr' mu fz nw), b < s.heap.objs.size := by
    intro b hb
    obtain ⟨p, hp, rfl⟩ := List.mem_map.mp hb
    rcases List.mem_cons.mp hp with rfl | hp
    · exact Heap.lt_size hL
    · exact Heap.lt_size (N p hp).1
  have nd' : (adrs (lam tb ((L, oL) :: fr') [] ((s.heap.objs.size + 2, o2) :: (s.heap.objs.size + 1, o1) :: (mu ++ fz)) nw)).Nodup := by
    refine nodup_perm hp.symm (List.nodup_cons.mpr ⟨fun q => ?_, List.nodup_cons.mpr ⟨fun q => ?_, List.nodup_cons.mpr ⟨nL, nd⟩⟩⟩)
    · rcases List.mem_cons.mp q with q | q
      · have q : s.heap.objs.size + 2 = s.heap.objs.size + 1 := q
        omega
      · have q := old _ q
        have q : s.heap.objs.size + 2 < s.heap.objs.size := q
        omega
    · have q := old _ q
      have q : s.heap.objs.size + 1 < s.heap.objs.size := q
      omega
  have Fc : Fr (hideAll s.heap hid) s.heap.objs.size h₁ (bindL (fun y => (scopeOf st).names.lookup y) (ps.zip vs) fun _ => none) := ⟨hns, fun b o e => hk₁ b o (of_hideAll _ e), Nat.le_of_eq hsz⟩
  have eenv : callEnvC (fnOf n n (paramsOf st) (bodyOf st) (scopeOf st) .none .none doc pm an cdv ct) s.heap.objs.size f = envX n (scopeOf st) s.heap.objs.size f cdv [(n2, s.heap.objs.size + 2), (n1, s.heap.objs.size + 1)] := by
    show envX n (scopeOf st) s.heap.objs.size f cdv (cellsFrom (s.heap.objs.size + 1) (scopeOf st).names []) = _
    rw [hcs]
  rw [eenv]
  generalize hen : envX n (scopeOf st) s.heap.objs.size f cdv [(n2, s.heap.objs.size + 2), (n1, s.heap.objs.size + 1)] = en
  have hko : en.scope.kind = .function := by subst hen; exact hk
  have hfo : en.frame = some s.heap.objs.size := by subst hen; rfl
  have room' : Room (A.deeper en) lv := ⟨room.hh, by have := room.hd; show A.depth + 1 + lv ≤ 500; omega, by have := room.hu; show A.units + 3 + 20 * lv ≤ 5000; omega⟩
  have hfr' : FrA (A.deeper en) s.heap.objs.size ((L, oL) :: fr') := by
    intro l hl
    have hl' : A.frames.map (en :: ·) = some l := hl
    cases hA : A.frames with
    | none => rw [hA] at hl'; cases hl'
    | some l₀ =>
      rw [hA] at hl'
      have e : en :: l₀ = l := Option.some.inj hl'
      obtain ⟨env, outer, e1, k1, k2, k3⟩ := hfr l₀ hA
      exact ⟨_, l₀, e.symm, by rw [hko]; decide, hfo, e1 ▸ .cons k1 k2 ⟨es, ep, hLd⟩ (k3.ups hu)⟩
  have he' : ∀ l, (A.deeper en).frames = some l → ∃ o, l = envX n (scopeOf st) s.heap.objs.size f cdv [(n2, s.heap.objs.size + 2), (n1, s.heap.objs.size + 1)] :: o := by
    intro l hl
    have hl' : A.frames.map (en :: ·) = some l := hl
    cases hA : A.frames with
    | none => rw [hA] at hl'; cases hl'
    | some l₀ =>
      rw [hA] at hl'
      exact ⟨l₀, by rw [hen]; exact (Option.some.inj hl').symm⟩
  let C : Cx W n (scopeOf st) f cdv := ⟨A.deeper en, s.heap.objs.size, hideAll s.heap hid, (L, oL) :: fr', mu ++ fz, nw, lv, hk, room', hfr', [(n2, s.heap.objs.size + 2), (n1, s.heap.objs.size + 1)], [], [], (fun _ _ h => nomatch h), he'⟩
  have RC : RawC C ((C.L + 2, o2) :: (C.L + 1, o1) :: C.fz) (bindL (fun y => (scopeOf st).names.lookup y) (ps.zip vs) fun _ => none) [] nw { s with heap := h₁, toks := tk } :=
    ⟨Fc, R.T.keeps st0, R.G, R.O, ⟨tb, (L, oL) :: fr', ht, Ups.refl _, N', nd'⟩⟩
  have := h C _ o1 o2 rfl ⟨R.T, R.F.above, st0, ⟨oL, fr', es, ep, rfl, hu, hLd, hLk, hLf⟩, rfl, rfl, by show (A.deeper en).frames = _; subst hen; rfl⟩ rfl rfl rfl d1 d2 RC
  subst hen
  exact this
/-- the top calls a def with two cells -/
theorem top_callC {W : Wo} {n : Str} {f : Addr} {st : Stmt} {cdv : Value} {lv : Nat} {ds : List Dat} {r : Dat} (ps : List Str) (H : FnAt W n f st cdv) {n1 n2 : Str}
    (hb : ∀ (doc pm : Value) (an : Option Addr) (ct : Value) (vs : List Value), vs.length = ds.length → bindArgs (fnOf n n (paramsOf st) (bodyOf st) (scopeOf st) .none .none doc pm an cdv ct) ⟨vs, []⟩ = pure (ps.zip vs))
    (hcs : ∀ k, cellsFrom k (scopeOf st).names [] = [(n2, k + 1), (n1, k)]) (hne : n1 ≠ n2)
    (hkind : ∀ x ∈ ps, (scopeOf st).names.lookup x = some .local ∨ ((scopeOf st).names.lookup x = some .cell ∧ (x = n1 ∨ x = n2)))
    (hco : (scopeOf st).isCoroutine = false) (hgen : (scopeOf st).isGenerator = false) (hk : (scopeOf st).kind = .function) (hlv : lv ≤ 50)
    {s : Shared} {vs : List Value} {tb nw : Led} {h₀ : Heap} {Q : Value → Shared → Prop} {E : Value → Shared → Prop}
    (T : At W h₀) (keep : ∀ b o, h₀.get? b = some o → s.heap.get? b = some o) (hsz : h₀.objs.size ≤ s.heap.objs.size) (N : ∀ p ∈ tb ++ nw, s.heap.get? p.1 = some p.2 ∧ h₀.get? p.1 = none) (nd : (adrs (tb ++ nw)).Nodup) (ht : TabsAre W.tabs tb)
    (G : Gs W s.gens) (O : s.os = W.os) (hvs : DatAll nw vs ds)
    (h : ∀ (C : Cx W n (scopeOf st) f cdv) (s' : Shared) (o1 o2 : Obj), C.lv = lv → C.A.frames ≠ none → C.cl = [(n2, C.L + 2), (n1, C.L + 1)] → C.cf = [] → C.ck = [] → C.fz = [] → C.n₀ = nw →
      o1.data = .cell (bindC (fun y => (scopeOf st).names.lookup y) (ps.zip vs) (fun _ => none) n1) → o2.data = .cell (bindC (fun y => (scopeOf st).names.lookup y) (ps.zip vs) (fun _ => none) n2) →
      RawC C [(C.L + 2, o2), (C.L + 1, o1)] (bindL (fun y => (scopeOf st).names.lookup y) (ps.zip vs) fun _ => none) [] nw s' → wpAny W.M C.A (execs (bodyOf st) C.env) (Fin C r) (fun _ _ => False) s')
    (k : ∀ v s' tb', TabsAre W.tabs tb' → (∀ b o, h₀.get? b = some o → s'.heap.get? b = some o) → (∀ p ∈ tb' ++ nw, s'.heap.get? p.1 = some p.2) → Gs W s'.gens → s'.os = W.os → (∃ nw', Sub nw nw' ∧ DatIn nw' v r) → Q v s') :
    wpAny W.M callerA (call (.ref f) vs) Q E s := by
  obtain ⟨oc, od, osl, doc, pm, an, ct, ho⟩ := H.o
  have T1 := T.keeps keep
  have X := T1.X
  refine wpAny_call ?_
  refine codeAny_call_cells (fd := fnOf n n (paramsOf st) (bodyOf st) (scopeOf st) .none .none doc pm an cdv ct) (body := bodyOf st) (binds := ps.zip vs) (by decide) (X _ _ ho) rfl T1.nolimit (codeRec_of X H.c) rfl
    (hb doc pm an ct vs hvs.length) rfl (fun x hx => ?_) (fun s₁ x => ?_) hco hgen hk
  · rcases hkind _ (List.of_mem_zip hx).1 with h1 | ⟨h1, h2⟩
    · exact .inl h1
    · refine .inr ⟨h1, ?_⟩
      show ((cellsFrom (s.heap.objs.size + 1) (scopeOf st).names []).lookup x.1).isSome = true
      rw [hcs]
      rcases h2 with h2 | h2
      · rw [h2, List.lookup_cons]
        split
        · rfl
        · rw [List.lookup_cons]; simp
      · rw [h2, List.lookup_cons]; simp
  obtain ⟨h₁, tk, rfl, _⟩ := x.done
  have hns : h₁.Ns s.heap.objs.size (bindL (fun y => (scopeOf st).names.lookup y) (ps.zip vs) fun _ => none) := x.toInCall.ns
  have hk₁ : ∀ b o, s.heap.get? b = some o → h₁.get? b = some o := x.toInCall.keep
  have ecl : (callEnvC (fnOf n n (paramsOf st) (bodyOf st) (scopeOf st) .none .none doc pm an cdv ct) s.heap.objs.size f).cells = [(n2, s.heap.objs.size + 2), (n1, s.heap.objs.size + 1)] := hcs _
  have hc1 : h₁.IsCell (s.heap.objs.size + 1) (bindC (fun y => (scopeOf st).names.lookup y) (ps.zip vs) (fun _ => none) n1) := x.cell n1 _ (by rw [ecl, List.lookup_cons, beq_eq_false_iff_ne.mpr hne]; simp)
  have hc2 : h₁.IsCell (s.heap.objs.size + 2) (bindC (fun y => (scopeOf st).names.lookup y) (ps.zip vs) (fun _ => none) n2) := x.cell n2 _ (by rw [ecl]; simp)
  obtain ⟨o1, g1, d1⟩ := hc1
  obtain ⟨o2, g2, d2⟩ := hc2
  have hnone : ∀ b, s.heap.objs.size ≤ b → h₀.get? b = none := fun b hb => by
    cases q : h₀.get? b with
    | none => rfl
    | some o => exact absurd (Heap.lt_size q) (Nat.not_lt.mpr (Nat.le_trans hsz hb))
  have hp : (lam tb [] [] [(s.heap.objs.size + 2, o2), (s.heap.objs.size + 1, o1)] nw).Perm ((s.heap.objs.size + 2, o2) :: (s.heap.objs.size + 1, o1) :: (tb ++ nw)) := by
    refine (lam_top _).trans (List.Perm.cons _ ((lam_top _).trans (List.Perm.cons _ ?_)))
    simp [lam]
  have N' : News h₀ s.heap.objs.size h₁ (lam tb [] [] [(s.heap.objs.size + 2, o2), (s.heap.objs.size + 1, o1)] nw) := by
    intro p hp0
    rcases List.mem_cons.mp (hp.mem_iff.mp hp0) with rfl | hp1
    · exact ⟨g2, by show s.heap.objs.size + 2 ≠ s.heap.objs.size; omega, hnone _ (by show s.heap.objs.size ≤ s.heap.objs.size + 2; omega)⟩
    rcases List.mem_cons.mp hp1 with rfl | hp1
    · exact ⟨g1, by show s.heap.objs.size + 1 ≠ s.heap.objs.size; omega, hnone _ (by show s.heap.objs.size ≤ s.heap.objs.size + 1; omega)⟩
    · exact ⟨hk₁ _ _ (N p hp1).1, Nat.ne_of_lt (Heap.lt_size (N p hp1).1), (N p hp1).2⟩
  have old : ∀ b ∈ adrs (tb ++ nw), b < s.heap.objs.size := by
    intro b hb
    obtain ⟨p, hp, rfl⟩ := List.mem_map.mp hb
    exact Heap.lt_size (N p hp).1
  have nd' : (adrs (lam tb [] [] [(s.heap.objs.size + 2, o2), (s.heap.objs.size + 1, o1)] nw)).Nodup := by
    refine nodup_perm hp.symm (List.nodup_cons.mpr ⟨fun q => ?_, List.nodup_cons.mpr ⟨fun q => ?_, nd⟩⟩)
    · rcases List.mem_cons.mp q with q | q
      · have q : s.heap.objs.size + 2 = s.heap.objs.size + 1 := q
        omega
      · have q := old _ q
        have q : s.heap.objs.size + 2 < s.heap.objs.size := q
        omega
    · have q := old _ q
      have q : s.heap.objs.size + 1 < s.heap.objs.size := q
      omega
  have Fc : Fr h₀ s.heap.objs.size h₁ (bindL (fun y => (scopeOf st).names.lookup y) (ps.zip vs) fun _ => none) := ⟨hns, fun b o e => hk₁ b o (keep b o e), hsz⟩
  have eenv : callEnvC (fnOf n n (paramsOf st) (bodyOf st) (scopeOf st) .none .none doc pm an cdv ct) s.heap.objs.size f = envX n (scopeOf st) s.heap.objs.size f cdv [(n2, s.heap.objs.size + 2), (n1, s.heap.objs.size + 1)] := by
    show envX n (scopeOf st) s.heap.objs.size f cdv (cellsFrom (s.heap.objs.size + 1) (scopeOf st).names []) = _
    rw [hcs]
  rw [eenv]
  generalize hen : envX n (scopeOf st) s.heap.objs.size f cdv [(n2, s.heap.objs.size + 2), (n1, s.heap.objs.size + 1)] = en
  have hko : en.scope.kind = .function := by subst hen; exact hk
  have hfo : en.frame = some s.heap.objs.size := by subst hen; rfl
  have room' : Room (callerA.deeper en) lv := ⟨rfl, by show 301 + 1 + lv ≤ 500; omega, by show 4 + 3 + 20 * lv ≤ 5000; omega⟩
  have hfr' : FrA (callerA.deeper en) s.heap.objs.size [] := by
    intro l hl
    have e : [en] = l := Option.some.inj hl
    exact ⟨_, [], e.symm, by rw [hko]; decide, hfo, .nil⟩
  have he' : ∀ l, (callerA.deeper en).frames = some l → ∃ o, l = envX n (scopeOf st) s.heap.objs.size f cdv [(n2, s.heap.objs.size + 2), (n1, s.heap.objs.size + 1)] :: o := by
    intro l hl
    have e : [en] = l := Option.some.inj hl
    exact ⟨[], by rw [hen]; exact e.symm⟩
  let C : Cx W n (scopeOf st) f cdv := ⟨callerA.deeper en, s.heap.objs.size, h₀, [], [], nw, lv, hk, room', hfr', [(n2, s.heap.objs.size + 2), (n1, s.heap.objs.size + 1)], [], [], (fun _ _ h => nomatch h), he'⟩
  have RC : RawC C [(C.L + 2, o2), (C.L + 1, o1)] (bindL (fun y => (scopeOf st).names.lookup y) (ps.zip vs) fun _ => none) [] nw { s with heap := h₁, toks := tk } :=
    ⟨Fc, T, G, O, ⟨tb, [], ht, .nil, N', nd'⟩⟩
  have := h C _ o1 o2 rfl (by intro q; cases q) rfl rfl rfl rfl rfl d1 d2 RC
  subst hen
  refine wpAny_mono this (fun fl s' hf => ?_) (fun _ _ x => x.elim)
  obtain ⟨fz', m', mu', nw', hfz, R', hs', hd'⟩ := hf
  obtain ⟨tb', fr', t2, u2, N2, nd2⟩ := R'.led
  refine k _ s' tb' t2 R'.F.keep (fun p hp => ?_) R'.G R'.O ⟨nw', hs', hd'⟩
  rcases List.mem_append.mp hp with hp | hp
  · exact (N2 p (mem_lam.mpr (.inl hp))).1
  · exact (N2 p (mem_lam.mpr (.inr (.inr (.inr (.inr (hs' p hp))))))).1
end Mine

open PySem PySem.W PyProof.Rows PySem.Calls PySem.Spec
set_option Elab.async false
set_option maxRecDepth 100000
set_option linter.unusedVariables false
namespace Mine
section
variable {W : Wo} {qual : Str} {scope : Scope} {f : Addr} {cdv : Value} {C : Cx W qual scope f cdv} {ρ : Rho} {pos px : Pos}
/-- a cut of what has no name -/
theorem ev_cutT {e : Expr} {lo hi : Option Expr} {x y : Option Int} {ds : List Dat} {p : Pos} (h : EvE C ρ e (.list ds)) (h1 : EvP C ρ lo x) (h2 : EvP C ρ hi y) (hx : ∀ a, x = some a → 0 ≤ a) (hy : ∀ b, y = some b → 0 ≤ b) (hz : ds.length ≤ sizeLine) :
    EvE C ρ (.Subscript e (.Slice lo hi none p) pos) (.list (cut ds x y)) := by
  constructor; intro fz m mu nw s Q E R l k
  refine Subscript_ (h.run fz m mu nw s _ E R l fun v s1 n1 R1 e1 i1 => ?_)
  refine wpAny_Slice (evp_run h1 R1 (l.mono e1) fun vl s2 n2 R2 e2 pl => evp_run h2 R2 ((l.mono e1).mono e2) fun vu s3 n3 R3 e3 pu => ?_)
  show wpAny W.M C.A (pure Value.none) _ E s3
  refine wpAny_pure ?_
  obtain ⟨a, us, c, rfl, hm, ha⟩ := datIn_list ((i1.mono e2).mono e3)
  obtain ⟨Λ, N, add, _⟩ := R3.use
  refine kba_turn (value' := Expr.Name (Str.ofString "none") ⟨0, 0, 0, 0⟩) (fun _ => rfl) ?_
  refine kmk_slice R3.F N (R3.list hm) pl pu (fun D h' F' N' lt => ?_) rfl (fun _ => rfl) (by rw [List.size_toArray, ha.length]; exact hz)
  refine k _ _ _ (add { s3 with heap := h' } D _ F' N' lt rfl rfl) ((e1.trans (e2.trans e3)).trans Sub.cons) ?_
  have := (pick_cut ha hx hy)
  exact .list (vs := (slicePick us.toArray x y none).toList) (n := 0) (by rw [Array.toArray_toList]; exact .head _) (this.mono Sub.cons)
/-- a <= b < c -/
theorem ev_chain {l m r : Expr} {a b c : Int} (h1 : EvE C ρ l (.int a)) (h2 : EvE C ρ m (.int b)) (h3 : EvE C ρ r (.int c)) (hm : lastMarks [.LtE, .Lt] [m, r] = false) : EvE C ρ (.Compare l [.LtE, .Lt] [m, r] pos) (.bool (decide (a ≤ b) && decide (b < c))) := by
  constructor; intro fz m' mu nw s Q E R lo k
  refine Compare_chain (h1.run fz m' mu nw s _ E R lo fun v1 s1 n1 R1 e1 i1 => ?_) hm
  refine chain_link (h2.run fz m' mu n1 s1 _ E R1 (lo.mono e1) fun v2 s2 n2 R2 e2 i2 => ?_)
  cases i1
  cases i2
  refine le_int (wpAny_truthy_bool ?_)
  by_cases q : a ≤ b
  · rw [decide_eq_true q, if_pos rfl]
    refine chain_last (h3.run fz m' mu n2 s2 _ E R2 ((lo.mono e1).mono e2) fun v3 s3 n3 R3 e3 i3 => ?_)
    cases i3
    refine lt_int (k _ _ n3 R3 (e1.trans (e2.trans e3)) ?_)
    rw [decide_eq_true q, Bool.true_and]
    exact .bool _
  · rw [decide_eq_false q, if_neg (by decide)]
    refine k _ _ n2 R2 (e1.trans e2) ?_
    rw [decide_eq_false q, Bool.false_and]
    exact .bool _
theorem ts_typeNot {e : Expr} {d : Dat} {n : Str} {T : String} {p1 p2 p3 : Pos} (h : EvE C ρ e d) (hg : W.mg "type" = none) (hx : scope.names.lookup (Str.ofString "type") = some .globalImplicit) (hg2 : W.mg n = none) (hx2 : scope.names.lookup n = some .globalImplicit)
    (hv : bootBuiltins n = some (.type T)) (hn : n ≠ "__name__") (hd : (n == ("__debug__" : Str)) = false) (he : starEach [e] C.env = [(false, eval e C.env)]) (hT : tyOf d = T) : TsE C ρ (.Compare (.Call (.Name "type" p1) [e] [] p2) [.IsNot] [.Name n p3] pos) false := by
  constructor; intro fz m mu nw s Q E R lo k
  refine wpAny_isTrue_Compare1 ?_ (noMarks rfl _)
  refine Call_ (ev_builtin hg PyProof.Rows.Boot.«type» (by decide) hx (by decide) R ?_)
  refine PyProof.Rows.callWith_type (cw_plain (es := []) he rfl) ?_
  have hh := (evl_cons h evl_nil he).run p2 fz m mu nw s (fun us s' => wpAny W.M C.A (call (.type "type") ([] ++ us)) (fun a s₁ => wpAny W.M C.A (eval (.Name n p3) C.env) (fun b s₂ => wpAny W.M C.A (compareOp .IsNot a b) (fun c s₃ => wpAny W.M C.A (truthy c) Q E s₃) E s₂) E s₁) E s') E R lo fun us s1 n1 R1 e1 i1 => ?_
  · rw [he] at hh ⊢
    exact evalArgs_plain hh
  obtain ⟨v, rfl, iv⟩ := datAll1 i1
  refine call_type_of (typeIs_dat R1.news iv) (beq_eq_false_iff_ne.mpr fun q => tyOf_ne d (by injection q)) ?_
  refine ev_builtin hg2 hv hn hx2 hd R1 ?_
  rw [hT]
  exact wpAny_isNot_self rfl (wpAny_truthy_bool (k _ n1 R1 e1))
/-- (x * s + b) % K, s and b cells -/
theorem eltC_lin {gs : Scope} {cl : List (Str × Addr)} {x xs xb : Str} {k sv bv K : Int} {kk : Nat} {p1 p2 p3 p4 p5 p6 p7 : Pos} (hs : C.ck.lookup xs = some (.int sv)) (hb : C.ck.lookup xb = some (.int bv)) (hcs : cl.lookup xs = C.cl.lookup xs) (hcb : cl.lookup xb = C.cl.lookup xb) (hk : gs.kind = .function)
    (hx : gs.names.lookup x = some .local) (hd : (x == ("__debug__" : Str)) = false) (hxs : (relabel gs C.env).names.lookup xs = some .cell) (hds : (xs == ("__debug__" : Str)) = false) (hxb : (relabel gs C.env).names.lookup xb = some .cell) (hdb : (xb == ("__debug__" : Str)) = false) (hm : IntMulOk k sv) (hK : 0 < K) :
    EltC C gs cl x (.BinOp (.BinOp (.BinOp (.Name x p1) .Mult (.Name xs p2) p3) .Add (.Name xb p4) p5) .Mod (.Constant (.int K) kk p6) p7) k ((k * sv + bv) % K) := by
  intro Ca s₃ m₃ t E' T hcf hn0 hns hmx
  obtain ⟨c1, o1, v1, a1, b1, d1, i1⟩ := C.hc _ _ hs
  obtain ⟨c2, o2, v2, a2, b2, d2, i2⟩ := C.hc _ _ hb
  cases i1
  cases i2
  refine wpAny_BinOp (wpAny_BinOp (wpAny_BinOp (cin_local hns hmx hk hx hd (cin_cell (hcs.trans a1) (hcf _ b1) d1 hk hxs hds (mul_int ?_ hm)))))
  refine cin_cell (s := { s₃ with toks := s₃.toks + 1 }) (hcb.trans a2) (hcf _ b2) d2 hk hxb hdb (add_int (wpAny_Constant_int ?_))
  refine mod_int' (by omega) ?_
  rw [Int.fmod_eq_emod_of_nonneg _ (Int.le_of_lt hK)]
  exact ⟨⟨_, rfl⟩, ⟨_, _, rfl, fun _ _ e => e⟩⟩
end
end Mine

set_option linter.unusedVariables false
namespace Mine
theorem lenS {α : Type} {vs : List α} {n : Nat} (h : vs.length = n + 1) : ∃ a r, vs = a :: r ∧ r.length = n := by
  cases vs with
  | nil => cases h
  | cons a r => exact ⟨a, r, rfl, Nat.succ.inj h⟩
theorem len1 {α : Type} {vs : List α} (h : vs.length = 1) : ∃ v, vs = [v] := List.length_eq_one_iff.mp h
theorem len2 {α : Type} {vs : List α} (h : vs.length = 2) : ∃ a b, vs = [a, b] :=
  let ⟨a, _, e, h⟩ := lenS h; let ⟨b, q⟩ := len1 h; ⟨a, b, by rw [e, q]⟩
theorem len3 {α : Type} {vs : List α} (h : vs.length = 3) : ∃ a b c, vs = [a, b, c] :=
  let ⟨a, _, e, h⟩ := lenS h; let ⟨b, c, q⟩ := len2 h; ⟨a, b, c, by rw [e, q]⟩
theorem len4 {α : Type} {vs : List α} (h : vs.length = 4) : ∃ a b c d, vs = [a, b, c, d] :=
  let ⟨a, _, e, h⟩ := lenS h; let ⟨b, c, d, q⟩ := len3 h; ⟨a, b, c, d, by rw [e, q]⟩
theorem tab_mem {l : List Int} {k : Nat} (h : k < l.length) : l.getD k 0 ∈ l := by
  have : l.getD k 0 = l[k] := by simp [h]
  rw [this]; exact List.getElem_mem h
noncomputable def byte5 (x : Int) : Int := if x % 2 = 0 then ([0, 255, 1, 254] : List Int).getD (x / 2 % 4).toNat 0 else x / 2 * 85 % 256
theorem byte5_ok (x : Int) : okB (byte5 x) := by
  unfold byte5
  split
  · exact (by decide : ∀ x ∈ ([0, 255, 1, 254] : List Int), okB x) _ (tab_mem (by simp; omega))
  · unfold okB; omega
noncomputable def headF (ls : List Int) (a b c : Int) : List Int := [83, 81] ++ four a ++ four b ++ four c ++ ls
theorem four_len (n : Int) : (four n).length = 4 := rfl
theorem t2s_snoc (ts : List T3) (t : T3) : t2s (ts ++ [t]) = t2s ts ++ t2s1 t := by
  unfold t2s
  rw [List.flatMap_append, List.flatMap_singleton]
theorem t2s1_le (t : T3) : (t2s1 t).length ≤ 4 := by
  unfold t2s1; split
  · exact Nat.le_add_left 1 3
  · exact Nat.le_refl 4
theorem t2s1_ge (t : T3) : 1 ≤ (t2s1 t).length := by
  unfold t2s1; split
  · exact Nat.le_refl 1
  · exact Nat.le_add_left 1 3
theorem t2s_le (ts : List T3) : (t2s ts).length ≤ 4 * ts.length := by
  induction ts with
  | nil => exact Nat.le_refl 0
  | cons t ts ih =>
    show (t2s1 t ++ t2s ts).length ≤ 4 * (ts.length + 1)
    rw [List.length_append, Nat.add_comm]
    exact Nat.add_le_add ih (t2s1_le t)
theorem s2t_step1 {l : List Int} {k : Nat} (hk : k < l.length) (h : l.getD k 0 < 256) : s2t (l.drop k) = (s2t (l.drop (k + 1))).map ((0, l.getD k 0, 0) :: ·) := by
  have e : l.getD k 0 = l[k] := by simp [hk]
  rw [e] at h ⊢
  rw [List.drop_eq_getElem_cons hk, s2t_lt h]
theorem s2t_step2 {l : List Int} {k : Nat} (hk : k < l.length) (h : ¬ l.getD k 0 < 256) : s2t (l.drop k) = if ((l.drop (k + 1)).take 3).length < 3 ∨ bytesB ((l.drop (k + 1)).take 3) = false then none else (s2t (l.drop (k + 4))).map ((1, ((l.drop (k + 1)).take 3).getD 0 0 * 256 + ((l.drop (k + 1)).take 3).getD 1 0, ((l.drop (k + 1)).take 3).getD 2 0) :: ·) := by
  have e : l.getD k 0 = l[k] := by simp [hk]
  rw [e] at h
  rw [List.drop_eq_getElem_cons hk, s2t_ge h, List.drop_drop]
theorem any_max {l : List Int} {M K : Int} (h1 : M ∈ l) (h2 : ∀ a ∈ l, a ≤ M) : l.any (fun n => decide (n > K)) = decide (M > K) := by
  by_cases q : M > K
  · rw [decide_eq_true q, List.any_eq_true]; exact ⟨M, h1, by simpa using q⟩
  · rw [decide_eq_false q, List.any_eq_false]; intro x hx; have := h2 x hx; simp; omega
noncomputable def oddF (x raw : Int) : Int := if x % 3 = 0 then raw else ([256, -1, 257, 255, 0] : List Int).getD (x / 3 % 5).toNat 0
noncomputable def tokF (x y z : Int) : T3 := if x % 3 = 0 then (0, byte5 y, 0) else (1, byte5 y * 256 + byte5 z, byte5 (x / 3))
noncomputable def wireF (x y z : Int) : List Int := if x % 3 = 0 then [byte5 y] else [256, byte5 y, byte5 z, byte5 (x / 3)]
noncomputable def fourF (x y : Int) : List Int := [byte5 x, byte5 y, byte5 (x + y), byte5 (x - y)]
noncomputable def adA (ns : List Int) : Int × Int := ns.foldl (fun p x => ((p.1 + x) % 65521, (p.2 + (p.1 + x) % 65521) % 65521)) (1, 0)
noncomputable def bentF (xs : List Int) (kind p odd : Int) : List Int :=
  if kind = 0 then xs.take p.toNat ++ xs.drop (p + 1).toNat
  else if kind = 1 then xs.take p.toNat
  else if kind = 2 then xs.take p.toNat ++ [odd] ++ xs.drop (p + 1).toNat
  else if kind = 3 then xs.take p.toNat ++ [odd] ++ xs.drop p.toNat
  else xs.take (p + 1).toNat ++ xs.drop p.toNat
noncomputable def bentHF (xs : List Int) (kind p turn : Int) : List Int :=
  if kind = 0 then xs.take (p % 271).toNat ++ xs.drop (p % 271 + 1).toNat
  else if kind < 3 then xs.take (kind - 1).toNat ++ [(xs.getD (kind - 1).toNat 0 + 1 + turn % 255) % 256] ++ xs.drop kind.toNat
  else xs.take (14 + p % 257).toNat ++ [64 + turn % 3] ++ xs.drop (15 + p % 257).toNat
theorem rd_nil {l : List Int} {i : Nat} {s : Int} (hq : l[i]? = some s) (out : List T3) : rdGo (l.drop i) [] out = if s < 256 then rdGo (l.drop (i + 1)) [] (out ++ [(0, s, 0)]) else rdGo (l.drop (i + 1)) [s] out := by
  obtain ⟨hk, rfl⟩ := List.getElem?_eq_some_iff.mp hq
  rw [List.drop_eq_getElem_cons hk]
  rfl
theorem rd_cons {l : List Int} {i : Nat} {s : Int} (hq : l[i]? = some s) {pp : List Int} (hp : 0 < pp.length) (out : List T3) : rdGo (l.drop i) pp out = if s < 0 ∨ s > 255 then none else if (pp ++ [s]).length = 4 then rdGo (l.drop (i + 1)) [] (out ++ [(1, (pp ++ [s]).getD 1 0 * 256 + (pp ++ [s]).getD 2 0, (pp ++ [s]).getD 3 0)]) else rdGo (l.drop (i + 1)) (pp ++ [s]) out := by
  obtain ⟨hk, rfl⟩ := List.getElem?_eq_some_iff.mp hq
  rw [List.drop_eq_getElem_cons hk]
  cases pp with
  | nil => cases hp
  | cons p ps => exact rd_ne
theorem t2s_ge (ts : List T3) : ts.length ≤ (t2s ts).length := by
  induction ts with
  | nil => exact Nat.le_refl 0
  | cons t ts ih =>
    show ts.length + 1 ≤ (t2s1 t ++ t2s ts).length
    rw [List.length_append, Nat.add_comm]
    exact Nat.add_le_add (t2s1_ge t) ih
noncomputable def wsum (l : List Int) : Int := (((List.range l.length).map fun i : Nat => (i : Int)).map fun k => ((l.length : Int) - k) * l.getD k.toNat 0).sum
theorem sum_add (r : List Nat) (f g : Nat → Int) : (r.map fun k => f k + g k).sum = (r.map f).sum + (r.map g).sum := by
  induction r with
  | nil => rfl
  | cons a r ih => rw [List.map_cons, List.sum_cons, ih, List.map_cons, List.sum_cons, List.map_cons, List.sum_cons, Int.add_assoc, Int.add_left_comm (g a), ← Int.add_assoc]
theorem sum_getD (l : List Int) : ((List.range l.length).map fun k => l.getD k 0).sum = l.sum := by
  congr 1
  apply List.ext_getElem
  · simp
  · intro i h1 h2
    simp [h2]
theorem wsum_eq (l : List Int) : wsum l = ((List.range l.length).map fun k : Nat => ((l.length : Int) - k) * l.getD k 0).sum := by
  unfold wsum
  rw [List.map_map]
  rfl
theorem wsum_snoc (l : List Int) (x : Int) : wsum (l ++ [x]) = wsum l + l.sum + x := by
  rw [wsum_eq, wsum_eq, List.length_append, List.length_singleton, List.range_succ, List.map_append, List.sum_append]
  have e1 : ((List.range l.length).map fun k : Nat => (((l.length + 1 : Nat) : Int) - k) * (l ++ [x]).getD k 0) = (List.range l.length).map fun k : Nat => ((l.length : Int) - k) * l.getD k 0 + l.getD k 0 := by
    apply List.map_congr_left
    intro k hk
    have hk := List.mem_range.mp hk
    have : (l ++ [x]).getD k 0 = l.getD k 0 := by simp [List.getElem?_append_left hk]
    rw [this]
    have e : (((l.length + 1 : Nat) : Int) - k) = ((l.length : Int) - k) + 1 := by omega
    rw [e, Int.add_mul, Int.one_mul]
  rw [e1, sum_add, sum_getD]
  have e2 : (l ++ [x]).getD l.length 0 = x := by simp
  simp only [List.map_cons, List.map_nil, List.sum_cons, List.sum_nil, e2]
  have e : (((l.length + 1 : Nat) : Int) - (l.length : Int)) = 1 := by omega
  rw [e]
  omega
theorem adler_rev (r : List Int) : adA r.reverse = ((1 + r.reverse.sum) % 65521, ((r.reverse.length : Int) + wsum r.reverse) % 65521) := by
  induction r with
  | nil => rfl
  | cons x r ih =>
    rw [List.reverse_cons]
    have e : adA (r.reverse ++ [x]) = (((adA r.reverse).1 + x) % 65521, ((adA r.reverse).2 + ((adA r.reverse).1 + x) % 65521) % 65521) := by simp [adA, List.foldl_append]
    rw [e, ih, wsum_snoc, List.sum_append, List.length_append]
    simp only [List.sum_cons, List.sum_nil, List.length_singleton]
    have e1 : ((1 + r.reverse.sum) % 65521 + x) % 65521 = (1 + (r.reverse.sum + (x + 0))) % 65521 := by
      rw [Int.emod_add_emod, Int.add_zero, Int.add_assoc]
    refine Prod.ext e1 ?_
    show (((r.reverse.length : Int) + wsum r.reverse) % 65521 + ((1 + r.reverse.sum) % 65521 + x) % 65521) % 65521 = (((r.reverse.length : Int) + 1) + (wsum r.reverse + r.reverse.sum + x)) % 65521
    rw [e1, Int.emod_add_emod, Int.add_emod_emod]
    exact congrArg (· % 65521) (by omega)
theorem adler (l : List Int) : adA l = ((1 + l.sum) % 65521, ((l.length : Int) + wsum l) % 65521) := by
  have := adler_rev l.reverse
  rwa [List.reverse_reverse] at this
abbrev upTo (n : Nat) : List Int := (List.range n).map fun i : Nat => (i : Int)
theorem wire_t2s (x y z : Int) : t2s1 (tokF x y z) = wireF x y z := by
  unfold tokF wireF
  split
  · rfl
  · show ([256, (byte5 y * 256 + byte5 z) / 256, (byte5 y * 256 + byte5 z) % 256, byte5 (x / 3)] : List Int) = _
    rw [dvm (byte5_ok z), mdm (byte5_ok z)]
theorem pair_ok {a b : Int} (h1 : okB a) (h2 : okB b) : 0 ≤ a * 256 + b ∧ a * 256 + b ≤ 65535 := by unfold okB at *; omega
theorem tok_ok (x y z : Int) : okT (tokF x y z) := by
  unfold tokF
  split
  · exact .inl ⟨_, byte5_ok y, rfl⟩
  · have h := pair_ok (byte5_ok y) (byte5_ok z)
    exact .inr ⟨_, _, h.1, h.2, byte5_ok _, rfl⟩
theorem dme (x : Int) : x / 256 * 256 + x % 256 = x := by rw [Int.mul_comm]; exact Int.mul_ediv_add_emod x 256
theorem check_num {a b : Int} : numF [b / 256, b % 256, a / 256, a % 256] = b * 65536 + a := by
  rw [num_four', dme b, Int.add_mul, Int.add_assoc, dme a, Int.mul_assoc]
  rfl
theorem okB_lo (x : Int) : okB (x % 256) := by unfold okB; omega
theorem okB_hi {x : Int} (h : 0 ≤ x) (h' : x < 65521) : okB (x / 256) := by unfold okB; omega
theorem check_four {a b : Int} (ha : 0 ≤ a) (ha' : a < 65521) (hb : 0 ≤ b) (hb' : b < 65521) : four (b * 65536 + a) = [b / 256, b % 256, a / 256, a % 256] := by
  rw [← check_num, four_num (okB_hi hb hb') (okB_lo b) (okB_hi ha ha') (okB_lo a)]
theorem ad_rng (l : List Int) : (0 ≤ (adA l).1 ∧ (adA l).1 < 65521) ∧ (0 ≤ (adA l).2 ∧ (adA l).2 < 65521) := by
  have h : ∀ x : Int, 0 ≤ x % 65521 ∧ x % 65521 < 65521 := fun x => ⟨Int.emod_nonneg _ (by decide), Int.emod_lt_of_pos _ (by decide)⟩
  rw [adler]
  exact ⟨h _, h _⟩
theorem ans_due (a b odd : Int) (ha : okB a) (hb : okB b) : bytesB [a, odd, b] = (decide (0 ≤ odd) && decide (odd < 256)) := by
  unfold bytesB
  simp only [List.all_cons, List.all_nil, decide_eq_true ha, decide_eq_true hb, Bool.true_and, Bool.and_true]
  rw [Bool.eq_iff_iff]
  simp only [decide_eq_true_eq, Bool.and_eq_true]
  unfold okB
  omega
abbrev mkH (a1 a2 a3 a4 b1 b2 b3 b4 c1 c2 c3 c4 : Int) (ls : List Int) : List Int := [83, 81, a1, a2, a3, a4, b1, b2, b3, b4, c1, c2, c3, c4] ++ ls
section
variable {a1 a2 a3 a4 b1 b2 b3 b4 c1 c2 c3 c4 : Int}
theorem read_mk {ls tl : List Int} (hl : ls.length = 257) : readF (mkH a1 a2 a3 a4 b1 b2 b3 b4 c1 c2 c3 c4 ls ++ tl) = if ls.any (fun n => decide (n > 64)) then none else some (ls, numF [a1, a2, a3, a4], numF [b1, b2, b3, b4], numF [c1, c2, c3, c4]) := by
  have e1 : ((mkH a1 a2 a3 a4 b1 b2 b3 b4 c1 c2 c3 c4 ls ++ tl).drop 14).take 257 = ls := by
    show (ls ++ tl).take 257 = ls
    rw [← hl, List.take_left]
  have e2 : ¬ (mkH a1 a2 a3 a4 b1 b2 b3 b4 c1 c2 c3 c4 ls ++ tl).length < 271 := by
    show ¬ (ls ++ tl).length + 14 < 271
    rw [List.length_append, hl]; omega
  unfold readF
  rw [if_neg e2, if_neg (fun q => q rfl), e1]
  rfl
theorem setE {ls : List Int} {i : Nat} (h : i < ls.length) (x : Int) : ls.take i ++ [x] ++ ls.drop (i + 1) = ls.set i x := by
  rw [List.set_eq_take_append_cons_drop, if_pos h, List.append_assoc]; rfl
theorem turnNe (c t : Int) (h : 0 ≤ c) (h' : c ≤ 255) : (c + 1 + t % 255) % 256 ≠ c := by omega
theorem bent0 {xs : List Int} (h : xs.length = 271) {i : Nat} (hi : i < 271) : (xs.take i ++ xs.drop (i + 1)).length < 271 := by
  have := List.length_take_le i xs
  rw [List.length_append, List.length_drop, h]; omega
theorem nat_mod (p : Int) {m : Int} (h : 0 < m) : ∃ i : Nat, p % m = i ∧ (i : Int) < m := by
  obtain ⟨i, hi⟩ := Int.eq_ofNat_of_zero_le (Int.emod_nonneg p (Int.ne_of_gt h))
  exact ⟨i, hi, hi ▸ Int.emod_lt_of_pos p h⟩
theorem read_mark {bs : List Int} (h : bs.take 2 ≠ [83, 81]) : readF bs = none := by
  unfold readF
  rw [if_pos h, ite_self]
theorem read_bent {ls : List Int} (hl : ls.length = 257) (hle : ∀ n ∈ ls, n ≤ 64) (kind p turn : Int) (h0 : 0 ≤ kind) (h3 : kind ≤ 3) :
    readF (bentHF (mkH a1 a2 a3 a4 b1 b2 b3 b4 c1 c2 c3 c4 ls) kind p turn) = if kind = 3 ∧ turn % 3 = 0 then some (ls.take (p % 257).toNat ++ [64] ++ ls.drop (p % 257 + 1).toNat, numF [a1, a2, a3, a4], numF [b1, b2, b3, b4], numF [c1, c2, c3, c4]) else none := by
  unfold bentHF
  by_cases k0 : kind = 0
  · obtain ⟨i, hi, hi'⟩ := nat_mod p (m := 271) (by decide)
    rw [if_pos k0, if_neg (fun q => absurd (k0.symm.trans q.1) (by decide)), hi]
    refine if_pos (bent0 ?_ (Int.ofNat_lt.mp hi'))
    show ls.length + 14 = 271
    rw [hl]
  rw [if_neg k0]
  by_cases k1 : kind = 1
  · subst k1
    rw [if_pos (by decide), if_neg (fun q => absurd q.1 (by decide))]
    exact read_mark (fun q => turnNe 83 turn (by decide) (by decide) (List.cons.inj q).1)
  by_cases k2 : kind = 2
  · subst k2
    rw [if_pos (by decide), if_neg (fun q => absurd q.1 (by decide))]
    exact read_mark (fun q => turnNe 81 turn (by decide) (by decide) (List.cons.inj (List.cons.inj q).2).1)
  have k3 : kind = 3 := by omega
  subst k3
  obtain ⟨i, hi, hi'⟩ := nat_mod p (m := 257) (by decide)
  have hi2 : i < ls.length := by rw [hl]; exact Int.ofNat_lt.mp hi'
  rw [if_neg (by decide), hi]
  have e2 : ∀ x, ls.take ((i : Int)).toNat ++ [x] ++ ls.drop ((i : Int) + 1).toNat = ls.set i x := setE hi2
  have e : (mkH a1 a2 a3 a4 b1 b2 b3 b4 c1 c2 c3 c4 ls).take (14 + (i : Int)).toNat ++ [64 + turn % 3] ++ (mkH a1 a2 a3 a4 b1 b2 b3 b4 c1 c2 c3 c4 ls).drop (15 + (i : Int)).toNat = mkH a1 a2 a3 a4 b1 b2 b3 b4 c1 c2 c3 c4 (ls.set i (64 + turn % 3)) ++ [] := by
    rw [List.append_nil, ← e2, show (14 + (i : Int)).toNat = i + 14 by omega, show (15 + (i : Int)).toNat = i + 15 by omega]
    rfl
  rw [e, read_mk (by rw [List.length_set, hl]), e2]
  by_cases t0 : turn % 3 = 0
  · rw [if_neg, if_pos ⟨rfl, t0⟩, t0]
    · rfl
    · rw [t0, List.any_eq_true]
      rintro ⟨n, hn, hq⟩
      have hq := of_decide_eq_true hq
      rcases List.mem_or_eq_of_mem_set hn with hn | rfl
      · have := hle n hn; omega
      · exact absurd hq (by decide)
  · rw [if_pos, if_neg (fun q => t0 q.2)]
    rw [List.any_eq_true]
    exact ⟨64 + turn % 3, List.mem_set hi2 _, decide_eq_true (by omega)⟩
end
noncomputable def lensF (step base : Int) : List Int := (upTo 257).map fun k => (k * step + base) % 65
theorem lens_len (step base : Int) : (lensF step base).length = 257 := by simp [lensF]
theorem lens_le (step base : Int) : ∀ n ∈ lensF step base, n ≤ 64 := by
  intro n hn
  obtain ⟨k, _, rfl⟩ := List.mem_map.mp hn
  show (k * step + base) % 65 ≤ 64
  omega
theorem cut_len (xs : List Int) (i j : Nat) (m : List Int) (h : m.length ≤ 1) : (xs.take i ++ m ++ xs.drop j).length ≤ 2 * xs.length + 1 := by
  have h1 := List.length_take_le' i xs
  rw [List.length_append, List.length_append, List.length_drop]
  omega
theorem cut_len0 (xs : List Int) (i j : Nat) : (xs.take i ++ xs.drop j).length ≤ 2 * xs.length + 1 := by
  have := cut_len xs i j [] (by decide)
  rwa [List.append_nil] at this
theorem bent_len (xs : List Int) (kind p odd : Int) : (bentF xs kind p odd).length ≤ 2 * xs.length + 1 := by
  unfold bentF
  split
  · exact cut_len0 xs _ _
  split
  · have h1 := List.length_take_le' p.toNat xs
    omega
  split
  · exact cut_len xs _ _ _ (Nat.le_refl 1)
  split
  · exact cut_len xs _ _ _ (Nat.le_refl 1)
  · exact cut_len0 xs _ _
end Mine

open PySem PySem.W PyProof.Rows PySem.Calls PySem.Spec
set_option Elab.async false
set_option maxRecDepth 100000
set_option linter.unusedVariables false
namespace Mine
noncomputable def d5 (i : Nat) : Stmt := PySem.Challenge.pw_sx_zsqueeze_5.main.body.getD i (.Pass default)
/-- what stands at the top -/
structure Top5 (W : Wo) : Prop where
  f2 : FnAt W "is_bytes" 34 (d5 2) (.ref 33)
  f3 : FnAt W "tokens_to_symbols" 41 (d5 3) (.ref 40)
  f4 : FnAt W "symbols_to_tokens" 48 (d5 4) (.ref 47)
  f5 : FnAt W "four_bytes" 55 (d5 5) (.ref 54)
  f6 : FnAt W "from_four_bytes" 62 (d5 6) (.ref 61)
  f7 : FnAt W "checksum" 69 (d5 7) (.ref 68)
  f8 : FnAt W "header_of" 76 (d5 8) (.ref 75)
  f9 : FnAt W "read_header" 83 (d5 9) (.ref 82)
  f13 : FnAt W "_law_byte" 92 (d5 13) (.ref 91)
  f14 : FnAt W "_law_odd" 99 (d5 14) (.ref 98)
  f15 : FnAt W "_law_token" 106 (d5 15) (.ref 105)
  f16 : FnAt W "_law_wire" 113 (d5 16) (.ref 112)
  f17 : FnAt W "_law_four" 120 (d5 17) (.ref 119)
  f18 : FnAt W "_law_number" 127 (d5 18) (.ref 126)
  f19 : FnAt W "_law_adler" 132 (d5 19) (.ref 131)
  f20 : FnAt W "_law_bent" 139 (d5 20) (.ref 138)
  f21 : FnAt W "_law_bent_head" 146 (d5 21) (.ref 145)
  f22 : FnAt W "_law_read" 153 (d5 22) (.ref 152)
  f23 : FnAt W "_law_stream_agrees" 158 (d5 23) (.ref 157)
  f24 : FnAt W "_law_head_agrees" 165 (d5 24) (.ref 164)
  f25 : FnAt W "law" 170 (d5 25) (.ref 169)
  tab23 : (157, 155) ∈ W.tabs
  tab24 : (164, 160) ∈ W.tabs
  tab25 : (169, 167) ∈ W.tabs
  g11 : W.mg "_law_EDGES" = some (.ref 84)
  t11 : ∃ oc od osl c vs, W.K.lookup 84 = some ⟨.type "tuple", od, .seq (List.toArray vs) c, osl⟩ ∧ IntsAre vs [0, 255, 1, 254] ∧ oc = (0 : Nat)
  g12 : W.mg "_law_ODD" = some (.ref 85)
  t12 : ∃ oc od osl c vs, W.K.lookup 85 = some ⟨.type "tuple", od, .seq (List.toArray vs) c, osl⟩ ∧ IntsAre vs [256, -1, 257, 255, 0] ∧ oc = (0 : Nat)
  g_len : W.mg "len" = none
  g_list : W.mg "list" = none
  g_range : W.mg "range" = none
  g_max : W.mg "max" = none
  g_all : W.mg "all" = none
  g_type : W.mg "type" = none
  g_int : W.mg "int" = none
  g_bool : W.mg "bool" = none
  g_min : W.mg "min" = none
  g_sum : W.mg "sum" = none

theorem evp_none {W : Wo} {qual : Str} {scope : Scope} {f : Addr} {cdv : Value} {C : Cx W qual scope f cdv} {ρ : Rho} : EvP C ρ none none := trivial
theorem evp_some {W : Wo} {qual : Str} {scope : Scope} {f : Addr} {cdv : Value} {C : Cx W qual scope f cdv} {ρ : Rho} {e : Expr} {i : Int} (h : EvE C ρ e (.int i)) : EvP C ρ (some e) (some i) := h
theorem ts_or {W : Wo} {qual : Str} {scope : Scope} {f : Addr} {cdv : Value} {C : Cx W qual scope f cdv} {ρ : Rho} {pos : Pos} {x y : Expr} {a b : Bool} (h1 : TsE C ρ x a) (h2 : TsE C ρ y b) : TsE C ρ (.BoolOp .Or [x, y] pos) (a || b) := ts_or2 h1 fun _ => h2
theorem ts_and {W : Wo} {qual : Str} {scope : Scope} {f : Addr} {cdv : Value} {C : Cx W qual scope f cdv} {ρ : Rho} {pos : Pos} {x y : Expr} {a b : Bool} (h1 : TsE C ρ x a) (h2 : TsE C ρ y b) : TsE C ρ (.BoolOp .And [x, y] pos) (a && b) := ts_and2 h1 fun _ => h2
theorem lk_hd {x : Str} {d : Dat} {ρ : Rho} : List.lookup x ((x, d) :: ρ) = some d := by simp
theorem lk_tl {x y : Str} {d e : Dat} {ρ : Rho} (h : (x == y) = false) (t : List.lookup x ρ = some d) : List.lookup x ((y, e) :: ρ) = some d := by rw [List.lookup_cons, h]; exact t
local macro_rules | `(tactic| walk_at "lk") => `(tactic| first | exact lk_hd | (refine' lk_tl ?hx ?ht; (case hx => rfl); (case ht => walk_at "lk")))
-- expressions
local macro_rules | `(tactic| walk_at "sz") => `(tactic| first | ((try simp only [sizeLine_eq, List.length_append, List.length_map, List.length_cons, List.length_nil, List.length_take, List.length_drop, List.length_replicate]); omega) | ((try simp only [sizeLine_eq, List.length_append, List.length_map, List.length_cons, List.length_nil, List.length_take, List.length_drop, List.length_replicate, cut] at *); omega))
local macro_rules | `(tactic| walk_at "ev") => `(tactic| first
  | exact ev_int
  | exact ev_bool
  | exact ev_none
  | (refine' ev_name ?hlk ?hll ?hld; (case hlk => walk_at "lk"); (case hll => rfl); (case hld => rfl))
  | (refine' ev_add ?h1 ?h2; (case h1 => walk_at "ev"); (case h2 => walk_at "ev"))
  | (refine' ev_sub ?h1 ?h2; (case h1 => walk_at "ev"); (case h2 => walk_at "ev"))
  | (refine' ev_mul ?h1 ?h2 ?h3; (case h1 => walk_at "ev"); (case h2 => walk_at "ev"); (case h3 => exact mulOk _ (by decide)))
  | (refine' ev_mod ?a ?b ?c; (case a => walk_at "ev"); (case b => walk_at "ev"); (case c => omega))
  | (refine' ev_div ?a ?b ?c ?d; (case a => walk_at "ev"); (case b => walk_at "ev"); (case c => omega); (case d => omega))
  | (refine' ev_ilist ?a ?b; (case a => walk_at "evli"); (case b => walk_at "sz"))
  | (refine' ev_list ?a ?b; (case a => walk_at "evl"); (case b => walk_at "sz"))
  | (refine' ev_tuple ?a ?b; (case a => walk_at "evl"); (case b => walk_at "sz"))
  | (refine' ev_iladd ?a ?b ?c; (case a => walk_at "ev"); (case b => walk_at "ev"); (case c => walk_at "sz"))
  | (refine' ev_ladd ?a ?b ?c; (case a => walk_at "ev"); (case b => walk_at "ev"); (case c => walk_at "sz"))
  | (refine' ev_iidx ?a ?b ?c ?d ?e ?f; (case a => walk_at "ev"); (case b => walk_at "ev"); (case c => omega); (case d => walk_at "sz"); (case e => walk_at "sz"); (case f => intro _ _; rfl))
  | (refine' ev_icut ?a ?b ?c ?d ?e ?f ?g; (case a => walk_at "ev"); (case b => walk_at "evp"); (case c => walk_at "evp"); (case d => walk_at "evs"); (case e => walk_at "evs"); (case f => walk_at "sz"); (case g => intro _ _; rfl))
  | (refine' ev_ilen ?a ?b ?c ?d ?e; (case a => walk_at "ev"); (case b => walk_at "top"); (case c => rfl); (case d => walk_at "sz"); (case e => rfl))
  | (refine' ev_icopy ?a ?b ?c ?d ?e; (case a => walk_at "ev"); (case b => walk_at "top"); (case c => rfl); (case d => walk_at "sz"); (case e => rfl))
  | walk_at "evc")
local macro_rules | `(tactic| walk_at "top") => `(tactic| (rename Top5 _ => hTop; first | exact hTop.g_len | exact hTop.g_list | exact hTop.g_range | exact hTop.g_max | exact hTop.g_all | exact hTop.g_type | exact hTop.g_int | exact hTop.g_bool | exact hTop.g_min | exact hTop.g_sum))
local macro_rules | `(tactic| walk_at "evp") => `(tactic| first
  | exact evp_none
  | (refine' evp_some ?h; (case h => walk_at "ev")))
local macro_rules | `(tactic| walk_at "evs") => `(tactic| (intro _ hq; first | (cases hq; omega) | (cases hq; done)))
local macro_rules | `(tactic| walk_at "wk") => `(tactic| first | exact List.forall_mem_nil _ | (refine List.forall_mem_cons.mpr ⟨rfl, ?_⟩; walk_at "wk"))
local macro_rules | `(tactic| walk_at "evl") => `(tactic| first
  | exact evl_nil
  | (refine' evl_cons ?a ?b ?c; (case a => walk_at "ev"); (case b => walk_at "evl"); (case c => rfl)))
local macro_rules | `(tactic| walk_at "evli") => `(tactic| first
  | exact evli_nil
  | (refine' evli_cons ?a ?b ?c; (case a => walk_at "ev"); (case b => walk_at "evli"); (case c => rfl)))
local macro_rules | `(tactic| walk_at "ts") => `(tactic| first
  | (refine' ts_lt ?h1 ?h2; (case h1 => walk_at "ev"); (case h2 => walk_at "ev"))
  | (refine' ts_gt ?h1 ?h2; (case h1 => walk_at "ev"); (case h2 => walk_at "ev"))
  | (refine' ts_eq ?h1 ?h2; (case h1 => walk_at "ev"); (case h2 => walk_at "ev"))
  | (refine' ts_ne ?h1 ?h2; (case h1 => walk_at "ev"); (case h2 => walk_at "ev"))
  | (refine' ts_ineq ?h1 ?h2; (case h1 => walk_at "ev"); (case h2 => walk_at "ev"))
  | (refine' ts_not ?h1; (case h1 => walk_at "ts"))
  | (refine' ts_or ?h1 ?h2; (case h1 => walk_at "ts"); (case h2 => walk_at "ts"))
  | (refine' ts_and ?h1 ?h2; (case h1 => walk_at "ts"); (case h2 => walk_at "ts"))
  | (refine' ts_isNone ?h1; (case h1 => walk_at "ev"))
  | (refine' ts_isNotNone ?h1; (case h1 => walk_at "ev"))
  | (refine' ts_val ?a ?b; (case a => walk_at "ev"); (case b => intro _; rfl)))

section
variable {W : Wo}
theorem c_is_bytes (T : Top5 W) (ns : List Int) : CallE W 1 34 [li ns] (.bool (bytesB ns)) := by
  refine call_of ["data"] T.f2 (fun doc pm an ct vs h => ?b) rfl (by decide) (by decide) rfl rfl rfl (by decide) fun C s hlv S => ?_
  case b => obtain ⟨v, rfl⟩ := len1 h; rfl
  refine x_for S (it_list (ev_name rfl rfl rfl)) (fun i ρ' μ' => ρ' = ([("data", li ns)] : Rho) ∧ μ' = none ∧ ∀ b ∈ ns.take i, okB b) ⟨rfl, rfl, by simp⟩ rfl (fun _ => rfl) .never (by rintro i ρ' μ' ⟨_, rfl, _⟩ p hp; cases hp) ?_ ?_
  · rintro i d ρ' μ' H' s' hd ⟨rfl, rfl, hJ⟩ S'
    rw [List.getElem?_map] at hd
    cases hq : ns[i]? with
    | none => rw [hq] at hd; cases hd
    | some n =>
      rw [hq] at hd
      cases hd
      refine' x_if S' ?ht (fun hb s1 S1 => ?_) (fun hb s1 S1 => ?_)
      case ht => walk_at "ts"
      · refine x_ret S1 ev_bool fun v s2 h => ?_
        have : bytesB ns = false := by
          unfold bytesB
          rw [List.all_eq_false]
          refine ⟨n, List.mem_of_getElem? hq, ?_⟩
          simp at hb ⊢
          omega
        refine then_ret (loop_ret (show Fin C _ _ _ from ?_))
        rw [this]; exact h
      · refine x_nil (then_next (x_nil (loop_next ⟨rfl, rfl, fun b hb' => ?_⟩ (S1.weak (by walk_at "wk")))))
        rw [List.take_add_one, hq] at hb'
        rcases List.mem_append.mp hb' with h | h
        · exact hJ b h
        · simp at h hb
          subst h
          exact ⟨by omega, by omega⟩
  · rintro ρ' μ' s' ⟨rfl, rfl, hJ⟩ S'
    refine x_ret S' ev_bool fun v s' h => ?_
    have : bytesB ns = true := by
      unfold bytesB
      rw [List.all_eq_true]
      intro b hb
      simpa using hJ b (by simpa using hb)
    show Fin C _ _ _
    rw [this]; exact h
theorem c_four_bytes (T : Top5 W) (n : Int) : CallE W 1 55 [.int n] (li (four n)) := by
  refine call_of ["n"] T.f5 (fun doc pm an ct vs h => ?b) rfl (by decide) (by decide) rfl rfl rfl (by decide) fun C s hlv S => ?_
  case b => obtain ⟨v, rfl⟩ := len1 h; rfl
  refine' x_ret S ?h (fun v s' h => ?k)
  case h => walk_at "ev"
  exact h
theorem c_from_four (T : Top5 W) {bs : List Int} (hb : bs.length = 4) : CallE W 1 62 [li bs] (.int (numF bs)) := by
  obtain ⟨a, b, c, d, rfl⟩ := len4 hb
  refine call_of ["b"] T.f6 (fun doc pm an ct vs h => ?b) rfl (by decide) (by decide) rfl rfl rfl (by decide) fun C s hlv S => ?_
  case b => obtain ⟨v, rfl⟩ := len1 h; rfl
  rw [num_four]
  refine' x_ret S ?h (fun v s' h => ?k)
  case h => walk_at "ev"
  exact h
theorem c_number (T : Top5 W) (ns : List Int) : CallE W 1 127 [li ns] (.int (numF ns)) := by
  refine call_of ["four"] T.f18 (fun doc pm an ct vs h => ?b) rfl (by decide) (by decide) rfl rfl rfl (by decide) fun C s hlv S => ?_
  case b => obtain ⟨v, rfl⟩ := len1 h; rfl
  refine x_assign S ev_int rfl rfl (by intro p hp; cases hp) fun s1 S1 => ?_
  refine x_for S1 (it_list (ev_name rfl rfl rfl)) (fun i ρ' μ' => ρ' = ([("n", .int (numF (ns.take i))), ("four", li ns)] : Rho) ∧ μ' = none) ⟨rfl, rfl⟩ rfl (fun _ => rfl) .never (by rintro i ρ' μ' ⟨_, rfl⟩ p hp; cases hp) ?_ ?_
  · rintro i d ρ' μ' H' s' hd ⟨rfl, rfl⟩ S'
    obtain ⟨n, hq, rfl⟩ := dis_at hd
    refine' x_assign S' ?h rfl rfl (by intro p hp; cases hp) fun s2 S2 => x_nil (loop_next ⟨rfl, rfl⟩ (S2.weak ?w))
    case h => walk_at "ev"
    have e : numF (ns.take (i + 1)) = numF (ns.take i) * 256 + n := by
      rw [List.take_add_one, hq]
      simp [numF, List.foldl_append]
    rw [e]
    walk_at "wk"
  · rintro ρ' μ' s' ⟨rfl, rfl⟩ S'
    refine x_ret S' (ev_name rfl rfl rfl) fun v s' h => ?_
    rw [List.length_map, List.take_length] at h
    exact h
theorem c_byte (T : Top5 W) (x : Int) : CallE W 1 92 [.int x] (.int (byte5 x)) := by
  refine call_of ["x"] T.f13 (fun doc pm an ct vs h => ?b) rfl (by decide) (by decide) rfl rfl rfl (by decide) fun C s hlv S => ?_
  case b => obtain ⟨v, rfl⟩ := len1 h; rfl
  replace S : St C (C.fz, C.n₀) ([("x", .int x)] : Rho) none s := S
  unfold byte5
  refine' x_if S ?ht (fun hb s1 S1 => ?_) (fun hb s1 S1 => ?_)
  case ht => walk_at "ts"
  · rw [if_pos (of_decide_eq_true hb)]
    refine' x_ret S1 (ev_tab T.g11 T.t11 rfl rfl ?h ?h0 ?h1 ?h2 (fun _ _ => rfl)) fun v s' h => then_ret h
    case h => walk_at "ev"
    case h0 => omega
    case h1 => simp; omega
    case h2 => omega
  · rw [if_neg (of_decide_eq_false hb)]
    refine x_nil (then_next ?_)
    refine' x_ret S1 ?h (fun v s' h => ?_)
    case h => walk_at "ev"
    exact h
local macro_rules | `(tactic| walk_at "evc") => `(tactic| (rename Top5 _ => hTop; first
  | (refine' ev_call hTop.f5 rfl rfl ?cl rfl rfl (c_four_bytes hTop _) ?clv; (case cl => walk_at "evl"); (case clv => omega))
  | (refine' ev_call hTop.f18 rfl rfl ?cl rfl rfl (c_number hTop _) ?clv; (case cl => walk_at "evl"); (case clv => omega))
  | (refine' ev_call hTop.f2 rfl rfl ?cl rfl rfl (c_is_bytes hTop _) ?clv; (case cl => walk_at "evl"); (case clv => omega))
  | (refine' ev_call hTop.f13 rfl rfl ?cl rfl rfl (c_byte hTop _) ?clv; (case cl => walk_at "evl"); (case clv => omega))))
theorem c_header_of (T : Top5 W) {ls : List Int} (hz : ls.length ≤ 1000) (a b c : Int) : CallE W 2 76 [li ls, .int a, .int b, .int c] (li (headF ls a b c)) := by
  refine call_of ["lengths", "symbols", "size", "check"] T.f8 (fun doc pm an ct vs h => ?b) rfl (by decide) (by decide) rfl rfl rfl (by decide) fun C s hlv S => ?_
  case b => obtain ⟨v1, v2, v3, v4, rfl⟩ := len4 h; rfl
  have f1 := four_len a
  have f2 := four_len b
  have f3 := four_len c
  replace S : St C (C.fz, C.n₀) ([("lengths", li ls), ("symbols", .int a), ("size", .int b), ("check", .int c)] : Rho) none s := S
  refine' x_ret S ?h (fun v s' h => ?k)
  case h => walk_at "ev"
  exact h
noncomputable def tokD (t : T3) : Dat := .tuple [.int t.1, .int t.2.1, .int t.2.2]
noncomputable abbrev toksD (ts : List T3) : Dat := .list (ts.map tokD)
theorem c_t2s (T : Top5 W) {ts : List T3} (hz : ts.length ≤ 1000) : CallE W 1 41 [toksD ts] (li (t2s ts)) := by
  refine call_of ["tokens"] T.f3 (fun doc pm an ct vs h => ?b) rfl (by decide) (by decide) rfl rfl rfl (by decide) fun C s hlv S => ?_
  case b => obtain ⟨v, rfl⟩ := len1 h; rfl
  refine x_new S rfl rfl fun s1 S1 => ?_
  replace S1 : St C (C.fz, C.n₀) ([("tokens", toksD ts)] : Rho) (some ("symbols", [])) s1 := S1
  refine x_forG S1 (it_list (ev_name rfl rfl rfl)) (binds_3 rfl rfl rfl) (fun i ρ' μ' => ρ' = ([("tokens", toksD ts)] : Rho) ∧ μ' = some (("symbols" : Str), dis (t2s (ts.take i)))) ⟨rfl, by simp [t2s]⟩ (fun _ => rfl) .never (by rintro i ρ' μ' ⟨_, rfl⟩ p hp; cases hp; dsimp only; decide) ?_ ?_ ?_
  · rintro i d ρ' μ' hd ⟨rfl, rfl⟩
    rw [List.getElem?_map] at hd
    cases hq : ts[i]? with
    | none => rw [hq] at hd; cases hd
    | some t => rw [hq] at hd; cases hd; exact ⟨_, _, _, _, rfl, rfl⟩
  · rintro i d ρ' μ' ρ₂ H' s' hd ⟨rfl, rfl⟩ ⟨a, b, c, e, rfl⟩ S'
    rw [List.getElem?_map] at hd
    cases hq : ts[i]? with
    | none => rw [hq] at hd; cases hd
    | some t =>
      rw [hq] at hd
      cases hd
      obtain ⟨x, y, z⟩ := t
      cases e
      have hl := t2s_le (ts.take i)
      have hl2 : (ts.take i).length ≤ 1000 := by rw [List.length_take]; omega
      have e1 : ts.take (i + 1) = ts.take i ++ [(x, y, z)] := by rw [List.take_add_one, hq]; rfl
      refine' x_if S' ?ht (fun hb s1 S1 => ?_) (fun hb s1 S1 => ?_)
      case ht => walk_at "ts"
      · have hb := of_decide_eq_true hb
        refine' x_append S1 ?h rfl rfl rfl rfl rfl ?hz rfl (fun s2 S2 => ?_)
        case h => walk_at "ev"
        case hz => walk_at "sz"
        refine x_nil (then_next (x_nil (loop_next ⟨rfl, ?_⟩ (S2.weak (by walk_at "wk")))))
        rw [e1, t2s_snoc, t2s1, if_pos hb]
        simp
      · have hb := of_decide_eq_false hb
        refine' x_append S1 ?h rfl rfl rfl rfl rfl ?hz rfl (fun s2 S2 => ?_)
        case h => walk_at "ev"
        case hz => walk_at "sz"
        refine' x_append S2 ?h rfl rfl rfl rfl rfl ?hz rfl (fun s2 S2 => ?_)
        case h => walk_at "ev"
        case hz => walk_at "sz"
        refine' x_append S2 ?h rfl rfl rfl rfl rfl ?hz rfl (fun s2 S2 => ?_)
        case h => walk_at "ev"
        case hz => walk_at "sz"
        refine' x_append S2 ?h rfl rfl rfl rfl rfl ?hz rfl (fun s2 S2 => ?_)
        case h => walk_at "ev"
        case hz => walk_at "sz"
        refine x_nil (then_next (x_nil (loop_next ⟨rfl, ?_⟩ (S2.weak (by walk_at "wk")))))
        rw [e1, t2s_snoc, t2s1, if_neg hb]
        simp
  · rintro ρ' μ' s' ⟨rfl, rfl⟩ S'
    refine x_freeze S' fun S' => ?_
    rw [List.length_map, List.take_length] at S'
    exact x_ret S' (ev_name rfl rfl rfl) fun v s' h => h
noncomputable def toksR (l : List Int) : Option Dat := (s2t l).map toksD
theorem c_s2t (T : Top5 W) {l : List Int} (hz : l.length ≤ 1000) : (∀ r, toksR l = some r → CallE W 2 48 [li l] r) ∧ (toksR l = none → CallX W 2 48 [li l]) := by
  refine call_ofX ["symbols"] T.f4 (fun doc pm an ct vs h => ?b) rfl (by decide) (by decide) rfl rfl rfl (by decide) fun C s X hlv hX S => ?_
  case b => obtain ⟨v, rfl⟩ := len1 h; rfl
  refine x_new S rfl rfl fun s1 S1 => ?_
  replace S1 : St C (C.fz, C.n₀) ([("symbols", li l)] : Rho) (some ("tokens", [])) s1 := S1
  refine x_assign S1 ev_int rfl rfl (by rintro p hp; cases hp; dsimp only; decide) fun s2 S2 => ?_
  refine x_while (PassesOwn.leaving) (fun n ρ' μ' => ∃ (k : Nat) (ts : List T3), ρ' = ([("k", .int k), ("symbols", li l)] : Rho) ∧ μ' = some ((("tokens" : Str)), ts.map tokD) ∧ ts.length ≤ k ∧ k ≤ 2000 ∧ n = l.length - k ∧ s2t l = (s2t (l.drop k)).map (ts ++ ·)) ?_ l.length ⟨0, [], rfl, rfl, by simp, by simp, by simp, by rw [List.drop_zero]; cases s2t l <;> simp⟩ S2
  rintro n ρ' μ' ⟨k, ts, rfl, rfl, htk, hle, rfl, hinv⟩
  refine' ⟨_, ?ht, fun hb s3 S3 => ?_, fun hb s3 S3 => ?_⟩
  case ht => walk_at "ts"
  · have hk : k < l.length := by simpa using hb
    refine' x_if S3 ?ht (fun hb s4 S4 => ?_) (fun hb s4 S4 => ?_)
    case ht => walk_at "ts"
    · have hb := of_decide_eq_true hb
      refine' x_append S4 ?h rfl rfl rfl rfl rfl ?hz rfl (fun s5 S5 => ?_)
      case h => walk_at "ev"
      case hz => walk_at "sz"
      refine' x_assign S5 ?h rfl rfl (by rintro p hp; cases hp; dsimp only; decide) fun s6 S6 => ?_
      case h => walk_at "ev"
      refine x_nil (then_next (x_nil (wh_next ⟨l.length - (k + 1), by omega, k + 1, ts ++ [(0, l.getD k 0, 0)], rfl, ?_, by simp; omega, by omega, rfl, ?_⟩ (S6.weak (by walk_at "wk")))))
      · rw [List.map_append]; rfl
      · rw [hinv, s2t_step1 hk hb, Option.map_map]
        congr 1
        funext x
        simp
    · have hb := of_decide_eq_false hb
      have hst := s2t_step2 hk hb
      have ecut : cut l (some ((k : Int) + 1)) (some ((k : Int) + 4)) = (l.drop (k + 1)).take 3 := by
        have e1 : ((k : Int) + 1).toNat = k + 1 := by omega
        have e2 : ((k : Int) + 4).toNat - (k + 1) = 3 := by omega
        simp only [cut, e1, e2]
      have hAl : ((l.drop (k + 1)).take 3).length ≤ 3 := by simp; omega
      generalize hAd : (l.drop (k + 1)).take 3 = ar at hst ecut hAl
      refine' x_assign S4 ?h rfl rfl (by rintro p hp; cases hp; dsimp only; decide) fun s5 S5 => ?_
      case h => walk_at "ev"
      rw [ecut] at S5
      refine' x_if S5 ?ht (fun hb s6 S6 => ?_) (fun hb s6 S6 => ?_)
      case ht => walk_at "ts"
      · refine x_raise S6 rfl fun e s7 x => hX ?_ e s7 x
        have : ar.length < 3 ∨ bytesB ar = false := by
          rcases Bool.or_eq_true_iff.mp hb with h | h
          · left; have := of_decide_eq_true h; omega
          · right; simpa using h
        unfold toksR
        rw [hinv, hst, if_pos this]
        rfl
      · obtain ⟨h1, h2⟩ := Bool.or_eq_false_iff.mp hb
        have h1 := of_decide_eq_false h1
        have h3 : ar.length = 3 := by omega
        have h2 : bytesB ar = true := by simpa using h2
        refine x_nil (then_next ?_)
        refine' x_append S6 ?h rfl rfl rfl rfl rfl ?hz rfl (fun s7 S7 => ?_)
        case h => walk_at "ev"
        case hz => walk_at "sz"
        refine' x_assign S7 ?h rfl rfl (by rintro p hp; cases hp; dsimp only; decide) fun s8 S8 => ?_
        case h => walk_at "ev"
        refine x_nil (then_next (x_nil (wh_next ⟨l.length - (k + 4), by omega, k + 4, ts ++ [(1, ar.getD 0 0 * 256 + ar.getD 1 0, ar.getD 2 0)], rfl, ?_, by simp; omega, by omega, rfl, ?_⟩ (S8.weak (by walk_at "wk")))))
        · rw [List.map_append]; rfl
        · rw [hinv, hst, if_neg (by simp [h3, h2]), Option.map_map]
          congr 1
          funext x
          simp
  · have hk : l.length ≤ k := by have := of_decide_eq_false hb; omega
    refine x_freeze S3 fun S3 => ?_
    refine x_ret S3 (ev_name rfl rfl rfl) fun v s' h => ⟨_, ?_, h⟩
    unfold toksR
    rw [hinv, List.drop_eq_nil_of_le hk, show s2t [] = some [] from rfl]
    simp
noncomputable def hdD (h : Hd) : Dat := .tuple [li h.1, .int h.2.1, .int h.2.2.1, .int h.2.2.2]
noncomputable def hdR (l : List Int) : Option Dat := (readF l).map hdD
theorem c_read_header (T : Top5 W) {l : List Int} (hz : l.length ≤ 1000) : (∀ r, hdR l = some r → CallE W 2 83 [li l] r) ∧ (hdR l = none → CallX W 2 83 [li l]) := by
  refine call_ofX ["blob"] T.f9 (fun doc pm an ct vs h => ?b) rfl (by decide) (by decide) rfl rfl rfl (by decide) fun C s X hlv hX S => ?_
  case b => obtain ⟨v, rfl⟩ := len1 h; rfl
  replace S : St C (C.fz, C.n₀) ([("blob", li l)] : Rho) none s := S
  refine' x_if S ?ht (fun hb s1 S1 => ?_) (fun hb s1 S1 => ?_)
  case ht => walk_at "ts"
  · have hb := of_decide_eq_true hb
    refine x_raise S1 rfl fun e s7 x => hX ?_ e s7 x
    unfold hdR readF
    rw [if_pos (by omega)]
    rfl
  have hb := of_decide_eq_false hb
  have hl : ¬ l.length < 271 := by omega
  clear hb
  refine x_nil (then_next ?_)
  refine' x_if S1 ?ht (fun hb s2 S2 => ?_) (fun hb s2 S2 => ?_)
  case ht => walk_at "ts"
  · have hb : l.take 2 ≠ [83, 81] := of_decide_eq_true hb
    refine x_raise S2 rfl fun e s7 x => hX ?_ e s7 x
    unfold hdR readF
    rw [if_neg hl, if_pos hb]
    rfl
  have hb2 : ¬ l.take 2 ≠ [83, 81] := of_decide_eq_false hb
  refine x_nil (then_next ?_)
  refine' x_assign S2 ?h rfl rfl (by rintro p hp; cases hp) fun s3 S3 => ?_
  case h => walk_at "ev"
  have ecut : cut l (some 14) (some 271) = (l.drop 14).take 257 := rfl
  rw [ecut] at S3
  have hln : ((l.drop 14).take 257).length = 257 := by simp; omega
  obtain ⟨M, hM, hle⟩ := exists_max ((l.drop 14).take 257) (by intro e; rw [e] at hln; cases hln)
  have ha := any_max (K := 64) hM hle
  refine' x_if S3 ?ht (fun hb s4 S4 => ?_) (fun hb s4 S4 => ?_)
  case ht =>
    refine' ts_gt ?h1 ?h2
    case h1 => exact ev_max (ev_name rfl rfl rfl) hM hle T.g_max rfl rfl
    case h2 => exact ev_int
  · refine x_raise S4 rfl fun e s7 x => hX ?_ e s7 x
    unfold hdR readF
    rw [if_neg hl, if_neg hb2, ha, hb, if_pos rfl]
    rfl
  refine x_nil (then_next ?_)
  have f1 : (cut l (some 2) (some 6)).length = 4 := by simp [cut]; omega
  have f2 : (cut l (some 6) (some 10)).length = 4 := by simp [cut]; omega
  have f3 : (cut l (some 10) (some 14)).length = 4 := by simp [cut]; omega
  refine' x_assign S4 ?h rfl rfl (by rintro p hp; cases hp) fun s5 S5 => ?_
  case h =>
    refine' ev_call T.f6 rfl rfl ?cl rfl rfl (c_from_four T f1) ?clv
    case cl => walk_at "evl"
    case clv => omega
  refine' x_assign S5 ?h rfl rfl (by rintro p hp; cases hp) fun s6 S6 => ?_
  case h =>
    refine' ev_call T.f6 rfl rfl ?cl rfl rfl (c_from_four T f2) ?clv
    case cl => walk_at "evl"
    case clv => omega
  refine' x_assign S6 ?h rfl rfl (by rintro p hp; cases hp) fun s7 S7 => ?_
  case h =>
    refine' ev_call T.f6 rfl rfl ?cl rfl rfl (c_from_four T f3) ?clv
    case cl => walk_at "evl"
    case clv => omega
  refine' x_ret S7 ?h (fun v s' h => ⟨_, ?k, h⟩)
  case h => walk_at "ev"
  unfold hdR readF
  rw [if_neg hl, if_neg hb2, ha, hb, if_neg (by simp)]
  rfl
theorem ts_bne {W : Wo} {qual : Str} {scope : Scope} {f : Addr} {cdv : Value} {C : Cx W qual scope f cdv} {ρ : Rho} {pos : Pos} {l r : Expr} {a b : Bool} (h1 : EvE C ρ l (.bool a)) (h2 : EvE C ρ r (.bool b)) : TsE C ρ (.Compare l [.NotEq] [r] pos) (!(a == b)) :=
  ts_cmp h1 h2 (noMarks rfl _) fun fz m mu nw s v1 v2 Q E R i1 i2 k => by
    cases i1; cases i2
    exact PySem.SeqAt.RcNeAt.bool_bool (A := C.A) (s := s) a b W.prog W.w E Q (k _ nw R (Sub.refl _))
theorem kqd_hd (h : Hd) : kqdOk 9 (hdD h) = true := by
  have e : kqdOk 8 (li h.1) = true := by
    show (dis h.1).all (kqdOk 7) = true
    rw [List.all_eq_true]
    intro d hd
    obtain ⟨n, _, rfl⟩ := List.mem_map.mp hd
    rfl
  show ([li h.1, .int h.2.1, .int h.2.2.1, .int h.2.2.2] : List Dat).all (kqdOk 8) = true
  simp only [List.all_cons, List.all_nil, e]
  rfl
theorem kqd_toks (ts : List T3) : kqdOk 9 (toksD ts) = true := by
  show (ts.map tokD).all (kqdOk 8) = true
  rw [List.all_eq_true]
  intro d hd
  obtain ⟨n, _, rfl⟩ := List.mem_map.mp hd
  rfl
noncomputable def optD : Option Dat → Dat
  | none => .none
  | some d => d
theorem dis_mem {ns : List Int} {d : Dat} (h : d ∈ dis ns) : ∃ i, d = .int i := by
  obtain ⟨i, _, rfl⟩ := List.mem_map.mp h; exact ⟨i, rfl⟩
theorem c_odd (T : Top5 W) (x raw : Int) : CallE W 1 99 [.int x, .int raw] (.int (oddF x raw)) := by
  refine call_of ["x", "raw"] T.f14 (fun doc pm an ct vs h => ?b) rfl (by decide) (by decide) rfl rfl rfl (by decide) fun C s hlv S => ?_
  case b => obtain ⟨v, w, rfl⟩ := len2 h; rfl
  replace S : St C (C.fz, C.n₀) ([("x", .int x), ("raw", .int raw)] : Rho) none s := S
  unfold oddF
  refine' x_if S ?ht (fun hb s1 S1 => ?_) (fun hb s1 S1 => ?_)
  case ht => walk_at "ts"
  · rw [if_pos (of_decide_eq_true hb)]
    refine' x_ret S1 ?h (fun v s' h => then_ret ?_)
    case h => walk_at "ev"
    exact h
  · rw [if_neg (of_decide_eq_false hb)]
    refine x_nil (then_next ?_)
    refine' x_ret S1 (ev_tab T.g12 T.t12 rfl rfl ?h ?h0 ?h1 ?h2 (fun _ _ => rfl)) fun v s' h => h
    case h => walk_at "ev"
    case h0 => omega
    case h1 => simp; omega
    case h2 => omega
theorem c_token (T : Top5 W) (x y z : Int) : CallE W 2 106 [.int x, .int y, .int z] (tokD (tokF x y z)) := by
  refine call_of ["x", "y", "z"] T.f15 (fun doc pm an ct vs h => ?b) rfl (by decide) (by decide) rfl rfl rfl (by decide) fun C s hlv S => ?_
  case b => obtain ⟨v, w, u, rfl⟩ := len3 h; rfl
  replace S : St C (C.fz, C.n₀) ([("x", .int x), ("y", .int y), ("z", .int z)] : Rho) none s := S
  unfold tokF
  refine' x_if S ?ht (fun hb s1 S1 => ?_) (fun hb s1 S1 => ?_)
  case ht => walk_at "ts"
  · rw [if_pos (of_decide_eq_true hb)]
    refine' x_ret S1 ?h (fun v s' h => then_ret ?_)
    case h => walk_at "ev"
    exact h
  · rw [if_neg (of_decide_eq_false hb)]
    refine x_nil (then_next ?_)
    refine' x_ret S1 ?h (fun v s' h => ?_)
    case h => walk_at "ev"
    exact h
theorem c_wire (T : Top5 W) (x y z : Int) : CallE W 2 113 [.int x, .int y, .int z] (li (wireF x y z)) := by
  refine call_of ["x", "y", "z"] T.f16 (fun doc pm an ct vs h => ?b) rfl (by decide) (by decide) rfl rfl rfl (by decide) fun C s hlv S => ?_
  case b => obtain ⟨v, w, u, rfl⟩ := len3 h; rfl
  replace S : St C (C.fz, C.n₀) ([("x", .int x), ("y", .int y), ("z", .int z)] : Rho) none s := S
  unfold wireF
  refine' x_if S ?ht (fun hb s1 S1 => ?_) (fun hb s1 S1 => ?_)
  case ht => walk_at "ts"
  · rw [if_pos (of_decide_eq_true hb)]
    refine' x_ret S1 ?h (fun v s' h => then_ret ?_)
    case h => walk_at "ev"
    exact h
  · rw [if_neg (of_decide_eq_false hb)]
    refine x_nil (then_next ?_)
    refine' x_ret S1 ?h (fun v s' h => ?_)
    case h => walk_at "ev"
    exact h
theorem c_lfour (T : Top5 W) (x y : Int) : CallE W 2 120 [.int x, .int y] (li (fourF x y)) := by
  refine call_of ["x", "y"] T.f17 (fun doc pm an ct vs h => ?b) rfl (by decide) (by decide) rfl rfl rfl (by decide) fun C s hlv S => ?_
  case b => obtain ⟨v, w, rfl⟩ := len2 h; rfl
  replace S : St C (C.fz, C.n₀) ([("x", .int x), ("y", .int y)] : Rho) none s := S
  refine' x_ret S ?h (fun v s' h => ?_)
  case h => walk_at "ev"
  exact h
theorem c_checksum (T : Top5 W) (ns : List Int) : CallE W 1 69 [li ns] (.int ((adA ns).2 * 65536 + (adA ns).1)) := by
  refine call_of ["data"] T.f7 (fun doc pm an ct vs h => ?b) rfl (by decide) (by decide) rfl rfl rfl (by decide) fun C s hlv S => ?_
  case b => obtain ⟨v, rfl⟩ := len1 h; rfl
  refine x_assign S ev_int rfl rfl (by intro p hp; cases hp) fun s1 S1 => ?_
  refine x_assign S1 ev_int rfl rfl (by intro p hp; cases hp) fun s2 S2 => ?_
  refine x_for S2 (it_list (ev_name rfl rfl rfl)) (fun i ρ' μ' => ρ' = ([("b", .int (adA (ns.take i)).2), ("a", .int (adA (ns.take i)).1), ("data", li ns)] : Rho) ∧ μ' = none) ⟨rfl, rfl⟩ rfl (fun _ => rfl) .never (by rintro i ρ' μ' ⟨_, rfl⟩ p hp; cases hp) ?_ ?_
  · rintro i d ρ' μ' H' s' hd ⟨rfl, rfl⟩ S'
    obtain ⟨n, hq, rfl⟩ := dis_at hd
    refine' x_assign S' ?h rfl rfl (by intro p hp; cases hp) fun s2 S2 => ?_
    case h => walk_at "ev"
    refine' x_assign S2 ?h rfl rfl (by intro p hp; cases hp) fun s3 S3 => x_nil (loop_next ⟨rfl, rfl⟩ (S3.weak ?w))
    case h => walk_at "ev"
    have e : adA (ns.take (i + 1)) = (((adA (ns.take i)).1 + n) % 65521, ((adA (ns.take i)).2 + ((adA (ns.take i)).1 + n) % 65521) % 65521) := by
      rw [List.take_add_one, hq]
      simp [adA, List.foldl_append]
    rw [e]
    walk_at "wk"
  · rintro ρ' μ' s' ⟨rfl, rfl⟩ S'
    rw [List.length_map, List.take_length] at S'
    refine' x_ret S' ?h (fun v s' h => ?_)
    case h => walk_at "ev"
    exact h

theorem c_bent (T : Top5 W) {xs : List Int} (kind : Int) {p : Int} (odd : Int) (hz : xs.length ≤ 1000) (ha : 0 ≤ p) : CallE W 1 139 [li xs, .int kind, .int p, .int odd] (li (bentF xs kind p odd)) := by
  refine call_of ["stream", "kind", "p", "odd"] T.f20 (fun doc pm an ct vs h => ?b) rfl (by decide) (by decide) rfl rfl rfl (by decide) fun C s hlv S => ?_
  case b => obtain ⟨v1, v2, v3, v4, rfl⟩ := len4 h; rfl
  replace S : St C (C.fz, C.n₀) ([("stream", li xs), ("kind", .int kind), ("p", .int p), ("odd", .int odd)] : Rho) none s := S
  have z1 := cut_le xs none (some p)
  have z2 := cut_le xs (some (p + 1)) none
  have z3 := cut_le xs (some p) none
  have z4 := cut_le xs none (some (p + 1))
  unfold bentF
  refine' x_if S ?ht (fun hb s1 S1 => ?_) (fun hb s1 S1 => ?_)
  case ht => walk_at "ts"
  · rw [if_pos (of_decide_eq_true hb)]
    refine' x_ret S1 ?h (fun v s' h => ?_)
    case h => walk_at "ev"
    exact h
  rw [if_neg (of_decide_eq_false hb)]
  refine x_nil (then_next ?_)
  refine' x_if S1 ?ht (fun hb s1 S1 => ?_) (fun hb s1 S1 => ?_)
  case ht => walk_at "ts"
  · rw [if_pos (of_decide_eq_true hb)]
    refine' x_ret S1 ?h (fun v s' h => ?_)
    case h => walk_at "ev"
    exact h
  rw [if_neg (of_decide_eq_false hb)]
  refine x_nil (then_next ?_)
  refine' x_if S1 ?ht (fun hb s1 S1 => ?_) (fun hb s1 S1 => ?_)
  case ht => walk_at "ts"
  · rw [if_pos (of_decide_eq_true hb)]
    refine' x_ret S1 ?h (fun v s' h => ?_)
    case h => walk_at "ev"
    exact h
  rw [if_neg (of_decide_eq_false hb)]
  refine x_nil (then_next ?_)
  refine' x_if S1 ?ht (fun hb s1 S1 => ?_) (fun hb s1 S1 => ?_)
  case ht => walk_at "ts"
  · rw [if_pos (of_decide_eq_true hb)]
    refine' x_ret S1 ?h (fun v s' h => ?_)
    case h => walk_at "ev"
    exact h
  rw [if_neg (of_decide_eq_false hb)]
  refine x_nil (then_next ?_)
  refine' x_ret S1 ?h (fun v s' h => ?_)
  case h => walk_at "ev"
  exact h
theorem c_bent_head (T : Top5 W) {xs : List Int} {kind : Int} (p turn : Int) (hz : xs.length = 271) (ha : 0 ≤ kind) (hk : kind ≤ 3) : CallE W 1 146 [li xs, .int kind, .int p, .int turn] (li (bentHF xs kind p turn)) := by
  refine call_of ["head", "kind", "p", "turn"] T.f21 (fun doc pm an ct vs h => ?b) rfl (by decide) (by decide) rfl rfl rfl (by decide) fun C s hlv S => ?_
  case b => obtain ⟨v1, v2, v3, v4, rfl⟩ := len4 h; rfl
  replace S : St C (C.fz, C.n₀) ([("head", li xs), ("kind", .int kind), ("p", .int p), ("turn", .int turn)] : Rho) none s := S
  have z1 := cut_le xs none (some (p % 271))
  have z2 := cut_le xs (some (p % 271 + 1)) none
  have z3 := cut_le xs none (some (kind - 1))
  have z4 := cut_le xs (some kind) none
  have z5 := cut_le xs none (some (14 + p % 257))
  have z6 := cut_le xs (some (15 + p % 257)) none
  unfold bentHF
  refine' x_if S ?ht (fun hb s1 S1 => ?_) (fun hb s1 S1 => ?_)
  case ht => walk_at "ts"
  · rw [if_pos (of_decide_eq_true hb)]
    refine' x_ret S1 ?h (fun v s' h => ?_)
    case h => walk_at "ev"
    exact h
  have hk0 := of_decide_eq_false hb
  rw [if_neg hk0]
  refine x_nil (then_next ?_)
  clear hb
  refine' x_if S1 ?ht (fun hb s1 S1 => ?_) (fun hb s1 S1 => ?_)
  case ht => walk_at "ts"
  · have hk3 := of_decide_eq_true hb
    rw [if_pos hk3]
    refine' x_ret S1 ?h (fun v s' h => ?_)
    case h => walk_at "ev"
    exact h
  rw [if_neg (of_decide_eq_false hb)]
  refine x_nil (then_next ?_)
  refine' x_ret S1 ?h (fun v s' h => ?_)
  case h => walk_at "ev"
  exact h
theorem c_read (T : Top5 W) {l : List Int} (hz : l.length ≤ 1000) : CallE W 1 153 [li l] (optD ((rdGo l [] []).map toksD)) := by
  refine call_of ["stream"] T.f22 (fun doc pm an ct vs h => ?b) rfl (by decide) (by decide) rfl rfl rfl (by decide) fun C s hlv S => ?_
  case b => obtain ⟨v, rfl⟩ := len1 h; rfl
  refine x_new S rfl rfl fun s1 S1 => ?_
  replace S1 : St C (C.fz, C.n₀) ([("stream", li l)] : Rho) (some ("tokens", [])) s1 := S1
  refine' x_assign S1 (ev_ilist evli_nil ?hz) rfl rfl (by rintro p hp; cases hp; dsimp only; decide) fun s2 S2 => ?_
  case hz => walk_at "sz"
  refine x_for S2 (it_list (ev_name rfl rfl rfl)) (fun i ρ' μ' => ∃ (pp : List Int) (out : List T3), ρ' = ([("part", li pp), ("stream", li l)] : Rho) ∧ μ' = some (("tokens" : Str), out.map tokD) ∧ out.length ≤ i ∧ pp.length ≤ 3 ∧ rdGo l [] [] = rdGo (l.drop i) pp out) ⟨[], [], rfl, rfl, by simp, by simp, by simp⟩ rfl (fun _ => rfl) .never (by rintro i ρ' μ' ⟨_, _, _, rfl, _⟩ p hp; cases hp; dsimp only; decide) ?_ ?_
  · rintro i d ρ' μ' H' s' hd ⟨pp, out, rfl, rfl, hol, hpl, hinv⟩ S'
    obtain ⟨n, hq, rfl⟩ := dis_at hd
    have hi : i < l.length := (List.getElem?_eq_some_iff.mp hq).1
    refine' x_if S' ?ht (fun hb s3 S3 => ?_) (fun hb s3 S3 => ?_)
    case ht => walk_at "ts"
    · have hb := of_decide_eq_true hb
      have hp0 : 0 < pp.length := by omega
      rw [rd_cons hq hp0] at hinv
      clear hb
      refine' x_if S3 ?ht (fun hb s4 S4 => ?_) (fun hb s4 S4 => ?_)
      case ht => walk_at "ts"
      · have hb : n < 0 ∨ n > 255 := by simpa using hb
        rw [if_pos hb] at hinv
        refine x_ret S4 ev_none fun v s2 h => then_ret (then_ret (loop_ret (show Fin C _ _ _ from ?_)))
        rw [hinv]
        exact h
      · have hb : ¬ (n < 0 ∨ n > 255) := by simpa using hb
        rw [if_neg hb] at hinv
        refine x_nil (then_next ?_)
        refine' x_assign S4 ?h rfl rfl (by rintro p hp; cases hp; dsimp only; decide) fun s5 S5 => ?_
        case h => walk_at "ev"
        have hpl3 : (pp ++ [n]).length ≤ 4 := by simp; omega
        generalize pp ++ [n] = qq at S5 hinv hpl3
        refine x_nil (then_next ?_)
        refine' x_if S5 ?ht (fun hb s6 S6 => ?_) (fun hb s6 S6 => ?_)
        case ht => walk_at "ts"
        · have hb := of_decide_eq_true hb
          have h4 : qq.length = 4 := by omega
          rw [if_pos h4] at hinv
          clear hb
          refine' x_append S6 ?h rfl rfl rfl rfl rfl ?hz rfl (fun s7 S7 => ?_)
          case h => walk_at "ev"
          case hz => walk_at "sz"
          refine' x_assign S7 (ev_ilist evli_nil ?hz) rfl rfl (by rintro p hp; cases hp; dsimp only; decide) fun s8 S8 => ?_
          case hz => walk_at "sz"
          refine x_nil (then_next (x_nil (loop_next ⟨[], out ++ [(1, qq.getD 1 0 * 256 + qq.getD 2 0, qq.getD 3 0)], rfl, ?_, by simp; omega, by simp, hinv⟩ (S8.weak (by walk_at "wk")))))
          rw [List.map_append]; rfl
        · have hb := of_decide_eq_false hb
          have h4 : ¬ qq.length = 4 := by omega
          rw [if_neg h4] at hinv
          exact x_nil (then_next (x_nil (loop_next ⟨qq, out, rfl, rfl, by omega, by omega, hinv⟩ (S6.weak (by walk_at "wk")))))
    · have hb := of_decide_eq_false hb
      have hp0 : pp = [] := by
        cases pp with
        | nil => rfl
        | cons _ _ => simp at hb
      subst hp0
      rw [rd_nil hq] at hinv
      clear hb
      refine' x_if S3 ?ht (fun hb s4 S4 => ?_) (fun hb s4 S4 => ?_)
      case ht => walk_at "ts"
      · rw [if_pos (of_decide_eq_true hb)] at hinv
        refine' x_append S4 ?h rfl rfl rfl rfl rfl ?hz rfl (fun s5 S5 => ?_)
        case h => walk_at "ev"
        case hz => walk_at "sz"
        refine x_nil (then_next (x_nil (then_next ?_)))
        refine' x_if S5 ?ht (fun hb s6 S6 => ?_) (fun hb s6 S6 => ?_)
        case ht => walk_at "ts"
        · simp at hb
        refine x_nil (then_next (x_nil (loop_next ⟨[], out ++ [(0, n, 0)], rfl, ?_, by simp; omega, by simp, hinv⟩ (S6.weak (by walk_at "wk")))))
        rw [List.map_append]; rfl
      · rw [if_neg (of_decide_eq_false hb)] at hinv
        refine' x_assign S4 ?h rfl rfl (by rintro p hp; cases hp; dsimp only; decide) fun s5 S5 => ?_
        case h => walk_at "ev"
        refine x_nil (then_next (x_nil (then_next ?_)))
        refine' x_if S5 ?ht (fun hb s6 S6 => ?_) (fun hb s6 S6 => ?_)
        case ht => walk_at "ts"
        · simp at hb
        exact x_nil (then_next (x_nil (loop_next ⟨[n], out, rfl, rfl, by omega, by simp, hinv⟩ (S6.weak (by walk_at "wk")))))
  · rintro ρ' μ' s' ⟨pp, out, rfl, rfl, hol, hpl, hinv⟩ S'
    rw [List.length_map, List.drop_length] at hinv
    refine' x_if S' ?ht (fun hb s3 S3 => ?_) (fun hb s3 S3 => ?_)
    case ht => walk_at "ts"
    · have hb := of_decide_eq_true hb
      refine x_ret S3 ev_none fun v s' h => then_ret ?_
      cases pp with
      | nil => simp at hb
      | cons p ps => rw [hinv]; exact h
    · have hb := of_decide_eq_false hb
      cases pp with
      | cons _ _ => simp at hb
      | nil =>
        refine x_nil (then_next (x_freeze S3 fun S3 => ?_))
        refine x_ret S3 (ev_name rfl rfl rfl) fun v s' h => ?_
        rw [hinv]
        exact h
theorem c_stream_agrees (T : Top5 W) {l : List Int} (hz : l.length ≤ 1000) : CallF W 3 158 [li l, optD ((s2t l).map toksD)] (.bool true) := by
  refine call_ofF ["stream", "want"] T.f23 (fun doc pm an ct vs h => ?b) rfl (by decide) (by decide) rfl rfl rfl (by decide) fun C s hlv hA S => ?_
  case b => obtain ⟨v, w, rfl⟩ := len2 h; rfl
  replace S : St C (C.fz, C.n₀) ([("stream", li l), ("want", optD ((s2t l).map toksD))] : Rho) none s := S
  have hrd := c_s2t T hz
  refine' x_assign S ?h rfl rfl (by rintro p hp; cases hp) fun s1 S1 => ?_
  case h => walk_at "ev"
  refine x_assign S1 ev_none rfl rfl (by rintro p hp; cases hp) fun s2 S2 => ?_
  refine x_assign S2 ev_bool rfl rfl (by rintro p hp; cases hp) fun s3 S3 => ?_
  cases hr : s2t l with
  | none =>
    rw [hr] at S3
    refine x_try_exc S3 T.f4 rfl rfl (ev_name rfl rfl rfl) rfl (hrd.2 (by rw [toksR, hr]; rfl)) (by omega) hA rfl rfl rfl rfl fun s5 S5 => ?_
    refine' x_if S5 ?ht (fun hb s6 S6 => ?_) (fun hb s6 S6 => ?_)
    case ht => walk_at "ts"
    · exact absurd rfl (of_decide_eq_true hb)
    refine x_nil (then_next ?_)
    refine' x_if S6 (ts_isNone ?h) (fun hb s7 S7 => ?_) (fun hb s7 S7 => ?_)
    case h => walk_at "ev"
    · refine' x_if S7 ?ht (fun hb s8 S8 => ?_) (fun hb s8 S8 => ?_)
      case ht => walk_at "ts"
      · cases hb
      refine x_nil (then_next ?_)
      exact x_ret S8 ev_bool fun v s' h => then_ret h
    · cases hb
  | some ts =>
    rw [hr] at S3
    have hcl := hrd.1 _ (by rw [toksR, hr]; rfl)
    have hts := t2s_s2t l.length l ts (Nat.le_refl _) hr
    have htl : ts.length ≤ 1000 := by have := t2s_ge ts; rw [hts, List.length_map] at this; omega
    refine x_try_ok S3 (ev_call T.f4 rfl rfl (evl_cons (ev_name rfl rfl rfl) evl_nil rfl) rfl rfl hcl (by omega)) rfl rfl fun s5 S5 => ?_
    refine' x_if S5 ?ht (fun hb s6 S6 => ?_) (fun hb s6 S6 => ?_)
    case ht => walk_at "ts"
    · exact absurd rfl (of_decide_eq_true hb)
    refine x_nil (then_next ?_)
    refine' x_if S6 (ts_isNone ?h) (fun hb s7 S7 => ?_) (fun hb s7 S7 => ?_)
    case h => walk_at "ev"
    · cases hb
    refine x_nil (then_next ?_)
    refine' x_if S7 ?ht (fun hb s7 S7 => ?_) (fun hb s7 S7 => ?_)
    case ht => walk_at "ts"
    · cases hb
    refine x_nil (then_next ?_)
    refine' x_if S7 (ts_same (d := toksD ts) ?h1 ?h2 (kqd_toks ts)) (fun hb s7 S7 => ?_) (fun hb s7 S7 => ?_)
    case h1 => exact ev_name rfl rfl rfl
    case h2 => exact ev_name rfl rfl rfl
    · cases hb
    refine x_nil (then_next ?_)
    have hP := T.tab23
    have S8 := S7.weak (ρ' := ([("got", toksD ts), ("stream", li l)] : Rho)) (by walk_at "wk")
    refine x_for S8 (it_list (ds := ts.map tokD) (ev_name rfl rfl rfl)) (fun i ρ' μ' => ρ' = ([("got", toksD ts), ("stream", li l)] : Rho) ∧ μ' = none) ⟨rfl, rfl⟩ rfl (fun _ => rfl) .never (by rintro i ρ' μ' ⟨_, rfl⟩ p hp; cases hp) ?_ ?_
    · rintro i d ρ' μ' H' s' hd ⟨rfl, rfl⟩ S'
      obtain ⟨t, _, rfl⟩ := List.mem_map.mp (List.mem_of_getElem? hd)
      refine' x_if S' (ts_not (ts_val (ev_all (q := fun _ => true) (it_tuple (ds := [.int t.1, .int t.2.1, .int t.2.2]) (ev_name rfl rfl rfl)) rfl hP T.g_all rfl rfl rfl (by decide) rfl rfl rfl (fun _ => rfl) fun d hd => ?he) (fun _ => rfl))) (fun hb s1 S1 => ?_) (fun hb s1 S1 => ?_)
      case he =>
        obtain ⟨i, rfl⟩ := dis_mem (ns := [t.1, t.2.1, t.2.2]) hd
        exact elt_int T.g_type T.g_int rfl rfl rfl rfl rfl
      · cases hb
      · exact x_nil (then_next (x_nil (loop_next ⟨rfl, rfl⟩ (S1.weak (by walk_at "wk")))))
    · rintro ρ' μ' s' ⟨rfl, rfl⟩ S'
      refine' x_if S' (ts_ineq (ev_call T.f3 rfl rfl (evl_cons (ev_name rfl rfl rfl) evl_nil rfl) rfl rfl (c_t2s T htl) ?clv) (ev_comp (fn := fun k => min k 256) (it_list (ds := dis l) (ev_name rfl rfl rfl)) (fun k _ => eltC_min T.g_min rfl rfl rfl rfl) ?hz rfl (by decide) rfl (by decide) rfl (fun _ => rfl))) (fun hb s1 S1 => ?_) (fun hb s1 S1 => ?_)
      case clv => omega
      case hz => walk_at "sz"
      · exact absurd hts (of_decide_eq_true hb)
      refine x_nil (then_next ?_)
      exact x_ret S1 ev_bool fun v s' h => h
theorem c_head_agrees (T : Top5 W) {l : List Int} (hz : l.length ≤ 1000) : CallF W 3 165 [li l, optD ((readF l).map hdD)] (.bool true) := by
  refine call_ofF ["blob", "want"] T.f24 (fun doc pm an ct vs h => ?b) rfl (by decide) (by decide) rfl rfl rfl (by decide) fun C s hlv hA S => ?_
  case b => obtain ⟨v, w, rfl⟩ := len2 h; rfl
  replace S : St C (C.fz, C.n₀) ([("blob", li l), ("want", optD ((readF l).map hdD))] : Rho) none s := S
  have hrd := c_read_header T hz
  refine' x_assign S ?h rfl rfl (by rintro p hp; cases hp) fun s1 S1 => ?_
  case h => walk_at "ev"
  refine x_assign S1 ev_none rfl rfl (by rintro p hp; cases hp) fun s2 S2 => ?_
  refine x_assign S2 ev_bool rfl rfl (by rintro p hp; cases hp) fun s3 S3 => ?_
  cases hr : readF l with
  | none =>
    rw [hr] at S3
    refine x_try_exc S3 T.f9 rfl rfl (ev_name rfl rfl rfl) rfl (hrd.2 (by rw [hdR, hr]; rfl)) (by omega) hA rfl rfl rfl rfl fun s5 S5 => ?_
    refine' x_if S5 ?ht (fun hb s6 S6 => ?_) (fun hb s6 S6 => ?_)
    case ht => walk_at "ts"
    · exact absurd rfl (of_decide_eq_true hb)
    refine x_nil (then_next ?_)
    refine' x_if S6 (ts_isNone ?h) (fun hb s7 S7 => ?_) (fun hb s7 S7 => ?_)
    case h => walk_at "ev"
    · refine' x_if S7 ?ht (fun hb s8 S8 => ?_) (fun hb s8 S8 => ?_)
      case ht => walk_at "ts"
      · cases hb
      refine x_nil (then_next ?_)
      exact x_ret S8 ev_bool fun v s' h => then_ret h
    · cases hb
  | some h =>
    rw [hr] at S3
    have hcl := hrd.1 _ (by rw [hdR, hr]; rfl)
    refine x_try_ok S3 (ev_call T.f9 rfl rfl (evl_cons (ev_name rfl rfl rfl) evl_nil rfl) rfl rfl hcl (by omega)) rfl rfl fun s5 S5 => ?_
    refine' x_if S5 ?ht (fun hb s6 S6 => ?_) (fun hb s6 S6 => ?_)
    case ht => walk_at "ts"
    · exact absurd rfl (of_decide_eq_true hb)
    refine x_nil (then_next ?_)
    refine' x_if S6 (ts_isNone ?h) (fun hb s7 S7 => ?_) (fun hb s7 S7 => ?_)
    case h => walk_at "ev"
    · cases hb
    refine x_nil (then_next ?_)
    refine' x_if S7 ?ht (fun hb s7 S7 => ?_) (fun hb s7 S7 => ?_)
    case ht => walk_at "ts"
    · cases hb
    refine x_nil (then_next ?_)
    refine' x_if S7 (ts_same (d := hdD h) ?h1 ?h2 (kqd_hd h)) (fun hb s7 S7 => ?_) (fun hb s7 S7 => ?_)
    case h1 => exact ev_name rfl rfl rfl
    case h2 => exact ev_name rfl rfl rfl
    · cases hb
    refine x_nil (then_next ?_)
    have hP := T.tab24
    have S8 := S7.weak (ρ' := ([("got", .tuple [li h.1, .int h.2.1, .int h.2.2.1, .int h.2.2.2])] : Rho)) (by walk_at "wk")
    refine' x_if S8 (ts_not (ts_val (ev_all (q := fun _ => true) (it_list (ds := dis h.1) (ev_tidx (k := 0) (ev_name rfl rfl rfl) ev_int (by decide) (by decide) rfl (fun _ _ => rfl))) rfl hP T.g_all rfl rfl rfl (by decide) rfl rfl rfl (fun _ => rfl) fun d hd => ?he) (fun _ => rfl))) (fun hb s1 S1 => ?_) (fun hb s1 S1 => ?_)
    case he =>
      obtain ⟨i, rfl⟩ := dis_mem hd
      exact elt_int T.g_type T.g_int rfl rfl rfl rfl rfl
    · have e : (dis h.1).all (fun _ => true) = true := by simp
      rw [e] at hb; cases hb
    refine x_nil (then_next ?_)
    refine' x_if S1 (ts_not (ts_val (ev_all (q := fun _ => true) (it_tuple (ds := [.int h.2.1, .int h.2.2.1, .int h.2.2.2]) (ev_tail1 (ev_name rfl rfl rfl) ?hz (fun _ _ => rfl))) rfl hP T.g_all rfl rfl rfl (by decide) rfl rfl rfl (fun _ => rfl) fun d hd => ?he) (fun _ => rfl))) (fun hb s2 S2 => ?_) (fun hb s2 S2 => ?_)
    case hz => walk_at "sz"
    case he =>
      obtain ⟨i, rfl⟩ := dis_mem (ns := [h.2.1, h.2.2.1, h.2.2.2]) hd
      exact elt_int T.g_type T.g_int rfl rfl rfl rfl rfl
    · cases hb
    refine x_nil (then_next ?_)
    exact x_ret S2 ev_bool fun v s' h => h
/-! the plain law of the sums -/
theorem bits_small {a : Int} (h0 : 0 ≤ a) (h1 : a ≤ 1000000) : Builtin.Int.intBits a ≤ 64 := by
  unfold Builtin.Int.intBits
  split
  · omega
  · rename_i h
    have h : a ≠ 0 := by simpa using h
    have : a.natAbs.log2 < 64 := (Nat.log2_lt (by omega)).mpr (by omega)
    omega
theorem eltC_adler {qual : Str} {scope : Scope} {f : Addr} {cdv : Value} {C : Cx W qual scope f cdv} {gs : Scope} {cl : List (Str × Addr)} {ns : List Int} {k : Int} {p1 p2 p3 p4 p5 p6 p7 : Pos} (hn : C.ck.lookup (Str.ofString "n") = some (.int ns.length)) (hd : C.ck.lookup (Str.ofString "data") = some (li ns)) (hcl : ∀ x : Str, x = Str.ofString "n" ∨ x = Str.ofString "data" → cl.lookup x = C.cl.lookup x) (hk : gs.kind = .function)
    (hx : gs.names.lookup (Str.ofString "k") = some .local) (hxn : (relabel gs C.env).names.lookup (Str.ofString "n") = some .cell) (hxd : (relabel gs C.env).names.lookup (Str.ofString "data") = some .cell) (h0 : 0 ≤ k) (h1 : k < ns.length) (hz : ns.length ≤ 1000) :
    EltC C gs cl "k" (.BinOp (.BinOp (.Name "n" p1) .Sub (.Name "k" p2) p3) .Mult (.Subscript (.Name "data" p4) (.Name "k" p5) p6) p7) k (((ns.length : Int) - k) * ns.getD k.toNat 0) := by
  intro Ca s₃ m₃ t E' T hcf hn0 hns hm
  obtain ⟨c1, o1, v1, a1, b1, d1, i1⟩ := C.hc _ _ hn
  obtain ⟨c2, o2, v2, a2, b2, d2, i2⟩ := C.hc _ _ hd
  cases i1
  cases i2 with
  | list hmem ha =>
    have hL := hn0 _ hmem
    obtain ⟨v, hv, iv⟩ := datAll_at (i := k.toNat) (d := .int (ns.getD k.toNat 0)) ha (by
      have : k.toNat < ns.length := by omega
      simp [this])
    obtain ⟨tv, rfl⟩ := datIn_int iv
    refine wpAny_BinOp (wpAny_BinOp (cin_cell ((hcl _ (.inl rfl)).trans a1) (hcf _ b1) d1 hk hxn (by decide) (cin_local hns hm hk hx (by decide) (sub_int ?_))))
    refine Subscript_ (cin_cell ((hcl _ (.inr rfl)).trans a2) (hcf _ b2) d2 hk hxd (by decide) (cin_local hns hm hk hx (by decide) ?_))
    have hIL : s₃.heap.IsList _ _ := ⟨_, hL, rfl, _, rfl⟩
    refine tail_any (s := { s₃ with toks := s₃.toks + 1 }) (PySem.Heap.IsList.typeIs hIL) slot_list_getitem.lookup (wpAny_getItem_list (s := { s₃ with toks := s₃.toks + 1 }) hIL h0 (by omega) (by simpa using hv) ?_) rfl
    exact mul_int ⟨⟨_, rfl⟩, ⟨_, _, rfl, fun _ _ e => e⟩⟩ (IntMulOk.of_left (bits_small (by omega) (by omega)))

theorem c_adler (T : Top5 W) {ns : List Int} (hz : ns.length ≤ 1000) : CallE W 1 132 [li ns] (.tuple [.int (adA ns).1, .int (adA ns).2]) := by
  intro A h₀ L fr fz m mu nw s vs Q E room hfr R hvs hQ
  obtain ⟨v, rfl, hv⟩ := datAll1 hvs
  refine call_genC (lv := 0) ["data"] T.f19 (n1 := "data") (n2 := "n") (fun doc pm an ct vs h => ?b) (fun k => rfl) (by decide) (by decide) rfl rfl rfl room hfr R hvs fun C s' o1 o2 hlv K hcl hcf hck h1 h2 RC => ?_
  case b => obtain ⟨v, rfl⟩ := len1 h; rfl
  have h1 : o1.data = .cell (some v) := h1
  have h2 : o2.data = .cell none := h2
  have hv' : DatIn C.n₀ v (li ns) := K.n₀ ▸ hv
  have hc1 : ∀ x d, List.lookup x [(Str.ofString "data", li ns)] = some d → ∃ c o w, C.cl.lookup x = some c ∧ (c, o) ∈ [(C.L + 1, o1)] ∧ o.data = .cell (some w) ∧ DatIn C.n₀ w d := fun x d hx => by
    by_cases q : x = Str.ofString "data"
    · subst q
      simp at hx
      subst hx
      exact ⟨C.L + 1, o1, v, by rw [hcl]; rfl, .head _, h1, hv'⟩
    · rw [List.lookup_cons, beq_eq_false_iff_ne.mpr q] at hx
      cases hx
  let C1 : Cx W "_law_adler" (scopeOf (d5 19)) 132 (.ref 131) := { C with cf := [(C.L + 1, o1)], ck := [(Str.ofString "data", li ns)], hc := hc1 }
  have S1 : St C1 ([] ++ (C.L + 2, o2) :: ((C.L + 1, o1) :: C.fz), C.n₀) ([] : Rho) none s' :=
    ⟨⟨List.Sublist.trans (List.sublist_cons_self _ _) (List.sublist_cons_self _ _), Sub.refl _⟩, _, [], C.n₀, K.n₀ ▸ RC, ⟨fun p hp => (by cases List.mem_singleton.mp hp; exact .tail _ (.head _)), Sub.refl _, fun x d hx => by cases hx⟩, rfl, Sub.refl _⟩
  have main : wpAny W.M C1.A (execs (bodyOf (d5 19)) C1.env) (Fin C1 (.tuple [.int (adA ns).1, .int (adA ns).2])) (fun _ _ => False) s' := by
    refine x_cell S1 (List.sublist_cons_self _ _) (fun p hp => (by cases List.mem_singleton.mp hp; exact .head _)) (ev_ilen (ev_cell (d := li ns) rfl rfl rfl) T.g_len rfl (by walk_at "sz") rfl) rfl (by show List.lookup _ C.cl = _; rw [hcl]; rfl) h2 rfl fun C2 o' n' s2 e1 e2 e3 e4 e5 e6 e7 S2 => ?_
    have cn : C2.ck.lookup (Str.ofString "n") = some (.int ns.length) := by rw [e5]; rfl
    have cd : C2.ck.lookup (Str.ofString "data") = some (li ns) := by rw [e5]; rfl
    have hcl2 : C2.cl = [(Str.ofString "n", C.L + 2), (Str.ofString "data", C.L + 1)] := e4.trans hcl
    refine' x_assign S2 (ev_mod (ev_add ev_int (ev_sum (ev_cell cd rfl rfl) T.g_sum rfl rfl)) ev_int ?hp) rfl rfl (by rintro p hp; cases hp) fun s3 S3 => ?_
    case hp => omega
    have eit : ((List.range ((ns.length : Int)).toNat).map fun i : Nat => Dat.int (i : Int)) = dis (upTo ns.length) := by
      show _ = (((List.range ns.length).map fun i : Nat => (i : Int)).map Dat.int)
      rw [List.map_map]; rfl
    have hit : ∀ (ρ : Rho) (px p1 pos : Pos), IterE C2 ρ (.Call (.Name "range" px) [.Name "n" p1] [] pos) (dis (upTo ns.length)) := fun ρ px p1 pos => eit ▸ it_range (ev_cell cn rfl rfl) T.g_range rfl (by omega) (by omega) rfl
    refine' x_assign S3 (ev_mod (ev_add (ev_cell cn rfl rfl) (ev_sum (ev_comp (cl := [(Str.ofString "n", C.L + 2), (Str.ofString "data", C.L + 1)]) (fn := fun k => ((ns.length : Int) - k) * ns.getD k.toNat 0) (hit _ _ _ _) (fun k hk => ?he) ?hz ?hclos (by decide) rfl (by decide) rfl (fun _ => rfl)) T.g_sum rfl rfl)) ev_int ?hp) rfl rfl (by rintro p hp; cases hp) fun s4 S4 => ?_
    case hz => simp only [List.length_map, List.length_range, sizeLine_eq]; omega
    case hp => omega
    case hclos => show closureFor _ (envX _ _ _ _ _ C2.cl) = _; rw [hcl2]; rfl
    case he =>
      obtain ⟨i, hi, rfl⟩ := List.mem_map.mp hk
      have hi := List.mem_range.mp hi
      exact eltC_adler cn cd (fun x hx => by rw [hcl2]) rfl rfl rfl rfl (by omega) (by omega) hz
    refine' x_ret S4 ?h (fun v s' h => ?_)
    case h => walk_at "ev"
    have ea := adler ns
    have : (Dat.tuple [.int ((1 + ns.sum) % 65521), .int (((ns.length : Int) + ((upTo ns.length).map fun k => ((ns.length : Int) - k) * ns.getD k.toNat 0).sum) % 65521)]) = .tuple [.int (adA ns).1, .int (adA ns).2] := by rw [ea]; rfl
    rw [this] at h
    exact h
  refine wpAny_mono (E := fun _ _ => False) main (fun fl s'' hf => ?_) (fun _ _ x => x.elim)
  obtain ⟨fz', m', mu', nw', hfz, R', hs', hd'⟩ := hf
  exact hQ _ s'' nw' (K.back hfz R') (K.n₀ ▸ hs') hd'
theorem ev_as {qual : Str} {scope : Scope} {f : Addr} {cdv : Value} {C : Cx W qual scope f cdv} {ρ : Rho} {e : Expr} {d d' : Dat} (h : EvE C ρ e d) (q : d = d') : EvE C ρ e d' := q ▸ h
local macro_rules | `(tactic| walk_at "evc") => `(tactic| (rename Top5 _ => hTop; first
  | (refine' ev_call hTop.f15 rfl rfl ?cl rfl rfl (c_token hTop _ _ _) ?clv; (case cl => walk_at "evl"); (case clv => omega))
  | (refine' ev_call hTop.f16 rfl rfl ?cl rfl rfl (c_wire hTop _ _ _) ?clv; (case cl => walk_at "evl"); (case clv => omega))
  | (refine' ev_call hTop.f14 rfl rfl ?cl rfl rfl (c_odd hTop _ _) ?clv; (case cl => walk_at "evl"); (case clv => omega))
  | (refine' ev_call hTop.f7 rfl rfl ?cl rfl rfl (c_checksum hTop _) ?clv; (case cl => walk_at "evl"); (case clv => omega))
  | fail "no"))
set_option maxHeartbeats 8000000 in
theorem c_law5 (T : Top5 W) {sc : List Int} (hz : sc.length ≤ 63) (C : Cx W "law" (scopeOf (d5 25)) 170 (.ref 169)) (s : Shared) (o1 o2 : Obj) (hlv : C.lv = 3) (hA : C.A.frames ≠ none) (hcl : C.cl = [(Str.ofString "base", C.L + 2), (Str.ofString "step", C.L + 1)]) (hcf : C.cf = []) (hck : C.ck = []) (hfz : C.fz = [])
    (ho1 : o1.data = .cell none) (ho2 : o2.data = .cell none) (S : St C ([(C.L + 2, o2)] ++ (C.L + 1, o1) :: [], C.n₀) ([("script", li sc)] : Rho) none s) :
    wpAny W.M C.A (execs (bodyOf (d5 25)) C.env) (Fin C (.bool true)) (fun _ _ => False) s := by
  have hPt := T.tab25
  refine' x_if S ?ht (fun hb s1 S1 => ?_) (fun hb s1 S1 => ?_)
  case ht => walk_at "ts"
  · exact x_ret S1 ev_bool fun v s' h => then_ret h
  have hb := of_decide_eq_false hb
  have hl : 24 ≤ sc.length := by omega
  clear hb
  refine x_nil (then_next ?_)
  refine' x_assign S1 ?h rfl rfl (by rintro p hp; cases hp) fun s2 S2 => ?_
  case h => walk_at "ev"
  -- tokens
  generalize hm : sc.getD (12 : Int).toNat 0 % 5 = many at S2
  have hm0 : 0 ≤ many := by omega
  refine' x_assign (d := toksD (([tokF (sc.getD (0 : Int).toNat 0) (sc.getD (1 : Int).toNat 0) (sc.getD (2 : Int).toNat 0), tokF (sc.getD (3 : Int).toNat 0) (sc.getD (4 : Int).toNat 0) (sc.getD (5 : Int).toNat 0), tokF (sc.getD (6 : Int).toNat 0) (sc.getD (7 : Int).toNat 0) (sc.getD (8 : Int).toNat 0), tokF (sc.getD (9 : Int).toNat 0) (sc.getD (10 : Int).toNat 0) (sc.getD (11 : Int).toNat 0)] : List T3).take many.toNat)) S2
    (ev_as (ev_cutT (y := some many) (ds := [tokD (tokF (sc.getD (0 : Int).toNat 0) (sc.getD (1 : Int).toNat 0) (sc.getD (2 : Int).toNat 0)), tokD (tokF (sc.getD (3 : Int).toNat 0) (sc.getD (4 : Int).toNat 0) (sc.getD (5 : Int).toNat 0)), tokD (tokF (sc.getD (6 : Int).toNat 0) (sc.getD (7 : Int).toNat 0) (sc.getD (8 : Int).toNat 0)), tokD (tokF (sc.getD (9 : Int).toNat 0) (sc.getD (10 : Int).toNat 0) (sc.getD (11 : Int).toNat 0))]) (ev_list ?ll ?lz) evp_none (evp_some ?pm) (by intro a ha; cases ha) (by intro b hb; cases hb; exact hm0) ?hz) ?q) rfl rfl (by rintro p hp; cases hp) fun s3 S3 => ?_
  case ll => walk_at "evl"
  case lz => walk_at "sz"
  case pm => walk_at "ev"
  case hz => walk_at "sz"
  case q =>
    simp only [cut]
    show Dat.list _ = Dat.list _
    rw [List.map_take]
    rfl
  refine' x_assign (d := .list ((([tokF (sc.getD (0 : Int).toNat 0) (sc.getD (1 : Int).toNat 0) (sc.getD (2 : Int).toNat 0), tokF (sc.getD (3 : Int).toNat 0) (sc.getD (4 : Int).toNat 0) (sc.getD (5 : Int).toNat 0), tokF (sc.getD (6 : Int).toNat 0) (sc.getD (7 : Int).toNat 0) (sc.getD (8 : Int).toNat 0), tokF (sc.getD (9 : Int).toNat 0) (sc.getD (10 : Int).toNat 0) (sc.getD (11 : Int).toNat 0)] : List T3).take many.toNat).map fun t => li (t2s1 t))) S3
    (ev_as (ev_cutT (y := some many) (ds := [li (wireF (sc.getD (0 : Int).toNat 0) (sc.getD (1 : Int).toNat 0) (sc.getD (2 : Int).toNat 0)), li (wireF (sc.getD (3 : Int).toNat 0) (sc.getD (4 : Int).toNat 0) (sc.getD (5 : Int).toNat 0)), li (wireF (sc.getD (6 : Int).toNat 0) (sc.getD (7 : Int).toNat 0) (sc.getD (8 : Int).toNat 0)), li (wireF (sc.getD (9 : Int).toNat 0) (sc.getD (10 : Int).toNat 0) (sc.getD (11 : Int).toNat 0))]) (ev_list ?ll ?lz) evp_none (evp_some ?pm) (by intro a ha; cases ha) (by intro b hb; cases hb; exact hm0) ?hz) ?q) rfl rfl (by rintro p hp; cases hp) fun s4 S4 => ?_
  case ll => walk_at "evl"
  case lz => walk_at "sz"
  case pm => walk_at "ev"
  case hz => walk_at "sz"
  case q =>
    simp only [cut]
    rw [List.map_take]
    simp only [List.map_cons, List.map_nil, wire_t2s]
  have hok : ∀ t ∈ ([tokF (sc.getD (0 : Int).toNat 0) (sc.getD (1 : Int).toNat 0) (sc.getD (2 : Int).toNat 0), tokF (sc.getD (3 : Int).toNat 0) (sc.getD (4 : Int).toNat 0) (sc.getD (5 : Int).toNat 0), tokF (sc.getD (6 : Int).toNat 0) (sc.getD (7 : Int).toNat 0) (sc.getD (8 : Int).toNat 0), tokF (sc.getD (9 : Int).toNat 0) (sc.getD (10 : Int).toNat 0) (sc.getD (11 : Int).toNat 0)] : List T3).take many.toNat, okT t := by
    intro t ht
    have ht := List.mem_of_mem_take ht
    simp only [List.mem_cons, List.not_mem_nil, or_false] at ht
    rcases ht with rfl | rfl | rfl | rfl <;> exact tok_ok _ _ _
  have htl : (([tokF (sc.getD (0 : Int).toNat 0) (sc.getD (1 : Int).toNat 0) (sc.getD (2 : Int).toNat 0), tokF (sc.getD (3 : Int).toNat 0) (sc.getD (4 : Int).toNat 0) (sc.getD (5 : Int).toNat 0), tokF (sc.getD (6 : Int).toNat 0) (sc.getD (7 : Int).toNat 0) (sc.getD (8 : Int).toNat 0), tokF (sc.getD (9 : Int).toNat 0) (sc.getD (10 : Int).toNat 0) (sc.getD (11 : Int).toNat 0)] : List T3).take many.toNat).length ≤ 4 := by
    rw [List.length_take]; exact Nat.min_le_right _ _
  generalize ([tokF (sc.getD (0 : Int).toNat 0) (sc.getD (1 : Int).toNat 0) (sc.getD (2 : Int).toNat 0), tokF (sc.getD (3 : Int).toNat 0) (sc.getD (4 : Int).toNat 0) (sc.getD (5 : Int).toNat 0), tokF (sc.getD (6 : Int).toNat 0) (sc.getD (7 : Int).toNat 0) (sc.getD (8 : Int).toNat 0), tokF (sc.getD (9 : Int).toNat 0) (sc.getD (10 : Int).toNat 0) (sc.getD (11 : Int).toNat 0)] : List T3).take many.toNat = ts at S4 hok htl
  have S5 := S4.weak (ρ' := ([("parts", .list (ts.map fun t => li (t2s1 t))), ("tokens", toksD ts), ("script", li sc)] : Rho)) (by walk_at "wk")
  clear S1 S2 S3 S4
  refine' x_assign S5 (ev_ilist evli_nil ?hz) rfl rfl (by rintro p hp; cases hp) fun s6 S6 => ?_
  case hz => walk_at "sz"
  refine x_for S6 (it_list (ds := ts.map fun t => li (t2s1 t)) (ev_name rfl rfl rfl)) (fun i ρ' μ' => ρ' = ([("stream", li (t2s (ts.take i))), ("tokens", toksD ts), ("script", li sc)] : Rho) ∧ μ' = none ∨ (i = 0 ∧ ρ' = ([("stream", li []), ("parts", .list (ts.map fun t => li (t2s1 t))), ("tokens", toksD ts), ("script", li sc)] : Rho) ∧ μ' = none)) (.inr ⟨rfl, rfl, rfl⟩) rfl (fun _ => rfl) .never (by rintro i ρ' μ' (⟨_, rfl⟩ | ⟨_, _, rfl⟩) p hp <;> cases hp) ?_ ?_
  · intro i d ρ' μ' H' s' hd hJ S'
    have hJ' : μ' = none ∧ St C H' ([("part", d), ("stream", li (t2s (ts.take i))), ("tokens", toksD ts), ("script", li sc)] : Rho) none s' := by
      rcases hJ with ⟨rfl, rfl⟩ | ⟨rfl, rfl, rfl⟩
      · exact ⟨rfl, S'⟩
      · exact ⟨rfl, S'.weak (by walk_at "wk")⟩
    obtain ⟨rfl, S2⟩ := hJ'
    clear S' hJ
    rw [List.getElem?_map] at hd
    cases hq : ts[i]? with
    | none => rw [hq] at hd; cases hd
    | some t =>
      rw [hq] at hd
      cases hd
      have S' : St C H' ([("part", li (t2s1 t)), ("stream", li (t2s (ts.take i))), ("tokens", toksD ts), ("script", li sc)] : Rho) none s' := S2
      have l1 := t2s_le (ts.take i)
      have l2 : (ts.take i).length ≤ 4 := by rw [List.length_take]; omega
      have l3 : (t2s1 t).length ≤ 4 := by unfold t2s1; split <;> simp
      refine' x_assign S' ?h rfl rfl (by rintro p hp; cases hp) fun s7 S7 => x_nil (loop_next (.inl ⟨rfl, rfl⟩) (S7.weak ?w))
      case h => walk_at "ev"
      have e : t2s (ts.take (i + 1)) = t2s (ts.take i) ++ t2s1 t := by rw [List.take_add_one, hq, ← t2s_snoc]; rfl
      rw [e]
      walk_at "wk"
  · intro ρ' μ' s' hJ S'
    have hS : μ' = none ∧ St C ([(C.L + 2, o2)] ++ (C.L + 1, o1) :: [], C.n₀) ([("stream", li (t2s ts)), ("tokens", toksD ts), ("script", li sc)] : Rho) none s' := by
      rw [List.length_map] at hJ
      rcases hJ with ⟨rfl, rfl⟩ | ⟨h0, rfl, rfl⟩
      · rw [List.take_length] at S'; exact ⟨rfl, S'⟩
      · have : ts = [] := List.length_eq_zero_iff.mp h0
        subst this
        exact ⟨rfl, S'.weak (by walk_at "wk")⟩
    obtain ⟨rfl, S7⟩ := hS
    have hst := s2t_t2s ts hok
    have l1 := t2s_le ts
    have hca := c_stream_agrees T (l := t2s ts) (by omega)
    rw [hst] at hca
    generalize hstr : t2s ts = st at S7 l1 hca
    refine' x_assign S7 (ev_copy (ds := ts.map tokD) ?h T.g_list rfl ?hz rfl) rfl rfl (by rintro p hp; cases hp) fun s1 S1 => ?_
    case h => walk_at "ev"
    case hz => walk_at "sz"
    refine' x_assign (d := li st) S1 (hstr ▸ ev_call T.f3 rfl rfl ?cl rfl rfl (c_t2s T (ts := ts) ?hz) ?clv) rfl rfl (by rintro p hp; cases hp) fun s2 S2 => ?_
    case cl => walk_at "evl"
    case hz => omega
    case clv => omega
    refine' x_if S2 ?ht (fun hb s4 S4 => ?_) (fun hb s4 S4 => ?_)
    case ht => walk_at "ts"
    · exact absurd rfl (of_decide_eq_true hb)
    refine x_nil (then_next ?_)
    clear hb
    refine' x_if S4 (ts_not (ts_val (ev_all (q := fun _ => true) (it_list (ds := dis st) (ev_name rfl rfl rfl)) rfl hPt T.g_all rfl rfl rfl (by decide) rfl rfl rfl (fun _ => rfl) fun d hd => ?he) (fun _ => rfl))) (fun hb s5 S5 => ?_) (fun hb s5 S5 => ?_)
    case he =>
      obtain ⟨i, rfl⟩ := dis_mem hd
      exact elt_int T.g_type T.g_int rfl rfl rfl rfl rfl
    · have e : (dis st).all (fun _ => true) = true := by simp
      rw [e] at hb; cases hb
    refine x_nil (then_next ?_)
    refine' x_if S5 (ts_same (d := toksD ts) ?h1 ?h2 (kqd_toks ts)) (fun hb s6 S6 => ?_) (fun hb s6 S6 => ?_)
    case h1 => exact ev_name rfl rfl rfl
    case h2 => exact ev_name rfl rfl rfl
    · cases hb
    refine x_nil (then_next ?_)
    refine' x_if S6 (ts_not (ts_val (ev_callF T.f23 rfl rfl (evl_cons (d := li st) (ev_name rfl rfl rfl) (evl_cons (d := toksD ts) (ev_name rfl rfl rfl) evl_nil rfl) rfl) rfl rfl hca ?clv hA) (fun _ => rfl))) (fun hb s7 S7 => ?_) (fun hb s7 S7 => ?_)
    case clv => omega
    · cases hb
    refine x_nil (then_next ?_)
    have S8 := S7.weak (ρ' := ([("stream", li st), ("script", li sc)] : Rho)) (by walk_at "wk")
    clear S1 S2 S4 S5 S6 S7
    -- odd, bent
    refine' x_assign S8 ?h rfl rfl (by rintro p hp; cases hp) fun s1 S1 => ?_
    case h => walk_at "ev"
    generalize oddF (sc.getD (15 : Int).toNat 0) (sc.getD (16 : Int).toNat 0) = odd at S1
    have hat : 0 ≤ sc.getD (14 : Int).toNat 0 % ((st.length : Int) + 1) := Int.emod_nonneg _ (by omega)
    refine' x_assign S1 (ev_call T.f20 rfl rfl ?cl rfl rfl (c_bent T (xs := st) _ _ ?bz hat) ?clv) rfl rfl (by rintro p hp; cases hp) fun s2 S2 => ?_
    case cl =>
      refine' evl_cons ?c1 (evl_cons ?c2 (evl_cons ?c3 (evl_cons ?c4 evl_nil rfl) rfl) rfl) rfl
      case c1 => walk_at "ev"
      case c2 => walk_at "ev"
      case c3 => walk_at "ev"
      case c4 => walk_at "ev"
    case bz => omega
    case clv => omega
    have hB2 := bent_len st (sc.getD (13 : Int).toNat 0 % 5) (sc.getD (14 : Int).toNat 0 % ((st.length : Int) + 1)) odd
    generalize bentF st _ _ _ = bent at S2 hB2
    have hcb := c_stream_agrees T (l := bent) (by omega)
    have hrb := c_read T (l := bent) (by omega)
    change CallE W 1 153 [li bent] (optD ((s2t bent).map toksD)) at hrb
    refine' x_if S2 (ts_not (ts_val (ev_callF T.f23 rfl rfl (evl_cons (d := li bent) (ev_name rfl rfl rfl) (evl_cons (ev_call T.f22 rfl rfl (evl_cons (d := li bent) (ev_name rfl rfl rfl) evl_nil rfl) rfl rfl hrb ?clw) evl_nil rfl) rfl) rfl rfl hcb ?clv hA) (fun _ => rfl))) (fun hb s3 S3 => ?_) (fun hb s3 S3 => ?_)
    case clv => omega
    case clw => omega
    · cases hb
    refine x_nil (then_next ?_)
    have S4 := S3.weak (ρ' := ([("odd", .int odd), ("script", li sc)] : Rho)) (by walk_at "wk")
    clear S1 S2 S3 S8
    refine' x_assign S4 ?h rfl rfl (by rintro p hp; cases hp) fun s5 S5 => ?_
    case h => walk_at "ev"
    rw [ans_due _ _ odd (byte5_ok _) (byte5_ok _)] at S5
    refine' x_assign S5 (ev_chain ?h1 ?h2 ?h3 rfl) rfl rfl (by rintro p hp; cases hp) fun s6 S6 => ?_
    case h1 => walk_at "ev"
    case h2 => walk_at "ev"
    case h3 => walk_at "ev"
    refine' x_if S6 (ts_typeNot (T := "bool") ?h T.g_type rfl T.g_bool rfl PyProof.Rows.Boot.«bool» (by decide) rfl rfl ?hT) (fun hb s7 S7 => ?_) (fun hb s7 S7 => ?_)
    case h => walk_at "ev"
    case hT => rfl
    · cases hb
    refine x_nil (then_next ?_)
    refine' x_if S7 (ts_bne ?h1 ?h2) (fun hb s8 S8 => ?_) (fun hb s8 S8 => ?_)
    case h1 => walk_at "ev"
    case h2 => walk_at "ev"
    · simp at hb
    refine x_nil (then_next ?_)
    clear hb
    have S9 := S8.weak (ρ' := ([("script", li sc)] : Rho)) (by walk_at "wk")
    clear S4 S5 S6 S7 S8
    -- the sums
    refine' x_assign S9 ?h rfl rfl (by rintro p hp; cases hp) fun s1 S1 => ?_
    case h => walk_at "ev"
    have hdl : ([65519] ++ sc).length ≤ 1000 := by simp; omega
    generalize hdat : [65519] ++ sc = dt at S1 hdl
    have hrg := ad_rng dt
    refine' x_unpack2 S1 (ev_call T.f19 rfl rfl ?cl rfl rfl (c_adler T hdl) ?clv) rfl rfl rfl rfl fun s2 S2 => ?_
    case cl => walk_at "evl"
    case clv => omega
    refine' x_assign S2 ?h rfl rfl (by rintro p hp; cases hp) fun s3 S3 => ?_
    case h => walk_at "ev"
    generalize (adA dt).1 = A at S3 hrg
    generalize (adA dt).2 = B at S3 hrg
    refine' x_if S3 (ts_typeNot (T := "int") ?h T.g_type rfl T.g_int rfl PyProof.Rows.Boot.«int» (by decide) rfl rfl ?hT) (fun hb s4 S4 => ?_) (fun hb s4 S4 => ?_)
    case h => walk_at "ev"
    case hT => rfl
    · cases hb
    refine x_nil (then_next ?_)
    refine' x_if S4 (ts_ne ?h1 ?h2) (fun hb s5 S5 => ?_) (fun hb s5 S5 => ?_)
    case h1 => walk_at "ev"
    case h2 => walk_at "ev"
    · exact absurd rfl (of_decide_eq_true hb)
    refine x_nil (then_next ?_)
    clear hb
    refine' x_if S5 ?ht (fun hb s6 S6 => ?_) (fun hb s6 S6 => ?_)
    case ht => walk_at "ts"
    · exact absurd hdat.symm (of_decide_eq_true hb)
    refine x_nil (then_next ?_)
    clear hb
    have S7 := S6.weak (ρ' := ([("check", .int (B * 65536 + A)), ("a", .int A), ("b", .int B), ("script", li sc)] : Rho)) (by walk_at "wk")
    clear S1 S2 S3 S4 S5 S6 S9
    refine' x_assign (d := li [byte5 (sc.getD (16 : Int).toNat 0), byte5 (sc.getD (17 : Int).toNat 0), byte5 (sc.getD (16 : Int).toNat 0 + sc.getD (17 : Int).toNat 0), byte5 (sc.getD (16 : Int).toNat 0 - sc.getD (17 : Int).toNat 0)]) S7 (ev_call T.f17 rfl rfl ?cl rfl rfl (c_lfour T _ _) ?clv) rfl rfl (by rintro p hp; cases hp) fun s1 S1 => ?_
    case cl => walk_at "evl"
    case clv => omega
    have k1 := byte5_ok (sc.getD (16 : Int).toNat 0)
    have k2 := byte5_ok (sc.getD (17 : Int).toNat 0)
    have k3 := byte5_ok (sc.getD (16 : Int).toNat 0 + sc.getD (17 : Int).toNat 0)
    have k4 := byte5_ok (sc.getD (16 : Int).toNat 0 - sc.getD (17 : Int).toNat 0)
    generalize byte5 (sc.getD (16 : Int).toNat 0) = p1 at S1 k1
    generalize byte5 (sc.getD (17 : Int).toNat 0) = p2 at S1 k2
    generalize byte5 (sc.getD (16 : Int).toNat 0 + sc.getD (17 : Int).toNat 0) = p3 at S1 k3
    generalize byte5 (sc.getD (16 : Int).toNat 0 - sc.getD (17 : Int).toNat 0) = p4 at S1 k4
    refine' x_assign (d := li [byte5 (sc.getD (18 : Int).toNat 0), byte5 (sc.getD (19 : Int).toNat 0), byte5 (sc.getD (18 : Int).toNat 0 + sc.getD (19 : Int).toNat 0), byte5 (sc.getD (18 : Int).toNat 0 - sc.getD (19 : Int).toNat 0)]) S1 (ev_call T.f17 rfl rfl ?cl rfl rfl (c_lfour T _ _) ?clv) rfl rfl (by rintro p hp; cases hp) fun s2 S2 => ?_
    case cl => walk_at "evl"
    case clv => omega
    have l1' := byte5_ok (sc.getD (18 : Int).toNat 0)
    have l2' := byte5_ok (sc.getD (19 : Int).toNat 0)
    have l3' := byte5_ok (sc.getD (18 : Int).toNat 0 + sc.getD (19 : Int).toNat 0)
    have l4' := byte5_ok (sc.getD (18 : Int).toNat 0 - sc.getD (19 : Int).toNat 0)
    generalize byte5 (sc.getD (18 : Int).toNat 0) = q1 at S2 l1'
    generalize byte5 (sc.getD (19 : Int).toNat 0) = q2 at S2 l2'
    generalize byte5 (sc.getD (18 : Int).toNat 0 + sc.getD (19 : Int).toNat 0) = q3 at S2 l3'
    generalize byte5 (sc.getD (18 : Int).toNat 0 - sc.getD (19 : Int).toNat 0) = q4 at S2 l4'
    refine' x_assign S2 ?h rfl rfl (by rintro p hp; cases hp) fun s3 S3 => ?_
    case h => walk_at "ev"
    refine' x_assign S3 ?h rfl rfl (by rintro p hp; cases hp) fun s4 S4 => ?_
    case h => walk_at "ev"
    refine' x_assign S4 ?h rfl rfl (by rintro p hp; cases hp) fun s5 S5 => ?_
    case h => walk_at "ev"
    refine' x_assign S5 ?h rfl rfl (by rintro p hp; cases hp) fun s6 S6 => ?_
    case h => walk_at "ev"
    rw [four_num k1 k2 k3 k4] at S6
    refine' x_if S6 ?ht (fun hb s7 S7 => ?_) (fun hb s7 S7 => ?_)
    case ht => walk_at "ts"
    · exact absurd rfl (of_decide_eq_true hb)
    refine x_nil (then_next ?_)
    clear hb
    refine' x_if S7 (ts_not (ts_val (ev_all (q := fun _ => true) (it_list (ds := dis [p1, p2, p3, p4]) (ev_name rfl rfl rfl)) rfl hPt T.g_all rfl rfl rfl (by decide) rfl rfl rfl (fun _ => rfl) fun d hd => ?he) (fun _ => rfl))) (fun hb s8 S8 => ?_) (fun hb s8 S8 => ?_)
    case he =>
      obtain ⟨i, rfl⟩ := dis_mem hd
      exact elt_int T.g_type T.g_int rfl rfl rfl rfl rfl
    · cases hb
    refine x_nil (then_next ?_)
    refine' x_if S8 (ts_ne (ev_call T.f6 rfl rfl (evl_cons (d := li [q1, q2, q3, q4]) ?cl evl_nil rfl) rfl rfl (c_from_four T rfl) ?clv) ?h2) (fun hb s9 S9 => ?_) (fun hb s9 S9 => ?_)
    case cl => walk_at "ev"
    case clv => omega
    case h2 => walk_at "ev"
    · exact absurd rfl (of_decide_eq_true hb)
    refine x_nil (then_next ?_)
    clear hb
    have S10 := S9.weak (ρ' := ([("count", .int (numF [p1, p2, p3, p4])), ("size", .int (numF [q1, q2, q3, q4])), ("check", .int (B * 65536 + A)), ("first", li [p1, p2, p3, p4]), ("second", li [q1, q2, q3, q4]), ("third", li [B / 256, B % 256, A / 256, A % 256]), ("script", li sc)] : Rho)) (by walk_at "wk")
    clear S1 S2 S3 S4 S5 S6 S7 S8 S9
    -- the cells
    refine' x_cell S10 ?hsub ?hcf0 ?h rfl ?hc0 ho1 rfl (fun C' o' n' s1 e1 e2 e3 e4 e5 e6 e7 S1 => ?_)
    case hsub => rw [hfz]; exact List.nil_sublist _
    case hcf0 => rw [hcf]; exact List.forall_mem_nil _
    case h => walk_at "ev"
    case hc0 => rw [hcl]; rfl
    generalize sc.getD (20 : Int).toNat 0 % 65 = stp at e5
    have hA1 : C'.A.frames ≠ none := e2 ▸ hA
    have hlv1 : C'.lv = 3 := e1.trans hlv
    refine' x_cell (pre := []) (post := [(C.L + 1, o')]) S1 ?hsub ?hcf0 ?h rfl ?hc0 ho2 rfl (fun C2 o2' n2' s2 g1 g2 g3 g4 g5 g6 g7 S2 => ?_)
    case hsub => rw [e6, hfz]; exact List.nil_sublist _
    case hcf0 => rw [e7, hcf]; intro p hp; cases List.mem_singleton.mp hp; exact .head _
    case h => walk_at "ev"
    case hc0 => rw [e4, hcl]; rfl
    generalize sc.getD (21 : Int).toNat 0 % 65 = bse at g5
    have hA2 : C2.A.frames ≠ none := g2 ▸ hA1
    have hlv2 : C2.lv = 3 := g1.trans hlv1
    have hcl2 : C2.cl = [(Str.ofString "base", C.L + 2), (Str.ofString "step", C.L + 1)] := g4.trans (e4.trans hcl)
    have cs : C2.ck.lookup (Str.ofString "step") = some (.int stp) := by rw [g5, e5]; rfl
    have cb : C2.ck.lookup (Str.ofString "base") = some (.int bse) := by rw [g5]; rfl
    clear S S1 S10
    have eit : ((List.range ((257 : Int)).toNat).map fun i : Nat => Dat.int (i : Int)) = dis (upTo 257) := by
      show _ = (((List.range 257).map fun i : Nat => (i : Int)).map Dat.int)
      rw [List.map_map]; rfl
    have hit : ∀ (ρ : Rho) (px q : Pos) (k : Nat) (pos : Pos), IterE C2 ρ (.Call (.Name "range" px) [.Constant (.int 257) k q] [] pos) (dis (upTo 257)) := fun ρ px q k pos => eit ▸ it_range ev_int T.g_range rfl (by decide) (by decide) rfl
    refine' x_comp (cl := [(Str.ofString "step", C.L + 1), (Str.ofString "base", C.L + 2)]) (fn := fun k => (k * stp + bse) % 65) S2 (hit _ _ _ _ _) (fun k hk => ?he) ?hz rfl ?hclos (by decide) rfl (by decide) rfl rfl (fun _ => rfl) fun s3 S3 => ?_
    case hz => simp only [List.length_map, List.length_range, sizeLine_eq]; decide
    case hclos => show closureFor _ (envX _ _ _ _ _ C2.cl) = _; rw [hcl2]; rfl
    case he =>
      obtain ⟨i, hi, rfl⟩ := List.mem_map.mp hk
      have hi := List.mem_range.mp hi
      exact eltC_lin cs cb (by rw [hcl2]; rfl) (by rw [hcl2]; rfl) rfl rfl rfl rfl rfl rfl rfl (IntMulOk.of_left (bits_small (by omega) (by omega))) (by decide)
    have hL := lens_len stp bse
    have hle := lens_le stp bse
    replace S3 : St C2 _ (("lengths", li (lensF stp bse)) :: _) none s3 := S3
    generalize lensF stp bse = ls at S3 hL hle
    refine' x_assign S3 ?h rfl rfl (by rintro p hp; cases hp) fun s4 S4 => ?_
    case h => walk_at "ev"
    refine' x_assign S4 (ev_call T.f8 rfl rfl ?cl rfl rfl (c_header_of T (ls := ls) (by omega) _ _ _) ?clv) rfl rfl (by rintro p hp; cases hp) fun s5 S5 => ?_
    case cl => walk_at "evl"
    case clv => omega
    have eH : headF ls (numF [p1, p2, p3, p4]) (numF [q1, q2, q3, q4]) (B * 65536 + A) = mkH p1 p2 p3 p4 q1 q2 q3 q4 (B / 256) (B % 256) (A / 256) (A % 256) ls := by
      show [83, 81] ++ four (numF [p1, p2, p3, p4]) ++ four (numF [q1, q2, q3, q4]) ++ four (B * 65536 + A) ++ ls = _
      rw [four_num k1 k2 k3 k4, four_num l1' l2' l3' l4', check_four hrg.1.1 hrg.1.2 hrg.2.1 hrg.2.2]
      rfl
    rw [eH] at S5
    have hH : (mkH p1 p2 p3 p4 q1 q2 q3 q4 (B / 256) (B % 256) (A / 256) (A % 256) ls).length = 271 := by simp; omega
    refine' x_if S5 ?ht (fun hb s6 S6 => ?_) (fun hb s6 S6 => ?_)
    case ht => walk_at "ts"
    · exact absurd rfl (of_decide_eq_true hb)
    refine x_nil (then_next ?_)
    clear hb
    refine' x_if S6 (ts_not (ts_val (ev_all (q := fun _ => true) (it_list (ds := dis (mkH p1 p2 p3 p4 q1 q2 q3 q4 (B / 256) (B % 256) (A / 256) (A % 256) ls)) (ev_name rfl rfl rfl)) rfl hPt T.g_all rfl rfl rfl (by decide) rfl rfl rfl (fun _ => rfl) fun d hd => ?he) (fun _ => rfl))) (fun hb s7 S7 => ?_) (fun hb s7 S7 => ?_)
    case he =>
      obtain ⟨i, rfl⟩ := dis_mem hd
      exact elt_int T.g_type T.g_int rfl rfl rfl rfl rfl
    · have e : (dis (mkH p1 p2 p3 p4 q1 q2 q3 q4 (B / 256) (B % 256) (A / 256) (A % 256) ls)).all (fun _ => true) = true := by simp
      rw [e] at hb; cases hb
    refine x_nil (then_next ?_)
    refine' x_if S7 ?ht (fun hb s8 S8 => ?_) (fun hb s8 S8 => ?_)
    case ht => walk_at "ts"
    · exact absurd rfl (of_decide_eq_true hb)
    refine x_nil (then_next ?_)
    clear hb
    have S9 := S8.weak (ρ' := ([("head", li (mkH p1 p2 p3 p4 q1 q2 q3 q4 (B / 256) (B % 256) (A / 256) (A % 256) ls)), ("lengths", li ls), ("count", .int (numF [p1, p2, p3, p4])), ("size", .int (numF [q1, q2, q3, q4])), ("check", .int (B * 65536 + A)), ("script", li sc)] : Rho)) (by walk_at "wk")
    clear S2 S3 S4 S5 S6 S7 S8
    refine' x_assign S9 (ev_irep (ev_ilist (evli_cons ?r1 evli_nil rfl) ?r2) ?r3 ?r4 ?r5) rfl rfl (by rintro p hp; cases hp) fun s1 S1 => ?_
    case r1 => walk_at "ev"
    case r2 => walk_at "sz"
    case r3 => walk_at "ev"
    case r4 => omega
    case r5 => omega
    have htl2 : (List.replicate (sc.getD (13 : Int).toNat 0 % 3).toNat (byte5 (sc.getD (1 : Int).toNat 0))).length ≤ 2 := by rw [List.length_replicate]; omega
    generalize List.replicate (sc.getD (13 : Int).toNat 0 % 3).toNat (byte5 (sc.getD (1 : Int).toNat 0)) = tl at S1 htl2
    have hany : ls.any (fun n => decide (n > 64)) = false := by
      rw [List.any_eq_false]; intro n hn; have := hle n hn; simp; omega
    have hc1 := c_head_agrees T (l := mkH p1 p2 p3 p4 q1 q2 q3 q4 (B / 256) (B % 256) (A / 256) (A % 256) ls ++ tl) (by rw [List.length_append]; omega)
    rw [read_mk hL, hany, if_neg (by decide), check_num] at hc1
    have hc2 : ∀ kind p turn : Int, 0 ≤ kind → kind ≤ 3 → (bentHF (mkH p1 p2 p3 p4 q1 q2 q3 q4 (B / 256) (B % 256) (A / 256) (A % 256) ls) kind p turn).length ≤ 1000 → CallF W 3 165 [li (bentHF (mkH p1 p2 p3 p4 q1 q2 q3 q4 (B / 256) (B % 256) (A / 256) (A % 256) ls) kind p turn), optD ((if kind = 3 ∧ turn % 3 = 0 then some (ls.take (p % 257).toNat ++ [64] ++ ls.drop (p % 257 + 1).toNat, numF [p1, p2, p3, p4], numF [q1, q2, q3, q4], B * 65536 + A) else none).map hdD)] (.bool true) := by
      intro kind p turn h0 h3 hlen
      have := c_head_agrees T (l := bentHF (mkH p1 p2 p3 p4 q1 q2 q3 q4 (B / 256) (B % 256) (A / 256) (A % 256) ls) kind p turn) hlen
      rw [read_bent hL hle kind p turn h0 h3, check_num] at this
      exact this
    have hbl : ∀ kind p turn : Int, (bentHF (mkH p1 p2 p3 p4 q1 q2 q3 q4 (B / 256) (B % 256) (A / 256) (A % 256) ls) kind p turn).length ≤ 1000 := by
      intro kind p turn
      unfold bentHF
      repeat' split
      all_goals (simp only [List.length_append, List.length_take, List.length_drop, List.length_cons, List.length_nil]; omega)
    generalize hHd : mkH p1 p2 p3 p4 q1 q2 q3 q4 (B / 256) (B % 256) (A / 256) (A % 256) ls = hd at S1 hH hc1 hc2 hbl
    refine' x_if S1 (ts_not (ts_val (ev_callF T.f24 rfl rfl (evl_cons (d := li (hd ++ tl)) ?a1 (evl_cons (d := .tuple [li ls, .int (numF [p1, p2, p3, p4]), .int (numF [q1, q2, q3, q4]), .int (B * 65536 + A)]) ?a2 evl_nil rfl) rfl) rfl rfl hc1 ?clv hA2) (fun _ => rfl))) (fun hb s2 S2 => ?_) (fun hb s2 S2 => ?_)
    case a1 => walk_at "ev"
    case a2 => walk_at "ev"
    case clv => omega
    · cases hb
    refine x_nil (then_next ?_)
    refine' x_assign S2 ?h rfl rfl (by rintro p hp; cases hp) fun s3 S3 => ?_
    case h => walk_at "ev"
    generalize hkd : sc.getD (22 : Int).toNat 0 % 4 = kd at S3
    have hk0 : 0 ≤ kd := by omega
    have hk3 : kd ≤ 3 := by omega
    refine' x_assign S3 ?h rfl rfl (by rintro p hp; cases hp) fun s4 S4 => ?_
    case h => walk_at "ev"
    refine x_assign S4 ev_none rfl rfl (by rintro p hp; cases hp) fun s5 S5 => ?_
    have hc3 := hc2 kd (sc.getD (23 : Int).toNat 0) (sc.getD (15 : Int).toNat 0) hk0 hk3 (hbl _ _ _)
    have hbh := c_bent_head T (xs := hd) (kind := kd) (sc.getD (23 : Int).toNat 0) (sc.getD (15 : Int).toNat 0) hH hk0 hk3
    generalize bentHF hd kd (sc.getD (23 : Int).toNat 0) (sc.getD (15 : Int).toNat 0) = bh at hc3 hbh
    refine' x_if S5 (ts_and (ts_eq ?w1 ?w2) (ts_eq ?w3 ?w4)) (fun hb s6 S6 => ?_) (fun hb s6 S6 => ?_)
    case w1 => walk_at "ev"
    case w2 => walk_at "ev"
    case w3 => walk_at "ev"
    case w4 => walk_at "ev"
    · have hb : kd = 3 ∧ sc.getD (15 : Int).toNat 0 % 3 = 0 := by simpa using hb
      rw [if_pos hb] at hc3
      have z1 := cut_le ls none (some (sc.getD (23 : Int).toNat 0 % 257))
      have z2 := cut_le ls (some (sc.getD (23 : Int).toNat 0 % 257 + 1)) none
      refine' x_assign S6 ?h rfl rfl (by rintro p hp; cases hp) fun s7 S7 => ?_
      case h => walk_at "ev"
      refine x_nil (then_next ?_)
      refine' x_if S7 (ts_not (ts_val (ev_callF T.f24 rfl rfl (evl_cons (d := li bh) (ev_call T.f21 rfl rfl ?a1 rfl rfl hbh ?a3) (evl_cons ?a2 evl_nil rfl) rfl) rfl rfl hc3 ?clv hA2) (fun _ => rfl))) (fun hb s8 S8 => ?_) (fun hb s8 S8 => ?_)
      case a1 => walk_at "evl"
      case a2 => exact ev_name rfl rfl rfl
      case a3 => omega
      case clv => omega
      · cases hb
      refine x_nil (then_next ?_)
      exact x_ret S8 ev_bool fun v s' h => h
    · have hb : ¬ (kd = 3 ∧ sc.getD (15 : Int).toNat 0 % 3 = 0) := by
        intro q
        rw [decide_eq_true q.1, decide_eq_true q.2] at hb
        cases hb
      rw [if_neg hb] at hc3
      refine x_nil (then_next ?_)
      refine' x_if S6 (ts_not (ts_val (ev_callF T.f24 rfl rfl (evl_cons (d := li bh) (ev_call T.f21 rfl rfl ?a1 rfl rfl hbh ?a3) (evl_cons ?a2 evl_nil rfl) rfl) rfl rfl hc3 ?clv hA2) (fun _ => rfl))) (fun hb s8 S8 => ?_) (fun hb s8 S8 => ?_)
      case a1 => walk_at "evl"
      case a2 => exact ev_name rfl rfl rfl
      case a3 => omega
      case clv => omega
      · cases hb
      refine x_nil (then_next ?_)
      exact x_ret S8 ev_bool fun v s' h => h
end
end Mine

open PySem PySem.W PyProof.Rows
set_option Elab.async false
set_option maxRecDepth 100000
set_option maxHeartbeats 8000000
namespace Mine
open_top hd5 for PySem.Challenge.rw_sx_zsqueeze_5
end Mine

open PySem PySem.W PyProof.Rows PySem.Calls PySem.Spec
set_option Elab.async false
set_option maxRecDepth 100000
set_option maxHeartbeats 8000000
set_option linter.unusedVariables false
namespace Mine
abbrev tabs5 : List (Addr × Addr) := [(157, 155), (164, 160), (169, 167)]
theorem tt : PySem.Challenge.rw_sx_zsqueeze_5.Holds := hd5 (by
  k_fill
  intro w s₀ s₁ mg mb G Y fa o pm cd doc dV kV ho hd hcd hD hmg hg args vals as hpre hlay hrd hwl hlo
  have KX := kIn_of Y
  refine Ground.open G ?_
  intro T B D TE TW
  obtain ⟨bm, ob, M⟩ := bmod_of_top T
  have T5 : Top5 ⟨PySem.Challenge.rw_sx_zsqueeze_5.row.prog, w, Mine.hd5.heap_39 w.params, mg, mb, bm, ob, tabs5, s₁.os, 24, #[]⟩ := by
    have hg := T.g
    exact {
      f2 := ⟨mg_of KX hg (by k_is), ⟨_, _, _, _, _, _, _, rfl⟩, rfl⟩,
      f3 := ⟨mg_of KX hg (by k_is), ⟨_, _, _, _, _, _, _, rfl⟩, rfl⟩,
      f4 := ⟨mg_of KX hg (by k_is), ⟨_, _, _, _, _, _, _, rfl⟩, rfl⟩,
      f5 := ⟨mg_of KX hg (by k_is), ⟨_, _, _, _, _, _, _, rfl⟩, rfl⟩,
      f6 := ⟨mg_of KX hg (by k_is), ⟨_, _, _, _, _, _, _, rfl⟩, rfl⟩,
      f7 := ⟨mg_of KX hg (by k_is), ⟨_, _, _, _, _, _, _, rfl⟩, rfl⟩,
      f8 := ⟨mg_of KX hg (by k_is), ⟨_, _, _, _, _, _, _, rfl⟩, rfl⟩,
      f9 := ⟨mg_of KX hg (by k_is), ⟨_, _, _, _, _, _, _, rfl⟩, rfl⟩,
      f13 := ⟨mg_of KX hg (by k_is), ⟨_, _, _, _, _, _, _, rfl⟩, rfl⟩,
      f14 := ⟨mg_of KX hg (by k_is), ⟨_, _, _, _, _, _, _, rfl⟩, rfl⟩,
      f15 := ⟨mg_of KX hg (by k_is), ⟨_, _, _, _, _, _, _, rfl⟩, rfl⟩,
      f16 := ⟨mg_of KX hg (by k_is), ⟨_, _, _, _, _, _, _, rfl⟩, rfl⟩,
      f17 := ⟨mg_of KX hg (by k_is), ⟨_, _, _, _, _, _, _, rfl⟩, rfl⟩,
      f18 := ⟨mg_of KX hg (by k_is), ⟨_, _, _, _, _, _, _, rfl⟩, rfl⟩,
      f19 := ⟨mg_of KX hg (by k_is), ⟨_, _, _, _, _, _, _, rfl⟩, rfl⟩,
      f20 := ⟨mg_of KX hg (by k_is), ⟨_, _, _, _, _, _, _, rfl⟩, rfl⟩,
      f21 := ⟨mg_of KX hg (by k_is), ⟨_, _, _, _, _, _, _, rfl⟩, rfl⟩,
      f22 := ⟨mg_of KX hg (by k_is), ⟨_, _, _, _, _, _, _, rfl⟩, rfl⟩,
      f23 := ⟨mg_of KX hg (by k_is), ⟨_, _, _, _, _, _, _, rfl⟩, rfl⟩,
      f24 := ⟨mg_of KX hg (by k_is), ⟨_, _, _, _, _, _, _, rfl⟩, rfl⟩,
      f25 := ⟨mg_of KX hg (by k_is), ⟨_, _, _, _, _, _, _, rfl⟩, rfl⟩,
      g11 := mg_of KX hg (by k_is),
      t11 := ⟨0, _, _, _, _, rfl, by repeat constructor, rfl⟩,
      g12 := mg_of KX hg (by k_is),
      t12 := ⟨0, _, _, _, _, rfl, by repeat constructor, rfl⟩,
      g_len := mg_none_of KX hg (by k_is),
      g_list := mg_none_of KX hg (by k_is),
      g_range := mg_none_of KX hg (by k_is),
      g_max := mg_none_of KX hg (by k_is),
      g_all := mg_none_of KX hg (by k_is),
      g_type := mg_none_of KX hg (by k_is),
      g_int := mg_none_of KX hg (by k_is),
      g_bool := mg_none_of KX hg (by k_is),
      g_min := mg_none_of KX hg (by k_is),
      g_sum := mg_none_of KX hg (by k_is),
      tab23 := .head _,
      tab24 := .tail _ (.head _),
      tab25 := .tail _ (.tail _ (.head _))
    }
  have hT : TabsAt tabs5 s₁.heap := by
    intro q hq
    rcases List.mem_cons.mp hq with rfl | hq
    · exact tab_of (x := "_law_stream_agrees") T KX rfl rfl
    rcases List.mem_cons.mp hq with rfl | hq
    · exact tab_of (x := "_law_head_agrees") T KX rfl rfl
    rcases List.mem_cons.mp hq with rfl | hq
    · exact tab_of (x := "law") T KX rfl rfl
    · cases hq
  have hfa : fa = 170 := by
    have h1 : mg "law" = some (.ref fa) := hmg
    have h2 : mg "law" = some (.ref 170) := T5.f25.g
    rw [h2] at h1
    exact (Value.ref.inj (Option.some.inj h1)).symm
  wrow_args hpre hlay hrd hwl hlo
  rename_i ns hs hlay0 hL1 hr1 hl2 as1 as2 l vs as3 hL ra w1 r0 hI hr hc1 hc2
  have hlen : ns.length ≤ 63 := by omega
  have hl : s₁.heap.get? l = some (PySem.W.listOf vs.toArray 0) := by
    obtain ⟨vs', e⟩ : ∃ vs' : List Value, s₁.heap.get? l = some (PySem.W.listOf vs'.toArray 0) := by
      cases (show Well w.params s₁.heap (.ref l) (.list _) from w1) with
      | list e _ => exact ⟨_, e⟩
    obtain ⟨o', e', _, c, hd'⟩ := hL
    rw [e] at e'
    cases e'
    cases hd'
    exact e
  have hAt := at_top (prog := PySem.Challenge.rw_sx_zsqueeze_5.row.prog) (w := w) (os := s₁.os) (fe := 24) (l := l) (vs := vs) (c := 0) T M KX rfl hT hl (by k_is) (by k_exc) #[]
  subst hfa
  have hlp : ∀ t ∈ tabs5, t.2 ≠ l := by
    intro t ht e
    have := (hT t ht).2
    rw [e, hl] at this
    exact absurd (Option.some.inj this) (by intro q; cases q)
  refine top_callC (n1 := Str.ofString "step") (n2 := Str.ofString "base") (tb := tabNews tabs5) (nw := [(l, PySem.W.listOf vs.toArray 0)]) (ds := [li ns]) (r := .bool true) (lv := 3) ["script"] T5.f25 (fun doc pm an ct vs h => ?zB) (fun _ => rfl) (by decide) (by decide) rfl rfl rfl (by decide) hAt (fun b o e => of_hideAll _ e) (Nat.le_of_eq (hideAll_size _ _)) ?zN ?zD (tabs_are _) ⟨AllBare.of_eq hg, fun k x e => by simp at e⟩ rfl (.cons (.list (.head _) (ints_dat hI)) .nil)
    (fun C s' o1 o2 hlv hA hcl hcf hck hfz hn0 h1 h2 RC => c_law5 T5 hlen C s' o1 o2 hlv hA hcl hcf hck hfz h1 h2 ⟨⟨by rw [hfz]; exact List.nil_sublist _, Sub.refl _⟩, _, [], C.n₀, hn0 ▸ RC, ⟨by rw [hcf]; exact List.forall_mem_nil _, Sub.refl _, fun x d hx => ?zX⟩, rfl, Sub.refl _⟩) fun v s' tb' ht keep hN hG hO hv => ?zK
  case zX =>
    have hxe : x = Str.ofString "script" := by
      by_cases q : x = Str.ofString "script"
      · exact q
      · rw [List.lookup_cons, beq_eq_false_iff_ne.mpr q] at hx; cases hx
    subst hxe
    have hd0 : d = li ns := by
      have : (some (li ns) : Option Dat) = some d := hx
      exact (Option.some.inj this).symm
    subst hd0
    exact ⟨.ref l, rfl, by rw [hn0]; exact .list (.head _) (ints_dat hI)⟩
  case zB => obtain ⟨v, rfl⟩ := len1 h; rfl
  case zN =>
    intro p hp
    rcases List.mem_append.mp hp with hp | hp
    · obtain ⟨t, hr, rfl⟩ := List.mem_map.mp hp
      exact ⟨(hT t hr).2, hideAll_none _ (.tail _ (List.mem_map.mpr ⟨t, hr, rfl⟩))⟩
    · cases List.mem_singleton.mp hp
      exact ⟨hl, hideAll_none _ (.head _)⟩
  case zD =>
    have h1 := hlp _ (.head _)
    have h2 := hlp _ (.tail _ (.head _))
    have h3 := hlp _ (.tail _ (.tail _ (.head _)))
    show ([155, 160, 167, l] : List Nat).Nodup
    simp only [List.nodup_cons, List.mem_cons, List.not_mem_nil, or_false, not_or, List.nodup_nil, and_true, not_false_eq_true]
    exact ⟨⟨by decide, by decide, h1⟩, ⟨by decide, h2⟩, h3⟩
  case zK =>
    obtain ⟨nw', sb, hd'⟩ := hv
    cases hd'
    refine ⟨.inl ⟨.bool true, .bool true, [], rfl, fun cls => rfl, .bool true, by wrow_post, fun _ => ⟨.nil, fun a ha => by cases ha⟩⟩, old_of hT ht hl keep (fun p hp => hN p (List.mem_append_left _ hp)) (hN (l, _) (List.mem_append_right _ (.head _))), hO, hG.1⟩)
end Mine

theorem PySem.Challenge.cw_sx_zsqueeze_5_holds : PySem.Challenge.rw_sx_zsqueeze_5.Holds :=
  Mine.tt
