import PyProof.Rows.All
import HandS.Text
import Wide.All
import OpenK.AllK
import Wide.FinOn
import HandS.ForMost
import HandS.ForExc
import HandS.Walk
import HandS.IsInst
import HandS.Star
import HandS.FStr
import HandS.RaiseMore
import HandS.DictComp
import HandS.TupAny
import HandS.Codes
import PySem.Challenge.RW_fromparts_k75_whole_questions_ranks_and
import KE.KNestM
import HandS.HeadHook1
import HandS.HeadHook2
import HandS.HeadHook3
import HandS.HeadHook4
import HandS.HeadNt
import HandS.ExcField
import HandS.ExcInit
import HandS.ClsMeth
import KE.KStateDown
import Lean
import HandS.Head0
import HandS.Head1
import HandS.Head2
import PyProof.NeKinds
import KE.LtData
import HandS.TupLe
import HandS.TryOnly
import HandS.Steps
import HandS.More
import HandS.SetTxt0
import HandS.Set
import HandS.SetFor
import HandS.Strs
import PyProof.Rows.SortShellAny
import KE.KFmtOwn
import HandS.Defaults
import KE.IntTextText
import HandS.CallLocal
import HandS.Small
import HandS.Zip
import KE.KItemsList
import HandS.ListItems
import KE.KeyNested
import KE.KDictWalk
import PyProof.Rows.TupTab
import KE.KDictSum
import KE.SortData
import PyProof.FString5
import PyProof.Rows.RuleB_pow
import HandS.Keys
import KE.KDictList
import HandS.Iter
import KE.KDictPairs
import HandS.OwnEq
import HandS.Exc
import HandS.TryMany
import HandS.Lambda
import HandS.HeadWalk
import HandS.EndTab
set_option Elab.async false
set_option linter.all false
set_option maxRecDepth 100000
set_option maxHeartbeats 4000000
/-! M1: kinds, their texts, the reader of kinds: what is read is what is written. Plain Lean. -/
namespace Fp
open PySem TL

/-- a kind: its arguments, its atom -/
inductive Kd where
  | mk (args : List Kd) (atom : Str)
def Kd.args : Kd → List Kd
  | .mk as _ => as
def Kd.atom : Kd → Str
  | .mk _ a => a
theorem Kd.eta (k : Kd) : Kd.mk k.args k.atom = k := by cases k; rfl

def isLet (c : Nat) : Bool := decide (97 ≤ c) && decide (c ≤ 122)
abbrev Arr : List Nat := [32, 45, 62, 32]
abbrev Opn : List Nat := [40]
abbrev Clo : List Nat := [41]
def wordB (l : List Nat) : Bool := decide (1 ≤ l.length) && (decide (l.length ≤ 8) && l.all isLet)
def isWord (x : Str) : Bool := wordB (tl x)

mutual
def tk : Kd → List (List Nat)
  | .mk as a => tkArgs as ++ [tl a]
def tkA : Kd → List (List Nat)
  | .mk [] a => [tl a]
  | .mk (k :: ks) a => Opn :: ((tkA k ++ (Arr :: tkArgs ks)) ++ [tl a]) ++ [Clo]
def tkArgs : List Kd → List (List Nat)
  | [] => []
  | k :: ks => tkA k ++ (Arr :: tkArgs ks)
end
theorem tk_mk (as : List Kd) (a : Str) : tk (.mk as a) = tkArgs as ++ [tl a] := by rw [tk]
theorem tkA_nil (a : Str) : tkA (.mk [] a) = [tl a] := by rw [tkA]
theorem tkA_cons (k : Kd) (ks : List Kd) (a : Str) : tkA (.mk (k :: ks) a) = Opn :: (tk (.mk (k :: ks) a)) ++ [Clo] := by rw [tkA, tk, tkArgs]
theorem tkArgs_nil : tkArgs [] = [] := by rw [tkArgs]
theorem tkArgs_cons (k : Kd) (ks : List Kd) : tkArgs (k :: ks) = tkA k ++ (Arr :: tkArgs ks) := by rw [tkArgs]
theorem tkArgs_snoc (k : Kd) : ∀ ks : List Kd, tkArgs (ks ++ [k]) = tkArgs ks ++ (tkA k ++ [Arr])
  | [] => by simp [tkArgs_nil, tkArgs_cons]
  | j :: ks => by
    rw [List.cons_append, tkArgs_cons, tkArgs_cons, tkArgs_snoc k ks]
    simp [List.append_assoc]
theorem tkA_ne {k : Kd} (h : k.args ≠ []) : tkA k = Opn :: (tk k) ++ [Clo] := by
  obtain ⟨as, a⟩ := k
  cases as with
  | nil => exact absurd rfl h
  | cons k ks => exact tkA_cons k ks a
theorem tkA_at {k : Kd} (h : k.args = []) : tkA k = [tl k.atom] := by
  obtain ⟨as, a⟩ := k
  have e : as = [] := h
  subst e
  exact tkA_nil a

mutual
def ordK : Kd → Nat
  | .mk as _ => ordKs as
def ordKs : List Kd → Nat
  | [] => 0
  | k :: ks => max (ordK k + 1) (ordKs ks)
end
mutual
def plc : Kd → Nat
  | .mk as _ => plcs as + 1
def plcs : List Kd → Nat
  | [] => 0
  | k :: ks => plc k + plcs ks
end
mutual
/-- its atoms are words -/
def wds : Kd → Bool
  | .mk as a => isWord a && wdss as
def wdss : List Kd → Bool
  | [] => true
  | k :: ks => wds k && wdss ks
end
theorem ordK_mk (as : List Kd) (a : Str) : ordK (.mk as a) = ordKs as := by rw [ordK]
theorem ordKs_cons (k : Kd) (ks : List Kd) : ordKs (k :: ks) = max (ordK k + 1) (ordKs ks) := by rw [ordKs]
theorem ordKs_nil : ordKs [] = 0 := by rw [ordKs]
theorem plc_mk (as : List Kd) (a : Str) : plc (.mk as a) = plcs as + 1 := by rw [plc]
theorem plcs_cons (k : Kd) (ks : List Kd) : plcs (k :: ks) = plc k + plcs ks := by rw [plcs]
theorem plcs_nil : plcs [] = 0 := by rw [plcs]
theorem wds_mk (as : List Kd) (a : Str) : wds (.mk as a) = (isWord a && wdss as) := by rw [wds]
theorem wdss_cons (k : Kd) (ks : List Kd) : wdss (k :: ks) = (wds k && wdss ks) := by rw [wdss]
theorem wdss_nil : wdss [] = true := by rw [wdss]
theorem ordK_args (k : Kd) : ordK k = ordKs k.args := by obtain ⟨as, a⟩ := k; exact ordK_mk as a
theorem plc_args (k : Kd) : plc k = plcs k.args + 1 := by obtain ⟨as, a⟩ := k; exact plc_mk as a
theorem ordK_pos {k : Kd} (h : k.args ≠ []) : 1 ≤ ordK k := by
  obtain ⟨as, a⟩ := k
  cases as with
  | nil => exact absurd rfl h
  | cons j js => rw [ordK_mk, ordKs_cons]; omega
theorem ordKs_mem {k : Kd} : ∀ {ks : List Kd}, k ∈ ks → ordK k + 1 ≤ ordKs ks
  | j :: js, h => by
    rw [ordKs_cons]
    rcases List.mem_cons.mp h with rfl | h
    · omega
    · have := ordKs_mem h
      omega
theorem plcs_mem {k : Kd} : ∀ {ks : List Kd}, k ∈ ks → plc k ≤ plcs ks
  | j :: js, h => by
    rw [plcs_cons]
    rcases List.mem_cons.mp h with rfl | h
    · omega
    · have := plcs_mem h
      omega
theorem wdss_mem {k : Kd} : ∀ {ks : List Kd}, wdss ks = true → k ∈ ks → wds k = true
  | j :: js, e, h => by
    rw [wdss_cons, Bool.and_eq_true] at e
    rcases List.mem_cons.mp h with rfl | h
    · exact e.1
    · exact wdss_mem e.2 h
theorem wds_args {k : Kd} (h : wds k = true) : isWord k.atom = true ∧ wdss k.args = true := by
  obtain ⟨as, a⟩ := k
  rw [wds_mk, Bool.and_eq_true] at h
  exact h
theorem plcs_length : ∀ ks : List Kd, ks.length ≤ plcs ks
  | [] => Nat.zero_le _
  | k :: ks => by
    have := plcs_length ks
    have := plc_args k
    rw [plcs_cons, List.length_cons]
    omega

/-- the text of a kind -/
def txtL (k : Kd) : List Nat := (tk k).flatten
def txt (k : Kd) : Str := ⟨(txtL k).toArray⟩
def txtA (k : Kd) : Str := ⟨(tkA k).flatten.toArray⟩
theorem tl_txt (k : Kd) : tl (txt k) = txtL k := rfl
theorem tl_txtA (k : Kd) : tl (txtA k) = (tkA k).flatten := rfl
theorem txtA_at {k : Kd} (h : k.args = []) : txtA k = txt k := by
  refine ext_tl ?_
  rw [tl_txtA, tl_txt, tkA_at h, txtL]
  obtain ⟨as, a⟩ := k
  have e : as = [] := h
  subst e
  rw [tk_mk, tkArgs_nil]
  rfl
theorem txtA_ne {k : Kd} (h : k.args ≠ []) : tl (txtA k) = [40] ++ txtL k ++ [41] := by
  rw [tl_txtA, tkA_ne h, txtL]
  simp [Opn, Clo]
theorem joinL_cc (S x y : List Nat) (r : List (List Nat)) : joinL S (x :: y :: r) = x ++ S ++ joinL S (y :: r) := by
  first | rfl | (simp only [joinL]; try simp [List.append_assoc])
/-- the text by join -/
theorem txt_join (as : List Kd) (a : Str) : joinL Arr (as.map (fun k => tl (txtA k)) ++ [tl a]) = txtL (.mk as a) := by
  rw [txtL, tk_mk]
  induction as with
  | nil => simp [tkArgs_nil, joinL]
  | cons k ks ih =>
    rw [List.map_cons, List.cons_append]
    have hne : ∃ y ys, ks.map (fun k => tl (txtA k)) ++ [tl a] = y :: ys := by
      cases ks with
      | nil => exact ⟨_, _, rfl⟩
      | cons j js => exact ⟨_, _, rfl⟩
    obtain ⟨y, ys, e⟩ := hne
    rw [e] at ih ⊢
    rw [joinL_cc, ih, tkArgs_cons, tl_txtA]
    simp [List.append_assoc]

/-! ### signs -/
def nextTok : List Nat → Option Nat
  | [] => none
  | c :: r => if isLet c = true then some (1 + (r.takeWhile isLet).length) else if (c :: r).take 4 = Arr then some 4 else if c = 40 ∨ c = 41 then some 1 else none
theorem nextTok_cons (c : Nat) (r : List Nat) : nextTok (c :: r) = if isLet c = true then some (1 + (r.takeWhile isLet).length) else if (c :: r).take 4 = Arr then some 4 else if c = 40 ∨ c = 41 then some 1 else none := rfl
def toksF : Nat → List Nat → Option (List (List Nat))
  | _, [] => some []
  | 0, _ :: _ => none
  | n + 1, c :: r => match nextTok (c :: r) with
    | none => none
    | some k => (toksF n ((c :: r).drop k)).map ((c :: r).take k :: ·)
def toks (l : List Nat) : Option (List (List Nat)) := toksF l.length l
theorem toksF_nil (n : Nat) : toksF n [] = some [] := by cases n <;> rfl
theorem nextTok_pos {l : List Nat} {k : Nat} (h : nextTok l = some k) : 1 ≤ k ∧ k ≤ l.length := by
  cases l with
  | nil => cases h
  | cons c r =>
    rw [nextTok_cons] at h
    split at h
    · have e := Option.some.inj h
      subst e
      refine ⟨by omega, ?_⟩
      have := (List.takeWhile_sublist (l := r) isLet).length_le
      rw [List.length_cons]
      omega
    · split at h
      · rename_i e4
        have e := Option.some.inj h
        subst e
        refine ⟨by omega, ?_⟩
        have q := congrArg List.length e4
        rw [List.length_take] at q
        simp only [Arr, List.length_cons, List.length_nil] at q ⊢
        omega
      · split at h
        · have e := Option.some.inj h
          subst e
          exact ⟨by omega, by rw [List.length_cons]; omega⟩
        · cases h
theorem toksF_more : ∀ (n m : Nat) (l : List Nat), l.length ≤ n → l.length ≤ m → toksF n l = toksF m l
  | n, m, [], _, _ => by rw [toksF_nil, toksF_nil]
  | 0, m, c :: r, h, _ => absurd h (by rw [List.length_cons]; omega)
  | n + 1, 0, c :: r, _, h => absurd h (by rw [List.length_cons]; omega)
  | n + 1, m + 1, c :: r, h1, h2 => by
    unfold toksF
    cases e : nextTok (c :: r) with
    | none => rfl
    | some k =>
      have hk := nextTok_pos e
      dsimp only
      rw [toksF_more n m ((c :: r).drop k) (by rw [List.length_drop]; omega) (by rw [List.length_drop]; omega)]
theorem toks_nil : toks [] = some [] := rfl
theorem toks_step {l : List Nat} (h : l ≠ []) : toks l = match nextTok l with
    | none => none
    | some k => (toks (l.drop k)).map (l.take k :: ·) := by
  cases l with
  | nil => exact absurd rfl h
  | cons c r =>
    show toksF (r.length + 1) (c :: r) = _
    unfold toksF
    cases e : nextTok (c :: r) with
    | none => rfl
    | some k =>
      have hk := nextTok_pos e
      dsimp only
      unfold toks
      rw [toksF_more r.length ((c :: r).drop k).length ((c :: r).drop k) (by rw [List.length_drop, List.length_cons] at *; omega) (Nat.le_refl _)]
theorem toks_flat : ∀ (n : Nat) (l : List Nat) (ts : List (List Nat)), l.length ≤ n → toks l = some ts → ts.flatten = l
  | n, [], ts, _, h => by
    rw [toks_nil] at h
    cases h
    rfl
  | 0, c :: r, ts, hl, _ => absurd hl (by rw [List.length_cons]; omega)
  | n + 1, c :: r, ts, hl, h => by
    rw [toks_step (by simp)] at h
    cases e : nextTok (c :: r) with
    | none => rw [e] at h; cases h
    | some k =>
      rw [e] at h
      have hk := nextTok_pos e
      dsimp only at h
      cases e2 : toks ((c :: r).drop k) with
      | none => rw [e2] at h; cases h
      | some us =>
        rw [e2] at h
        have h' : (c :: r).take k :: us = ts := Option.some.inj h
        subst h'
        rw [List.flatten_cons, toks_flat n ((c :: r).drop k) us (by rw [List.length_drop]; omega) e2, List.take_append_drop]

def wordT (t : List Nat) : Prop := t ≠ [] ∧ ∀ c ∈ t, isLet c = true
def signT (t : List Nat) : Prop := t = Arr ∨ t = Opn ∨ t = Clo
/-- tokens that are read back -/
def SepT : List (List Nat) → Prop
  | [] => True
  | [t] => wordT t ∨ signT t
  | t :: u :: r => ((wordT t ∧ signT u) ∨ signT t) ∧ SepT (u :: r)
theorem sep_tail {t : List Nat} {r : List (List Nat)} (h : SepT (t :: r)) : SepT r := by
  cases r with
  | nil => exact True.intro
  | cons u r => exact h.2
theorem sep_head {t : List Nat} {r : List (List Nat)} (h : SepT (t :: r)) : wordT t ∨ signT t := by
  cases r with
  | nil => exact h
  | cons u r => exact h.1.elim (fun x => .inl x.1) .inr
theorem next_word {t r : List Nat} (h : wordT t) (hr : r = [] ∨ ∃ c r', r = c :: r' ∧ isLet c = false) : nextTok (t ++ r) = some t.length := by
  obtain ⟨hn, hl⟩ := h
  cases t with
  | nil => exact absurd rfl hn
  | cons c t =>
    rw [List.cons_append]
    rw [nextTok_cons, if_pos (hl c (by simp))]
    have e : (t ++ r).takeWhile isLet = t := by
      rw [List.takeWhile_append_of_pos (fun a ha => hl a (by simp [ha]))]
      rcases hr with rfl | ⟨d, r', rfl, hd⟩
      · simp
      · rw [List.takeWhile_cons, if_neg (by rw [hd]; exact Bool.false_ne_true)]
        simp
    rw [e, List.length_cons, Nat.add_comm]
theorem next_sign {t r : List Nat} (h : signT t) : nextTok (t ++ r) = some t.length := by
  rcases h with rfl | rfl | rfl
  · show nextTok (32 :: 45 :: 62 :: 32 :: r) = some 4
    rw [nextTok_cons, if_neg (by decide), if_pos (by rfl)]
  · show nextTok (40 :: r) = some 1
    rw [nextTok_cons, if_neg (by decide)]
    by_cases h4 : (40 :: r).take 4 = Arr
    · exfalso
      have q := congrArg (fun l : List Nat => l.head?) h4
      simp at q
    · rw [if_neg h4, if_pos (.inl rfl)]
  · show nextTok (41 :: r) = some 1
    rw [nextTok_cons, if_neg (by decide)]
    by_cases h4 : (41 :: r).take 4 = Arr
    · exfalso
      have q := congrArg (fun l : List Nat => l.head?) h4
      simp at q
    · rw [if_neg h4, if_pos (.inr rfl)]
theorem sign_head {t r : List Nat} (h : signT t) : ∃ c r', t ++ r = c :: r' ∧ isLet c = false := by
  rcases h with rfl | rfl | rfl
  · exact ⟨_, _, rfl, by decide⟩
  · exact ⟨_, _, rfl, by decide⟩
  · exact ⟨_, _, rfl, by decide⟩
theorem toks_sep : ∀ ts : List (List Nat), SepT ts → toks ts.flatten = some ts
  | [], _ => rfl
  | t :: r, h => by
    have ih := toks_sep r (sep_tail h)
    rw [List.flatten_cons]
    have hn : nextTok (t ++ r.flatten) = some t.length := by
      rcases sep_head h with hw | hs
      · refine next_word hw ?_
        cases r with
        | nil => exact .inl rfl
        | cons u r =>
          refine .inr ?_
          rcases h.1 with ⟨_, hu⟩ | hs
          · rw [List.flatten_cons]
            exact sign_head hu
          · exfalso
            obtain ⟨c, r', e, hc⟩ := sign_head (r := []) hs
            rw [List.append_nil] at e
            have := hw.2 c (by rw [e]; simp)
            rw [hc] at this
            cases this
      · exact next_sign hs
    have hne : t ++ r.flatten ≠ [] := by
      intro e
      rw [e] at hn
      cases hn
    rw [toks_step hne, hn]
    dsimp only
    rw [List.drop_left, List.take_left, ih]
    rfl
theorem wordT_of {x : Str} (h : isWord x = true) : wordT (tl x) := by
  unfold isWord wordB at h
  rw [Bool.and_eq_true, Bool.and_eq_true, decide_eq_true_eq, decide_eq_true_eq] at h
  refine ⟨fun e => ?_, fun c hc => List.all_eq_true.mp h.2.2 c hc⟩
  rw [e] at h
  have := h.1
  simp at this
theorem sep_word_sign {t u : List Nat} {r : List (List Nat)} (h : wordT t) (hu : signT u) (hr : SepT (u :: r)) : SepT (t :: u :: r) := ⟨.inl ⟨h, hu⟩, hr⟩
theorem sep_sign {t : List Nat} {r : List (List Nat)} (h : signT t) (hr : SepT r) : SepT (t :: r) := by
  cases r with
  | nil => exact .inr h
  | cons u r => exact ⟨.inr h, hr⟩
mutual
theorem sep_tk : ∀ (k : Kd), wds k = true → ∀ r, (r = [] ∨ ∃ u r', r = u :: r' ∧ signT u) → SepT r → SepT (tk k ++ r)
  | .mk as a, h, r, hr, hs => by
    rw [wds_mk, Bool.and_eq_true] at h
    rw [tk_mk, List.append_assoc]
    refine sep_args as h.2 _ ?_
    rcases hr with rfl | ⟨u, r', rfl, hu⟩
    · exact .inl (wordT_of h.1)
    · exact sep_word_sign (wordT_of h.1) hu hs
theorem sep_tkA : ∀ (k : Kd), wds k = true → ∀ r, (r = [] ∨ ∃ u r', r = u :: r' ∧ signT u) → SepT r → SepT (tkA k ++ r)
  | .mk [] a, h, r, hr, hs => by
    rw [wds_mk, Bool.and_eq_true] at h
    rw [tkA_nil]
    rcases hr with rfl | ⟨u, r', rfl, hu⟩
    · exact .inl (wordT_of h.1)
    · exact sep_word_sign (wordT_of h.1) hu hs
  | .mk (k :: ks) a, h, r, hr, hs => by
    rw [wds_mk, Bool.and_eq_true] at h
    rw [tkA_cons, tk_mk]
    have e : (Opn :: (tkArgs (k :: ks) ++ [tl a]) ++ [Clo]) ++ r = Opn :: (tkArgs (k :: ks) ++ (tl a :: Clo :: r)) := by simp
    rw [e]
    refine sep_sign (.inr (.inl rfl)) ?_
    refine sep_args (k :: ks) h.2 _ ?_
    exact sep_word_sign (wordT_of h.1) (.inr (.inr rfl)) (sep_sign (.inr (.inr rfl)) hs)
theorem sep_args : ∀ (ks : List Kd), wdss ks = true → ∀ r, SepT r → SepT (tkArgs ks ++ r)
  | [], _, r, hs => by rw [tkArgs_nil]; exact hs
  | k :: ks, h, r, hs => by
    rw [wdss_cons, Bool.and_eq_true] at h
    rw [tkArgs_cons, List.append_assoc, List.cons_append]
    exact sep_tkA k h.1 _ (.inr ⟨_, _, rfl, .inl rfl⟩) (sep_sign (.inl rfl) (sep_args ks h.2 r hs))
end
theorem toks_txt {k : Kd} (h : wds k = true) : toks (txtL k) = some (tk k) := by
  have q := sep_tk k h [] (.inl rfl) True.intro
  rw [List.append_nil] at q
  exact toks_sep _ q

/-! ### the reader -/
/-- the rows that are open, the innermost first, without the last; the last; whether a kind is wanted -/
structure RdS where
  stk : List (List Kd)
  cur : List Kd
  wants : Bool
def lastAtom : List Kd → Option Kd
  | [] => none
  | [k] => if k.args.isEmpty then some k else none
  | _ :: k :: ks => lastAtom (k :: ks)
def closeRow (cur : List Kd) : Option Kd := match lastAtom cur with
  | some k => some (.mk cur.dropLast k.atom)
  | none => none
def rstep (s : RdS) (t : List Nat) : Option RdS :=
  if t = Opn then (if s.wants = true ∧ s.stk.length + 2 ≤ 5 then some ⟨s.cur :: s.stk, [], true⟩ else none)
  else if t = Arr then (if s.wants = true then none else some ⟨s.stk, s.cur, true⟩)
  else if t = Clo then (if s.wants = true then none else match s.stk with
    | [] => none
    | r :: stk => if s.cur.length < 2 then none else match closeRow s.cur with
      | some k => some ⟨stk, r ++ [k], false⟩
      | none => none)
  else if s.wants = true ∧ wordB t = true then some ⟨s.stk, s.cur ++ [.mk [] ⟨t.toArray⟩], false⟩ else none
def rrun : RdS → List (List Nat) → Option RdS
  | s, [] => some s
  | s, t :: ts => match rstep s t with
    | some s' => rrun s' ts
    | none => none
def rres (s : RdS) : Option Kd := if s.wants = true ∨ s.stk ≠ [] then none else closeRow s.cur
def rd0 : RdS := ⟨[], [], true⟩
def isSign (t : List Nat) : Bool := t == Opn || (t == Clo || t == Arr)
def shape (l : List Nat) : Option Kd := match toks l with
  | none => none
  | some ts => if (ts.filter fun t => !isSign t).length > 15 then none else match rrun rd0 ts with
    | some s => rres s
    | none => none
theorem rrun_append : ∀ (ts us : List (List Nat)) (s : RdS), rrun s (ts ++ us) = match rrun s ts with
    | some s' => rrun s' us
    | none => none
  | [], us, s => rfl
  | t :: ts, us, s => by
    show (match rstep s t with | some s' => rrun s' (ts ++ us) | none => none) = match (match rstep s t with | some s' => rrun s' ts | none => none) with | some s' => rrun s' us | none => none
    cases rstep s t with
    | none => rfl
    | some s' => exact rrun_append ts us s'
theorem lastAtom_snoc (k : Kd) : ∀ ks : List Kd, lastAtom (ks ++ [k]) = if k.args.isEmpty then some k else none
  | [] => rfl
  | [j] => rfl
  | i :: j :: ks => by
    show lastAtom (j :: ks ++ [k]) = _
    exact lastAtom_snoc k (j :: ks)
theorem lastAtom_some : ∀ {ks : List Kd} {k : Kd}, lastAtom ks = some k → k.args = [] ∧ ks = ks.dropLast ++ [k]
  | [j], k, h => by
    unfold lastAtom at h
    split at h
    · rename_i e
      have e' := Option.some.inj h
      subst e'
      exact ⟨List.isEmpty_iff.mp e, rfl⟩
    · cases h
  | i :: j :: ks, k, h => by
    have h' : lastAtom (j :: ks) = some k := h
    obtain ⟨h1, h2⟩ := lastAtom_some h'
    refine ⟨h1, ?_⟩
    rw [List.dropLast_cons₂, List.cons_append, ← h2]
theorem word_not {x : Str} (h : isWord x = true) : tl x ≠ Opn ∧ tl x ≠ Arr ∧ tl x ≠ Clo := by
  have w := (wordT_of h).2
  refine ⟨fun e => ?_, fun e => ?_, fun e => ?_⟩
  · have := w 40 (by rw [e]; simp)
    exact absurd this (by decide)
  · have := w 32 (by rw [e]; simp)
    exact absurd this (by decide)
  · have := w 41 (by rw [e]; simp)
    exact absurd this (by decide)
theorem rstep_word {x : Str} (h : isWord x = true) (stk : List (List Kd)) (cur : List Kd) : rstep ⟨stk, cur, true⟩ (tl x) = some ⟨stk, cur ++ [.mk [] x], false⟩ := by
  obtain ⟨h1, h2, h3⟩ := word_not h
  unfold rstep
  rw [if_neg h1, if_neg h2, if_neg h3, if_pos ⟨rfl, h⟩, mk_tl]
theorem rstep_arr (stk : List (List Kd)) (cur : List Kd) : rstep ⟨stk, cur, false⟩ Arr = some ⟨stk, cur, true⟩ := rfl
mutual
theorem run_tkA : ∀ (k : Kd), wds k = true → ∀ (stk : List (List Kd)) (cur : List Kd), stk.length + ordK k + 1 ≤ 5 → rrun ⟨stk, cur, true⟩ (tkA k) = some ⟨stk, cur ++ [k], false⟩
  | .mk [] a, h, stk, cur, _ => by
    rw [wds_mk, Bool.and_eq_true] at h
    rw [tkA_nil]
    unfold rrun
    rw [rstep_word h.1]
    rfl
  | .mk (k :: ks) a, h, stk, cur, hd => by
    rw [wds_mk, Bool.and_eq_true] at h
    have hp : 1 ≤ ordK (.mk (k :: ks) a) := ordK_pos (by simp [Kd.args])
    have ho : ∀ j ∈ k :: ks, ordK j + 1 ≤ ordK (.mk (k :: ks) a) := fun j hj => by
      rw [ordK_mk]
      exact ordKs_mem hj
    rw [tkA_cons, tk_mk, List.cons_append, List.append_assoc]
    unfold rrun
    have e1 : rstep ⟨stk, cur, true⟩ Opn = some ⟨cur :: stk, [], true⟩ := by
      unfold rstep
      rw [if_pos rfl, if_pos ⟨rfl, by show stk.length + 2 ≤ 5; omega⟩]
    rw [e1]
    dsimp only
    rw [rrun_append, run_args (k :: ks) h.2 (cur :: stk) [] (fun j hj => by have := ho j hj; rw [List.length_cons]; omega)]
    dsimp only
    rw [List.singleton_append]
    unfold rrun
    rw [List.nil_append, rstep_word h.1]
    dsimp only
    unfold rrun
    have e2 : rstep ⟨cur :: stk, k :: ks ++ [.mk [] a], false⟩ Clo = some ⟨stk, cur ++ [.mk (k :: ks) a], false⟩ := by
      unfold rstep
      rw [if_neg (by decide), if_neg (by decide), if_pos rfl, if_neg (by simp)]
      dsimp only
      rw [if_neg (by simp)]
      unfold closeRow
      rw [lastAtom_snoc, if_pos (by rfl)]
      dsimp only
      rw [List.dropLast_concat]
      rfl
    rw [e2]
    rfl
theorem run_args : ∀ (ks : List Kd), wdss ks = true → ∀ (stk : List (List Kd)) (cur : List Kd), (∀ k ∈ ks, stk.length + ordK k + 1 ≤ 5) → rrun ⟨stk, cur, true⟩ (tkArgs ks) = some ⟨stk, cur ++ ks, true⟩
  | [], _, stk, cur, _ => by rw [tkArgs_nil, List.append_nil]; rfl
  | k :: ks, h, stk, cur, ho => by
    rw [wdss_cons, Bool.and_eq_true] at h
    rw [tkArgs_cons, rrun_append, run_tkA k h.1 stk cur (ho k (by simp))]
    dsimp only
    unfold rrun
    rw [rstep_arr]
    dsimp only
    rw [run_args ks h.2 stk (cur ++ [k]) (fun j hj => ho j (by simp [hj])), List.append_assoc]
    rfl
end
theorem rrun_txt {k : Kd} (h : wds k = true) (ho : ordK k ≤ 5) : rrun rd0 (tk k) = some ⟨[], k.args ++ [.mk [] k.atom], false⟩ := by
  obtain ⟨as, a⟩ := k
  rw [wds_mk, Bool.and_eq_true] at h
  rw [tk_mk, rrun_append]
  unfold rd0
  rw [run_args as h.2 [] [] (fun j hj => by have := ordKs_mem hj; rw [ordK_mk] at ho; simp; omega)]
  dsimp only
  unfold rrun
  rw [rstep_word h.1]
  rfl
theorem rres_txt (k : Kd) : rres ⟨[], k.args ++ [.mk [] k.atom], false⟩ = some k := by
  unfold rres
  rw [if_neg (by simp)]
  unfold closeRow
  rw [lastAtom_snoc, if_pos (by rfl)]
  dsimp only
  rw [List.dropLast_concat]
  exact congrArg some (Kd.eta k)
theorem isSign_word {x : Str} (h : isWord x = true) : isSign (tl x) = false := by
  obtain ⟨h1, h2, h3⟩ := word_not h
  unfold isSign
  simp [h1, h2, h3]
mutual
theorem count_tk : ∀ k : Kd, wds k = true → ((tk k).filter fun t => !isSign t).length = plc k
  | .mk as a, h => by
    rw [wds_mk, Bool.and_eq_true] at h
    rw [tk_mk, List.filter_append, List.length_append, count_args as h.2, plc_mk]
    simp [isSign_word h.1]
theorem count_tkA : ∀ k : Kd, wds k = true → ((tkA k).filter fun t => !isSign t).length = plc k
  | .mk [] a, h => by
    rw [wds_mk, Bool.and_eq_true] at h
    rw [tkA_nil, plc_mk, plcs_nil]
    simp [isSign_word h.1]
  | .mk (k :: ks) a, h => by
    rw [wds_mk, Bool.and_eq_true] at h
    have e1 : isSign Opn = true := by decide
    have e2 : isSign Clo = true := by decide
    rw [tkA_cons, tk_mk, List.cons_append, List.filter_cons, if_neg (by rw [e1]; decide), List.filter_append, List.filter_append, List.length_append, List.length_append, count_args (k :: ks) h.2, plc_mk]
    simp [isSign_word h.1, e2]
theorem count_args : ∀ ks : List Kd, wdss ks = true → ((tkArgs ks).filter fun t => !isSign t).length = plcs ks
  | [], _ => by rw [tkArgs_nil, plcs_nil]; rfl
  | k :: ks, h => by
    rw [wdss_cons, Bool.and_eq_true] at h
    have e1 : isSign Arr = true := by decide
    rw [tkArgs_cons, List.filter_append, List.length_append, count_tkA k h.1, List.filter_cons, if_neg (by rw [e1]; decide), count_args ks h.2, plcs_cons]
end
/-- what is written is read -/
theorem shape_txt {k : Kd} (h : wds k = true) (ho : ordK k ≤ 5) (hp : plc k ≤ 15) : shape (txtL k) = some k := by
  unfold shape
  rw [toks_txt h]
  dsimp only
  rw [count_tk k h, if_neg (by omega), rrun_txt h ho]
  exact rres_txt k

/-! ### what is read was written -/
/-- what has been read so far -/
def prS (s : RdS) : List (List Nat) := s.stk.reverse.flatMap (fun r => tkArgs r ++ [Opn]) ++ (if s.wants = true then tkArgs s.cur else (tkArgs s.cur).dropLast)
def RdOk (s : RdS) : Prop := (s.wants = false → s.cur ≠ [])
theorem drop_args {cur : List Kd} {k : Kd} : (tkArgs (cur ++ [k])).dropLast = tkArgs cur ++ tkA k := by
  rw [tkArgs_snoc, ← List.append_assoc, List.dropLast_concat]
theorem args_drop : ∀ {cur : List Kd}, cur ≠ [] → (tkArgs cur).dropLast ++ [Arr] = tkArgs cur := fun {cur} h => by
  have e := List.dropLast_concat_getLast h
  rw [← e, drop_args, tkArgs_snoc, List.append_assoc]
theorem rstep_pr {s s' : RdS} {t : List Nat} (ok : RdOk s) (h : rstep s t = some s') : RdOk s' ∧ prS s' = prS s ++ [t] := by
  obtain ⟨stk, cur, wants⟩ := s
  unfold rstep at h
  split at h
  · rename_i e
    subst e
    split at h
    · rename_i c
      cases h
      have hw : wants = true := c.1
      subst hw
      refine ⟨(fun z => by cases z), ?_⟩
      unfold prS
      simp [List.flatMap_append, tkArgs_nil]
    · cases h
  · split at h
    · rename_i _ e
      subst e
      split at h
      · cases h
      · rename_i c
        cases h
        have hw : wants = false := by
          cases wants
          · rfl
          · exact absurd rfl c
        subst hw
        refine ⟨(fun z => by cases z), ?_⟩
        unfold prS
        rw [if_pos rfl, if_neg (by simp), List.append_assoc, args_drop (ok rfl)]
    · split at h
      · rename_i _ _ e
        subst e
        split at h
        · cases h
        · rename_i c
          have hw : wants = false := by
            cases wants
            · rfl
            · exact absurd rfl c
          subst hw
          cases stk with
          | nil => cases h
          | cons r stk =>
            dsimp only at h
            split at h
            · cases h
            · rename_i hl
              cases ec : closeRow cur with
              | none => rw [ec] at h; cases h
              | some k =>
                rw [ec] at h
                cases h
                refine ⟨fun _ => by simp, ?_⟩
                unfold closeRow at ec
                cases ea : lastAtom cur with
                | none => rw [ea] at ec; cases ec
                | some a =>
                  rw [ea] at ec
                  cases ec
                  obtain ⟨h1, h2⟩ := lastAtom_some ea
                  unfold prS
                  rw [if_neg (by simp), if_neg (by simp)]
                  dsimp only
                  rw [drop_args]
                  have hd : cur.dropLast ≠ [] := fun z => by
                    rw [z] at h2
                    rw [h2] at hl
                    simp at hl
                  rw [tkA_ne (show (Kd.mk cur.dropLast a.atom).args ≠ [] from hd), tk_mk]
                  have e2 : (tkArgs cur).dropLast = tkArgs cur.dropLast ++ [tl a.atom] := by
                    conv => lhs; rw [h2]
                    rw [drop_args, tkA_at h1]
                  rw [e2, List.reverse_cons, List.flatMap_append]
                  simp [List.append_assoc]
      · rename_i n1 n2 n3
        split at h
        · rename_i c
          cases h
          have hw : wants = true := c.1
          subst hw
          refine ⟨fun _ => by simp, ?_⟩
          unfold prS
          rw [if_neg (by simp), if_pos rfl, drop_args, tkA_nil]
          dsimp only
          rw [tl_mk, List.append_assoc]
        · cases h
theorem rrun_pr : ∀ {ts : List (List Nat)} {s s' : RdS}, RdOk s → rrun s ts = some s' → RdOk s' ∧ prS s' = prS s ++ ts
  | [], s, s', ok, h => by
    cases h
    exact ⟨ok, by simp⟩
  | t :: ts, s, s', ok, h => by
    unfold rrun at h
    cases e : rstep s t with
    | none => rw [e] at h; cases h
    | some s1 =>
      rw [e] at h
      obtain ⟨ok1, p1⟩ := rstep_pr ok e
      obtain ⟨ok2, p2⟩ := rrun_pr ok1 h
      exact ⟨ok2, by rw [p2, p1, List.append_assoc]; rfl⟩
theorem shape_sound {l : List Nat} {k : Kd} (h : shape l = some k) : txtL k = l := by
  unfold shape at h
  cases e : toks l with
  | none => rw [e] at h; cases h
  | some ts =>
    rw [e] at h
    dsimp only at h
    split at h
    · cases h
    · cases er : rrun rd0 ts with
      | none => rw [er] at h; cases h
      | some s =>
        rw [er] at h
        dsimp only at h
        obtain ⟨ok, p⟩ := rrun_pr (s := rd0) (fun z => by cases z) er
        have p0 : prS rd0 = [] := by unfold prS rd0; simp [tkArgs_nil]
        rw [p0, List.nil_append] at p
        unfold rres at h
        split at h
        · cases h
        · rename_i c
          obtain ⟨stk, cur, wants⟩ := s
          have hw : wants = false := by
            cases wants
            · rfl
            · exact absurd (.inl rfl) c
          have hs : stk = [] := by
            cases stk with
            | nil => rfl
            | cons a b => exact absurd (.inr (by simp)) c
          subst hw hs
          unfold closeRow at h
          dsimp only at h
          cases ea : lastAtom cur with
          | none => rw [ea] at h; cases h
          | some a =>
            rw [ea] at h
            cases h
            obtain ⟨h1, h2⟩ := lastAtom_some ea
            have hts : ts = tk (.mk cur.dropLast a.atom) := by
              rw [← p]
              unfold prS
              rw [if_neg (by simp), tk_mk]
              dsimp only
              conv => lhs; rw [h2]
              rw [drop_args, tkA_at h1]
              simp
            have fl := toks_flat l.length l ts (Nat.le_refl _) e
            rw [txtL, ← hts, fl]
/-- the kinds that are made -/
def parse (x : Str) : Option Kd := match shape (tl x) with
  | some k => if ordK k ≤ 4 then some k else none
  | none => none
theorem parse_txt {k : Kd} (h : wds k = true) (ho : ordK k ≤ 4) (hp : plc k ≤ 15) : parse (txt k) = some k := by
  unfold parse
  rw [tl_txt, shape_txt h (by omega) hp]
  dsimp only
  rw [if_pos ho]
theorem parse_sound {x : Str} {k : Kd} (h : parse x = some k) : txt k = x := by
  unfold parse at h
  cases e : shape (tl x) with
  | none => rw [e] at h; cases h
  | some j =>
    rw [e] at h
    dsimp only at h
    split at h
    · cases h
      exact ext_tl (by rw [tl_txt, shape_sound e])
    · cases h
end Fp
/-! W1: bundles, walks of comprehensions that keep what stood, words. -/
namespace Fp
open PySem PySem.Spec PyProof.Rows L2
/-- the text by places -/
def top (i : Nat) : Stmt := PySem.Challenge.pw_fromparts_k75_whole_questions_ranks_and.main.body.getD i (.Pass ⟨0, 0, 0, 0⟩)

/-! ### a def that can be called by its name -/
structure Cal (P : Program) (w : World) (K : PySem.W.Frag) (mg : Str → Option Value) (base : Heap) (CX : CXT) (k : Nat) (x : Str) (sp : Sp) : Prop where
  ex : ∃ (f : Addr) (fd : FuncData) (ps : List Str), FnOk P w K mg base CX k f fd ps sp ∧ mg x = some (.ref f) ∧ PySem.W.keepIn K (.ref f) = true ∧ Binds K fd ps []
section
variable {X : Cx} {k j : Nat} {x : Str} {sp : Sp} {p pos : Pos} {e : Expr} {es : List Expr} {t : TA}
/-- the call of a def that lets nothing out -/
theorem pe_c (c : Cal X.prog X.w X.K X.mg X.base CX0 k x sp) (hr : Room j X.A) (hk : k ≤ j := by decide) (hg : Gl X x := by rfl) (ha : PA X (e :: es) t) (hdb : (x == ("__debug__" : Str)) = false := by decide)
    (he : starEach (e :: es) X.env = (false, eval e X.env) :: starEach es X.env := by rfl) (hpl : (backTo pos (starEach es X.env)).any (·.1) = false := by rfl) :
    PE X (.Call (.Name x p) (e :: es) [] pos) (tCall sp [] E0 t) := by
  obtain ⟨f, fd, ps, F, hm, hkp, hb⟩ := c.ex
  exact pe_call F (hr.mono hk) hg hm hkp hb .nil pass0 ha hdb he hpl
/-- the call of a def that may raise -/
theorem pe_cx {E : L2.St → XK} (c : Cal X.prog X.w X.K X.mg X.base (L2.CX X.prog X.w) k x sp) (hr : Room j X.A) (hx : ∀ σ, PassesAt (L2.CX X.prog X.w) X σ (E σ)) (hk : k ≤ j := by decide) (hg : Gl X x := by rfl) (ha : PA X (e :: es) t) (hdb : (x == ("__debug__" : Str)) = false := by decide)
    (he : starEach (e :: es) X.env = (false, eval e X.env) :: starEach es X.env := by rfl) (hpl : (backTo pos (starEach es X.env)).any (·.1) = false := by rfl) :
    PE X (.Call (.Name x p) (e :: es) [] pos) (tCallS sp E t) := by
  obtain ⟨f, fd, ps, F, hm, hkp, hb⟩ := c.ex
  exact pe_callS F (hr.mono hk) hg hm hkp hb hx ha hdb he hpl
end
/-- where nothing is let out -/
theorem FnOk.quiet {P : Program} {w : World} {K : PySem.W.Frag} {mg : Str → Option Value} {base : Heap} {k : Nat} {f : Addr} {fd : FuncData} {ps : List Str} {sp sp' : Sp} (F : FnOk P w K mg base (L2.CX P w) k f fd ps sp)
    (h : ∀ vs H Q E, sp' vs H Q E → sp vs H Q E0) : FnOk P w K mg base CX0 k f fd ps sp' where
  len := fun vs H Q E q => F.len vs H Q E0 (h vs H Q E q)
  run := fun A outer s H args us vs Q E hr e0 hb r q => by
    refine codeAny_mono (F.run A outer s H args us vs Q E0 hr e0 hb r (h vs H Q E q)) fun r s' hq => ?_
    cases r with
    | error e =>
      obtain ⟨_, _, _, _, _, _, _, _, _, _, _, _, z⟩ := hq
      exact z.elim
    | ok fl => cases fl <;> exact hq
theorem Cal.quiet {P : Program} {w : World} {K : PySem.W.Frag} {mg : Str → Option Value} {base : Heap} {k : Nat} {x : Str} {sp sp' : Sp} (c : Cal P w K mg base (L2.CX P w) k x sp) (h : ∀ vs H Q E, sp' vs H Q E → sp vs H Q E0) : Cal P w K mg base CX0 k x sp' := by
  obtain ⟨f, fd, ps, F, hm, hkp, hb⟩ := c.ex
  exact ⟨f, fd, ps, FnOk.quiet F h, hm, hkp, hb⟩
theorem Cal.imp {P : Program} {w : World} {K : PySem.W.Frag} {mg : Str → Option Value} {base : Heap} {CX : CXT} {k : Nat} {x : Str} {sp sp' : Sp} (c : Cal P w K mg base CX k x sp) (h : ∀ vs H Q E, sp' vs H Q E → sp vs H Q E) : Cal P w K mg base CX k x sp' := by
  obtain ⟨f, fd, ps, F, hm, hkp, hb⟩ := c.ex
  exact ⟨f, fd, ps, F.imp h, hm, hkp, hb⟩
theorem Cal.mono {P : Program} {w : World} {K : PySem.W.Frag} {mg : Str → Option Value} {base : Heap} {CX : CXT} {k j : Nat} {x : Str} {sp : Sp} (c : Cal P w K mg base CX k x sp) (h : k ≤ j) : Cal P w K mg base CX j x sp := by
  obtain ⟨f, fd, ps, F, hm, hkp, hb⟩ := c.ex
  exact ⟨f, fd, ps, F.mono h, hm, hkp, hb⟩

/-! ### heaps that grow -/
theorem same_upd {H H1 : Hp} {p : Addr} {o : HO} (s : Same H H1) (h : H1 p = none) : Same H (upd H1 p o) := fun b u e => by
  rw [upd_ne (ne_of_none (s b u e) h)]
  exact s b u e
theorem same_new {H : Hp} {p : Addr} {o : HO} (h : H p = none) : Same H (upd H p o) := same_upd (Same.refl H) h
/-- what was not there before may be written -/
theorem same_put {H H1 : Hp} {p : Addr} {o : HO} (s : Same H H1) (h : H p = none) : Same H (upd H1 p o) := fun b u e => by
  rw [upd_ne (ne_of_none e h)]
  exact s b u e
theorem SqT.same {K : PySem.W.Frag} {H H' : Hp} {a : Addr} {xs : List V} (e : Same H H') (h : SqT K H a xs) : SqT K H' a xs :=
  h.elim (fun h => .inl (h.elim (fun h => .inl (e _ _ h)) fun ⟨o, h⟩ => .inr ⟨o, e _ _ h⟩)) fun h => .inr h
mutual
theorem Dp.same {K : PySem.W.Frag} {H H' : Hp} (e : Same H H') : ∀ {d : PyData} {v : V}, Dp K H v d → Dp K H' v d
  | .none, _, .non => .non
  | .bool b, _, .bl _ => .bl b
  | .int i, _, .int _ => .int i
  | .str x, _, .str _ => .str x
  | .list ds, _, .lst h t => .lst (e.seq h) (DpAll.same e t)
  | .tuple ds, _, .tup h t => .tup (SqT.same e h) (DpAll.same e t)
theorem DpAll.same {K : PySem.W.Frag} {H H' : Hp} (e : Same H H') : ∀ {ds : List PyData} {vs : List V}, DpAll K H vs ds → DpAll K H' vs ds
  | [], _, .nil => .nil
  | _ :: _, _, .cons h t => .cons (Dp.same e h) (DpAll.same e t)
end

mutual
/-- data without lists -/
def noL : PyData → Bool
  | .list _ => false
  | .tuple ds => noLs ds
  | .dict _ => false
  | _ => true
def noLs : List PyData → Bool
  | [] => true
  | d :: ds => noL d && noLs ds
end
/-- all but lists and instances stays -/
def SameN (H H' : Hp) : Prop := ∀ b o, (∀ xs, o ≠ HO.lst xs) → (∀ c d f, o ≠ HO.ins c d f) → H b = some o → H' b = some o
theorem SqT.sameN {K : PySem.W.Frag} {H H' : Hp} {a : Addr} {xs : List V} (e : SameN H H') (h : SqT K H a xs) : SqT K H' a xs :=
  h.elim (fun h => .inl (h.elim (fun h => .inl (e _ _ (fun _ z => by cases z) (fun _ _ _ z => by cases z) h)) fun ⟨o, h⟩ => .inr ⟨o, e _ _ (fun _ z => by cases z) (fun _ _ _ z => by cases z) h⟩)) fun h => .inr h
mutual
theorem Dp.sameN {K : PySem.W.Frag} {H H' : Hp} (e : SameN H H') : ∀ {d : PyData} {v : V}, noL d = true → Dp K H v d → Dp K H' v d
  | .none, _, _, .non => .non
  | .bool b, _, _, .bl _ => .bl b
  | .int i, _, _, .int _ => .int i
  | .str x, _, _, .str _ => .str x
  | .list ds, _, n, .lst h t => by simp [noL] at n
  | .tuple ds, _, n, .tup h t => .tup (SqT.sameN e h) (DpAll.sameN e (by rw [noL] at n; exact n) t)
theorem DpAll.sameN {K : PySem.W.Frag} {H H' : Hp} (e : SameN H H') : ∀ {ds : List PyData} {vs : List V}, noLs ds = true → DpAll K H vs ds → DpAll K H' vs ds
  | [], _, _, .nil => .nil
  | _ :: _, _, n, .cons h t => by
    rw [noLs, Bool.and_eq_true] at n
    exact .cons (Dp.sameN e n.1 h) (DpAll.sameN e n.2 t)
end
/-- all but what stands at D stays -/
def SameB (D : Addr) (H H' : Hp) : Prop := ∀ b o, b ≠ D → H b = some o → H' b = some o
theorem sB {D : Addr} {H H' : Hp} (s : Same H H') : SameB D H H' := fun b o _ e => s b o e
theorem SameB.trans {D : Addr} {H H1 H2 : Hp} (a : SameB D H H1) (b : SameB D H1 H2) : SameB D H H2 := fun c o n h => b c o n (a c o n h)
theorem sameB_upd {D : Addr} {H : Hp} {o : HO} : SameB D H (upd H D o) := fun b u n e => by rw [upd_ne n]; exact e
theorem SameB.noL {D : Addr} {H H' : Hp} {l : List V} (s : SameB D H H') (h : H D = some (.lst l)) : SameN H H' := fun b o n _ e => s b o (fun z => by rw [z, h] at e; exact n l (Option.some.inj e).symm) e
theorem SameN.refl (H : Hp) : SameN H H := fun _ _ _ _ e => e
theorem sN {H H' : Hp} (s : Same H H') : SameN H H' := fun b o _ _ e => s b o e
theorem SameN.trans {H H1 H2 : Hp} (a : SameN H H1) (b : SameN H1 H2) : SameN H H2 := fun c o n n2 h => b c o n n2 (a c o n n2 h)

/-! ### comprehensions and loops that keep what stood -/
section
variable {J : It} {n : Nat} {G : Hp → Prop} {Y : Nat → Hp → V → Hp → Prop}
/-- a comprehension whose turns keep what stands: R tells the list so far -/
theorem lc_same (w : Walk J n G Y) {g : TG} {tt : TT} {te : TE} {vs : List Nat} {σ : L2.St} {H1 : Hp} {D : Addr} {Qd : Hp → Prop} (hD : H1 D = none) (hn : n ≤ 16777216) (hGS : ∀ H, Same H1 H → G H)
    (R : Nat → List V → Hp → Prop) (mono : ∀ i acc H H' l, H D = some (.lst l) → SameB D H H' → R i acc H → R i acc H') (h0 : ∀ H, R 0 [] H) (hlen : ∀ i acc H, R i acc H → acc.length ≤ i)
    (hs : ∀ i x H H' acc, i < n → Same H1 H → H D = some (.lst acc) → R i acc H → Y i H x H' → ∀ (Qy : V → Hp → Prop) (Qn : Hp → Prop), (∀ y H4, Same H H4 → R (i + 1) (acc ++ [y]) H4 → Qy y H4) → (∀ H3, Same H H3 → R (i + 1) acc H3 → Qn H3) →
      g x (wipe σ vs) H' fun σ2 H2 => wipe σ2 vs = wipe σ vs ∧ tt σ2 H2 fun b H3 => if b = true then te σ2 H3 Qy else Qn H3)
    (hd : ∀ H acc, Same H1 H → H D = some (.lst acc) → R n acc H → Qd H) :
    ∃ W : Nat → Nat → Hp → Prop, (∃ m, W 0 m (upd H1 D (.lst []))) ∧ ∀ i m H, W i m H →
      (J.stop i H ∧ Qd H) ∨ (J.go i H ∧ ∃ Nx : Hp → Prop, (∀ H', Nx H' → ∃ m', m' < m ∧ W (i + 1) m' H') ∧ ∀ x H', J.yld i H x H' → g x (wipe σ vs) H' fun σ2 H2 => wipe σ2 vs = wipe σ vs ∧ tt σ2 H2 fun b H3 =>
        if b = true then te σ2 H3 fun y H4 => ∃ acc, H4 D = some (.lst acc) ∧ acc.length < sizeLine ∧ Nx (upd H4 D (.lst (acc ++ [y]))) else Nx H3) := by
  refine lc_it w (fun i H => Same H1 H ∧ ∃ acc, H D = some (.lst acc) ∧ R i acc H) ⟨same_new hD, [], upd_same, h0 _⟩ (fun i H _ p => hGS H p.1) (fun i x H H' hi ⟨s1, acc, hacc, r⟩ y => ?_) fun H ⟨s1, acc, hacc, r⟩ => hd H acc s1 hacc r
  have hl : acc.length < sizeLine := by
    have := hlen i acc H r
    rw [sizeLine_eq]
    omega
  refine hs i x H H' acc hi s1 hacc r y (fun y H4 => ∃ acc, H4 D = some (.lst acc) ∧ acc.length < sizeLine ∧ (Same H1 (upd H4 D (.lst (acc ++ [y]))) ∧ ∃ acc', upd H4 D (.lst (acc ++ [y])) D = some (.lst acc') ∧ R (i + 1) acc' (upd H4 D (.lst (acc ++ [y]))))) (fun H3 => Same H1 H3 ∧ ∃ acc, H3 D = some (.lst acc) ∧ R (i + 1) acc H3) (fun y H4 s4 r4 => ?_) (fun H3 s3 r3 => ?_)
  · exact ⟨acc, s4 _ _ hacc, hl, same_put (Same.trans s1 s4) hD, acc ++ [y], upd_same, mono _ _ _ _ acc (s4 _ _ hacc) sameB_upd r4⟩
  · exact ⟨Same.trans s1 s3, acc, s3 _ _ hacc, r3⟩
/-- .. without a test, each item by itself -/
theorem lc_each (w : Walk J n G Y) {g : TG} {te : TE} {vs : List Nat} {σ : L2.St} {H1 : Hp} {D : Addr} {Qd : Hp → Prop} (hD : H1 D = none) (hn : n ≤ 16777216) (hGS : ∀ H, Same H1 H → G H)
    (out : Nat → V → Hp → Prop) (mono : ∀ i y H H' l, H D = some (.lst l) → SameB D H H' → out i y H → out i y H')
    (hs : ∀ i x H H', i < n → Same H1 H → (∃ l, H D = some (.lst l)) → Y i H x H' → ∀ (Qy : V → Hp → Prop), (∀ y H4, Same H H4 → out i y H4 → Qy y H4) → g x (wipe σ vs) H' fun σ2 H2 => wipe σ2 vs = wipe σ vs ∧ te σ2 H2 Qy)
    (hd : ∀ H acc, Same H1 H → H D = some (.lst acc) → acc.length = n → (∀ i y, acc[i]? = some y → out i y H) → Qd H) :
    ∃ W : Nat → Nat → Hp → Prop, (∃ m, W 0 m (upd H1 D (.lst []))) ∧ ∀ i m H, W i m H →
      (J.stop i H ∧ Qd H) ∨ (J.go i H ∧ ∃ Nx : Hp → Prop, (∀ H', Nx H' → ∃ m', m' < m ∧ W (i + 1) m' H') ∧ ∀ x H', J.yld i H x H' → g x (wipe σ vs) H' fun σ2 H2 => wipe σ2 vs = wipe σ vs ∧ tYes σ2 H2 fun b H3 =>
        if b = true then te σ2 H3 fun y H4 => ∃ acc, H4 D = some (.lst acc) ∧ acc.length < sizeLine ∧ Nx (upd H4 D (.lst (acc ++ [y]))) else Nx H3) := by
  refine lc_same w (te := te) hD hn hGS (fun i acc H => acc.length = i ∧ ∀ j y, acc[j]? = some y → out j y H) (fun i acc H H' l hl s r => ⟨r.1, fun j y e => mono j y H H' l hl s (r.2 j y e)⟩) (fun H => ⟨rfl, fun j y e => by simp at e⟩) (fun i acc H r => Nat.le_of_eq r.1) (fun i x H H' acc hi s1 hacc r y Qy Qn hy _ => ?_) fun H acc s1 hacc r => hd H acc s1 hacc r.1 r.2
  have q := hs i x H H' hi s1 ⟨acc, hacc⟩ y Qy fun y' H4 s4 o4 => hy y' H4 s4 ⟨by rw [List.length_append, r.1]; rfl, fun j z e => ?_⟩
  · exact q
  · by_cases hj : j < acc.length
    · rw [List.getElem?_append_left hj] at e
      exact mono j z H H4 acc hacc (sB s4) (r.2 j z e)
    · rw [List.getElem?_append_right (Nat.le_of_not_lt hj)] at e
      have e0 : j - acc.length = 0 := by
        cases h : j - acc.length with
        | zero => rfl
        | succ m => rw [h] at e; simp at e
      rw [e0] at e
      have ez := Option.some.inj e
      subst ez
      have ej : j = i := by have := r.1; omega
      rw [ej]
      exact o4
end
/-- the items' values, where each is told by its place -/
theorem eq_map_of {α : Type} {acc : List V} {xs : List α} {f : α → V} (hl : acc.length = xs.length) (h : ∀ (i : Nat) (y : V), acc[i]? = some y → ∃ x, xs[i]? = some x ∧ y = f x) : acc = xs.map f := by
  apply List.ext_getElem?
  intro i
  rw [List.getElem?_map]
  cases e : acc[i]? with
  | none =>
    have h1 := List.getElem?_eq_none_iff.mp e
    rw [List.getElem?_eq_none_iff.mpr (by omega)]
    rfl
  | some y =>
    obtain ⟨x, hx, hy⟩ := h i y e
    rw [hx, hy]
    rfl

/-- a while by its invariant; what it asks is shown once, where the test's end is a letter -/
theorem wh_inv {c : TT} {tb : TS} {D : Ends} {σ : L2.St} {H : Hp} (Pv : L2.St → Hp → Prop) (μ : L2.St → Hp → Nat) (h0 : Pv σ H)
    (hs : ∀ σ H, Pv σ H → ∀ B : Hp → Prop, (∀ H1, (∀ N : L2.St → Hp → Prop, (∀ σ' H', Pv σ' H' → μ σ' H' < μ σ H → N σ' H') → tb { D with nx := N, ct := N, bk := D.nx } σ H1) → B H1) → c σ H fun b H1 => if b = true then B H1 else D.nx σ H1) : tWhile c tb D σ H := by
  refine ⟨fun m σ H => m = μ σ H ∧ Pv σ H, ⟨_, rfl, h0⟩, ?_⟩
  rintro m σ H ⟨rfl, p⟩
  exact hs σ H p (fun H1 => ∃ N : L2.St → Hp → Prop, (∀ σ' H', N σ' H' → ∃ m', m' < μ σ H ∧ m' = μ σ' H' ∧ Pv σ' H') ∧ tb { D with nx := N, ct := N, bk := D.nx } σ H1) fun H1 q =>
    ⟨fun σ' H' => Pv σ' H' ∧ μ σ' H' < μ σ H, fun σ' H' ⟨p', l⟩ => ⟨_, l, rfl, p'⟩, q _ fun σ' H' p' l => ⟨p', l⟩⟩
theorem szl {n : Nat} (h : n ≤ 16777216) : n ≤ sizeLine := by rw [sizeLine_eq]; exact h
theorem szlt {n : Nat} (h : n < 16777216) : n < sizeLine := by rw [sizeLine_eq]; exact h

/-! ### what the top has written: plain names -/
/-- the module's name x stands for v -/
def Gv (mg : Str → Option Value) (x : Str) (v : V) : Prop := ∃ u, mg x = some u ∧ RelV v u
theorem pe_gv {X : Cx} {x : Str} {v : V} {pos : Pos} (h : Gv X.mg x v) (hg : Gl X x := by rfl) (hd : (x == ("__debug__" : Str)) = false := by decide) : PE X (.Name x pos) (tC v) := by
  obtain ⟨u, hm, r⟩ := h
  exact pe_glob hg hm r hd
def Letters : Str := Str.ofString "abcdefghijklmnopqrstuvwxyz"
def Digits : Str := Str.ofString "0123456789"
structure Nm (mg : Str → Option Value) : Prop where
  isi : mg "isinstance" = none
  str : mg "str" = none
  int : mg "int" = none
  bool : mg "bool" = none
  tuple : mg "tuple" = none
  list : mg "list" = none
  dict : mg "dict" = none
  len : mg "len" = none
  all : mg "all" = none
  any : mg "any" = none
  set : mg "set" = none
  sorted : mg "sorted" = none
  zip : mg "zip" = none
  range : mg "range" = none
  max : mg "max" = none
  min : mg "min" = none
  abs : mg "abs" = none
  enum : mg "enumerate" = none
  repr : mg "repr" = none
  LETTERS : Gv mg "LETTERS" (.str Letters)
  DIGITS : Gv mg "DIGITS" (.str Digits)
  MAX_LETTERS : Gv mg "MAX_LETTERS" (.int 8)
  LONGEST : Gv mg "LONGEST" (.int (10 ^ 60))
  MAX_PLACES : Gv mg "MAX_PLACES" (.int 15)
  MAX_ORDER : Gv mg "MAX_ORDER" (.int 4)
  ARROW : Gv mg "ARROW" (.str (Str.ofString " -> "))
  MAX_PARTS : Gv mg "MAX_PARTS" (.int 8)
  COLON : Gv mg "COLON" (.str (Str.ofString " : "))
  MAX_SCOPE : Gv mg "MAX_SCOPE" (.int 140)
  MAX_DIGITS : Gv mg "MAX_DIGITS" (.int 60)
  NONE : Gv mg "NONE" (.str (Str.ofString "none"))
  TURNSTILE : Gv mg "TURNSTILE" (.str (Str.ofString "|- "))
  BETWEEN : Gv mg "BETWEEN" (.str (Str.ofString "; "))
theorem let_mem (c : Nat) : decide (c ∈ Letters.cps.toList) = isLet c := by
  have e : Letters.cps.toList = [97, 98, 99, 100, 101, 102, 103, 104, 105, 106, 107, 108, 109, 110, 111, 112, 113, 114, 115, 116, 117, 118, 119, 120, 121, 122] := by decide +kernel
  rw [e]
  by_cases h : 97 ≤ c ∧ c ≤ 122
  · have e2 : isLet c = true := by unfold isLet; simp [h.1, h.2]
    rw [e2, decide_eq_true_eq]
    obtain ⟨h1, h2⟩ := h
    have : c = 97 ∨ c = 98 ∨ c = 99 ∨ c = 100 ∨ c = 101 ∨ c = 102 ∨ c = 103 ∨ c = 104 ∨ c = 105 ∨ c = 106 ∨ c = 107 ∨ c = 108 ∨ c = 109 ∨ c = 110 ∨ c = 111 ∨ c = 112 ∨ c = 113 ∨ c = 114 ∨ c = 115 ∨ c = 116 ∨ c = 117 ∨ c = 118 ∨ c = 119 ∨ c = 120 ∨ c = 121 ∨ c = 122 := by omega
    simp only [List.mem_cons, List.not_mem_nil, or_false]
    exact this
  · have e2 : isLet c = false := by
      unfold isLet
      by_cases h1 : 97 ≤ c
      · have h2 : ¬ c ≤ 122 := fun z => h ⟨h1, z⟩
        simp [h2]
      · simp [h1]
    rw [e2, decide_eq_false_iff_not]
    simp only [List.mem_cons, List.not_mem_nil, or_false]
    omega
end Fp
/-! H0: what the head tells: a Hook of defs at any address, tables that are empty, one more Bool -/
namespace Fp
open PySem PySem.Spec PyProof.Rows L2 He He5
abbrev AlF : Type := He.AlD × Bool
/-- what is looked at: the module's names, the defs' code objects and defaults, the classes' names, their methods, records and code objects -/
def refsN (o : Obj) : List Addr := match o.data with
  | .dict es _ => es.toList.flatMap fun e => refV e.val
  | _ => []
def refsC (o : Obj) : List Addr := match o.data with
  | .func fd => refV fd.code ++ refV fd.defaults
  | .cls cd => [cd.ns]
  | _ => []
def refsM (o : Obj) : List Addr := match o.data with
  | .func fd => refV fd.code ++ refV fd.defaults
  | .fields vs => vs.toList.flatMap refV
  | _ => []
def stepG (f : Obj → List Addr) (g : Addr → Option Obj) (as : List Addr) : List Addr := as.flatMap fun a => match g a with
  | some o => f o
  | none => []
def asC (g : Addr → Option Obj) : List Addr :=
  mainGlobals :: (stepG refsN g [mainGlobals] ++ (stepG refsC g (stepG refsN g [mainGlobals]) ++ (stepG refsN g (stepG refsC g (stepG refsN g [mainGlobals])) ++
    (stepG refsM g (stepG refsN g (stepG refsC g (stepG refsN g [mainGlobals]))) ++ (stepG refsC g (stepG refsM g (stepG refsN g (stepG refsC g (stepG refsN g [mainGlobals])))) ++ [cStatics])))))
def obsF (fa : List Fa) (fn : List DefA) (tf : List Defn) (ex : PySem.W.Frag → Bool) (g : Addr → Option Obj) : AlF := (obsA fa fn (frT g (asC g)), ex (frT g (asC g)) && tabsB g tf (frT g (asC g)))
def valF (fn : List DefA) : AlF := (valA fn, true)
structure SaysF (fa : List Fa) (fn : List DefA) (tf : List Defn) (ex : PySem.W.Frag → Bool) (h : Heap) (K : PySem.W.Frag) : Prop where
  a : SaysA fa fn K
  more : ex K = true
  hd : ∀ p ∈ tf, PySem.W.codeHdIn K (cT K p).1 (cT K p).2 = true
  out : ∀ p ∈ tf, K.lookup (cT K p).2 = none
  empty : ∀ p ∈ tf, h.get? (cT K p).2 = some { cls := .none, data := .fields #[] }
theorem saysF_go {fa : List Fa} {fn : List DefA} {tf : List Defn} {ex : PySem.W.Frag → Bool} {h : Heap} {K : PySem.W.Frag} (hK : ∀ a o, h.get? a = some o → emptyTab o = true → K.lookup a = none) (e1 : obsA fa fn K = valA fn) (e2 : (ex K && tabsB h.get? tf K) = true) : SaysF fa fn tf ex h K := by
  obtain ⟨h1, h2⟩ := ba e2
  have key : ∀ p ∈ tf, PySem.W.codeHdIn K (cT K p).1 (cT K p).2 = true ∧ ∃ o, h.get? (cT K p).2 = some o ∧ emptyTab o = true := fun p hp => by
    obtain ⟨h3, h4⟩ := ba (List.all_eq_true.mp h2 p hp)
    refine ⟨h3, ?_⟩
    cases q : h.get? (cT K p).2 with
    | none => rw [q] at h4; cases h4
    | some o => rw [q] at h4; exact ⟨o, rfl, h4⟩
  refine ⟨e1, h1, fun p hp => (key p hp).1, fun p hp => ?_, fun p hp => ?_⟩
  · obtain ⟨_, o, q, z⟩ := key p hp
    exact hK _ o q z
  · obtain ⟨_, o, q, z⟩ := key p hp
    rw [q, emptyTab_eq z]
theorem saysF_of {fa : List Fa} {fn : List DefA} {tf : List Defn} {ex : PySem.W.Frag → Bool} {h : Heap} (e : obsF fa fn tf ex h.get? = valF fn) : SaysF fa fn tf ex h (frT h.get? (asC h.get?)) :=
  saysF_go (fun a o q z => frT_none q z) (congrArg (fun z : AlF => z.1) e) (congrArg (fun z : AlF => z.2) e)
def hookF (fa : List Fa) (fn : List DefA) (tf : List Defn) (ex : PySem.W.Frag → Bool) : PySem.W.Hook where
  α := AlF
  obs := fun s => obsF fa fn tf ex s.heap.get?
  val := fun _ => valF fn
  says := fun _ h => ∃ K : PySem.W.Frag, K.In h ∧ SaysF fa fn tf ex h K
  of := fun _ _ e => ⟨_, frT_in, saysF_of e⟩
  keeps := fun _ _ _ ⟨K, hK, c⟩ k => ⟨K, PySem.W.Frag.In.keeps hK k, ⟨c.a, c.more, c.hd, c.out, fun p hp => k _ _ (c.empty p hp)⟩⟩
theorem obsF_eq {fa : List Fa} {fn : List DefA} {tf : List Defn} {ex : PySem.W.Frag → Bool} {g : Addr → Option Obj} {s : Shared} (h : ∀ a, g a = s.heap.get? a) : obsF fa fn tf ex g = (hookF fa fn tf ex).obs s := by
  have e : g = s.heap.get? := funext h
  rw [e] <;> rfl
/-! ### more facts -/
open PySem.W in
def oexB (K : PySem.W.Frag) (C : Addr) : Bool := (match K.lookup C with
  | some ⟨.type "type", _, .cls cd, sl⟩ => (match cd.mro, sl.toList with
    | .ref C' :: bm, [_, _, _, _, some (.builtin n), _] => C' == C && (n == "ValueError.__new__" && (!cd.hasDel && (cd.hasDict && PySem.HandSPX.refsVE bm)))
    | _, _ => false)
  | _ => false) && (eqO (PySem.W.findIn K (.ref C) "__setattr__") (some (some (.builtin "object.__setattr__"))) && (decide (PySem.W.subIn K (.ref C) (.type "BaseException") = some true) && (decide (PySem.W.typeIn K (.ref C) = some (.type "type")) && PySem.W.keepIn K (.ref C))))
theorem oexB_ok {K : PySem.W.Frag} {C : Addr} (h : oexB K C = true) : OexC K C := by
  obtain ⟨q, h⟩ := ba h
  obtain ⟨h2, h⟩ := ba h
  obtain ⟨h3, h⟩ := ba h
  obtain ⟨h4, h5⟩ := ba h
  refine ⟨?_, eqO_ok h2, of_decide_eq_true h3, of_decide_eq_true h4, h5⟩
  split at q
  · rename_i dd cd sl ho
    split at q
    · rename_i C' bm k0 k1 k2 k3 n k5 hm hs
      obtain ⟨q1, q⟩ := ba q
      obtain ⟨q2, q⟩ := ba q
      obtain ⟨q3, q⟩ := ba q
      obtain ⟨q4, q5⟩ := ba q
      have e1 := eq_of_beq q1
      have e2 := eq_of_beq q2
      subst e1 e2
      obtain ⟨nm, bs, mro, ns, qn, hd, sn, sub, ab, col, del⟩ := cd
      dsimp only at hm q3 q4
      subst hm
      have e3 : del = false := by cases del with | false => rfl | true => cases q3
      subst e3 q4
      have hsl : sl = #[k0, k1, k2, k3, some (.builtin "ValueError.__new__"), k5] := by
        obtain ⟨l⟩ := sl
        simp only at hs
        rw [hs]
      subst hsl
      exact ⟨nm, qn, ns, bs, bm, sn, sub, ab, col, dd, k0, k1, k2, k3, k5, ho, q5⟩
    · cases q
  · cases q
def insB (K : PySem.W.Frag) (C : Addr) : Bool := eqO (PySem.W.findIn K (.ref C) "__class__") (some (some (.builtin "object.__class__"))) && (eqO (PySem.W.specialIn K (.builtin "object.__class__") "__get__") (some (some (.builtin "getset_descriptor.__get__"))) && (decide (PySem.W.takesIn K (.builtin "object.__class__") = some true) && (decide (PySem.W.mroIn K C (.type "object") = some true) && decide (PySem.W.kitOne K (.ref C) (.ref C) = some true))))
theorem insB_ok {K : PySem.W.Frag} {C : Addr} (c : Cls K C) (h : insB K C = true) : C8.InsC K C := by
  obtain ⟨h1, h⟩ := ba h
  obtain ⟨h2, h⟩ := ba h
  obtain ⟨h3, h⟩ := ba h
  obtain ⟨h4, h5⟩ := ba h
  exact ⟨c, eqO_ok h1, eqO_ok h2, of_decide_eq_true h3, of_decide_eq_true h4, of_decide_eq_true h5⟩
def readB (K : PySem.W.Frag) (C : Addr) (m : Str) : Bool := PySem.W.readsIn K C (.type "type") && (eqO (PySem.W.specialIn K (.ref C) "__getattribute__") (some (some (.builtin "type.__getattribute__"))) && (wrapB K C "classmethod" "classmethod.__get__" m && PySem.W.fnIn K (wf K C "classmethod" m)))
theorem readB_ok {K : PySem.W.Frag} {C : Addr} {m : Str} (h : readB K C m = true) : ClX.CRead K C (.type "type") ∧ ClX.CMet K C (.type "type") m (ma K C m) (wf K C "classmethod" m) := by
  obtain ⟨h1, h⟩ := ba h
  obtain ⟨h2, h⟩ := ba h
  obtain ⟨h3, h4⟩ := ba h
  exact ⟨⟨h1, eqO_ok h2⟩, cmet_of h3 h4⟩
def strB (K : PySem.W.Frag) (C : Addr) : Bool := eqO (PySem.W.findIn K (.ref C) "__format__") (some (some (.builtin "object.__format__"))) && decide (PySem.W.mroIn K C (.type "object") = some true)
theorem strB_ok {K : PySem.W.Frag} {C : Addr} (h : strB K C = true) : PySem.W.findIn K (.ref C) "__format__" = some (some (.builtin "object.__format__")) ∧ PySem.W.mroIn K C (.type "object") = some true := by
  obtain ⟨h1, h2⟩ := ba h
  exact ⟨eqO_ok h1, of_decide_eq_true h2⟩
end Fp
/-! H1: what the head is asked -/
namespace Fp
open PySem PySem.Spec PyProof.Rows L2 He He5
def dG (x : Str) (st : Stmt) : DefA := ⟨fun K => ga K x, x, x, defArgs st, defBody st, defScope st, [], []⟩
def dM (C m q : Str) (st : Stmt) (dfl : List Dv) : DefA := ⟨fun K => ma K (ga K C) m, m, q, defArgs st, defBody st, defScope st, dfl, []⟩
def dRead : DefA := ⟨fun K => wf K (ga K "Type") "classmethod" "read", "read", "Type.read", defArgs (inClass (top 30) 1), defBody (inClass (top 30) 1), defScope (inClass (top 30) 1), [], []⟩
def fn0 : List DefA := [dG "is_word" (top 8), dG "signs_of" (top 24), dG "shape_of" (top 26), dG "kind_in" (top 27), dG "order_of" (top 28), dG "input_text" (top 29), dG "type_of_text" (top 31), dG "is_parts" (top 37), dG "ascending_rows" (top 9), dG "part_of_line" (top 38), dG "number_of" (top 54), dG "is_scope" (top 47)]
def fn1 : List DefA := [dG "is_question" (top 48), dG "question_text" (top 56), dG "question_told" (top 57), dG "write_question" (top 58), dG "read_question" (top 59), dG "lines_of" (top 55), dG "line_told" (top 66), dG "pairs_told" (top 63), dG "read_library" (top 67), dG "require_library" (top 40), dG "write_library" (top 65), dG "is_integer" (top 6)]
def fn2 : List DefA := [dG "is_rank_dict" (top 60), dG "write_ranks" (top 61), dG "rank_told" (top 62), dG "read_ranks" (top 64), dG "_law_dice" (top 69), dG "_law_roll" (top 70), dG "_law_pick" (top 71), dG "_law_some" (top 72), dG "_law_text" (top 73), dG "_law_atoms_of" (top 74), dG "_law_kind" (top 75), dG "_law_made_kind" (top 76)]
def fn3 : List DefA := [dG "_law_library" (top 77), dG "_law_known_library" (top 78), dG "_law_lines" (top 79), dG "_law_made" (top 80), dG "_law_library_atoms" (top 81), dG "_law_goal" (top 82), dG "_law_kinds_under" (top 83), dG "_law_kind_dict" (top 84), dG "_law_question" (top 85), dG "_law_first" (top 86), dG "_law_subs" (top 87), dG "_law_asked" (top 88)]
def fn4 : List DefA := [dG "_law_ranks" (top 89), dG "_law_view" (top 90), dG "_law_question_line" (top 91), dG "_law_bent" (top 92), dG "_law_got" (top 93), dG "_law_near_right" (top 94), dG "_law_is_first" (top 95), dG "_law_right" (top 96), dG "law" (top 97), dM "KindReader" "__init__" "KindReader.__init__" (inClass (top 25) 0) [], dM "KindReader" "take" "KindReader.take" (inClass (top 25) 1) [], dM "KindReader" "take_end" "KindReader.take_end" (inClass (top 25) 2) []]
def fn5 : List DefA := [dM "KindReader" "result" "KindReader.result" (inClass (top 25) 3) [], dM "Type" "__init__" "Type.__init__" (inClass (top 30) 0) [], dM "Type" "__str__" "Type.__str__" (inClass (top 30) 20) [], dM "Library" "__init__" "Library.__init__" (inClass (top 39) 0) [.non], dM "Library" "__eq__" "Library.__eq__" (inClass (top 39) 23) [], dM "ParseError" "__init__" "ParseError.__init__" (inClass (top 17) 0) [], dRead]
def fn : List DefA := fn0 ++ (fn1 ++ (fn2 ++ (fn3 ++ (fn4 ++ (fn5)))))
def fa0 : List Fa := [.glo "is_word", .glo "signs_of", .glo "shape_of", .glo "kind_in", .glo "order_of", .glo "input_text", .glo "type_of_text", .glo "is_parts", .glo "ascending_rows", .glo "part_of_line", .glo "number_of", .glo "is_scope"]
def fa1 : List Fa := [.glo "is_question", .glo "question_text", .glo "question_told", .glo "write_question", .glo "read_question", .glo "lines_of", .glo "line_told", .glo "pairs_told", .glo "read_library", .glo "require_library", .glo "write_library", .glo "is_integer"]
def fa2 : List Fa := [.glo "is_rank_dict", .glo "write_ranks", .glo "rank_told", .glo "read_ranks", .glo "_law_dice", .glo "_law_roll", .glo "_law_pick", .glo "_law_some", .glo "_law_text", .glo "_law_atoms_of", .glo "_law_kind", .glo "_law_made_kind"]
def fa3 : List Fa := [.glo "_law_library", .glo "_law_known_library", .glo "_law_lines", .glo "_law_made", .glo "_law_library_atoms", .glo "_law_goal", .glo "_law_kinds_under", .glo "_law_kind_dict", .glo "_law_question", .glo "_law_first", .glo "_law_subs", .glo "_law_asked"]
def fa4 : List Fa := [.glo "_law_ranks", .glo "_law_view", .glo "_law_question_line", .glo "_law_bent", .glo "_law_got", .glo "_law_near_right", .glo "_law_is_first", .glo "_law_right", .glo "law", .glo "KindReader", .glo "Type", .glo "Library"]
def fa5 : List Fa := [.glo "ParseError", .glo "BuildError", .glo "InvalidType", .glo "InvalidLibrary", .free "isinstance", .free "str", .free "int", .free "bool", .free "tuple", .free "list", .free "dict", .free "len"]
def fa6 : List Fa := [.free "all", .free "any", .free "set", .free "sorted", .free "zip", .free "range", .free "max", .free "min", .free "abs", .free "enumerate", .free "repr", .int "MAX_LETTERS" 8]
def fa7 : List Fa := [.int "LONGEST" (10 ^ 60), .int "MAX_PLACES" 15, .int "MAX_ORDER" 4, .int "MAX_PARTS" 8, .int "MAX_SCOPE" 140, .int "MAX_DIGITS" 60, .str "LETTERS" Letters, .str "DIGITS" Digits, .str "ARROW" (Str.ofString " -> "), .str "COLON" (Str.ofString " : "), .str "NONE" (Str.ofString "none"), .str "TURNSTILE" (Str.ofString "|- ")]
def fa8 : List Fa := [.str "BETWEEN" (Str.ofString "; "), .cls "KindReader", .cls "Type", .cls "Library", .mkr "KindReader", .mkr "Type", .mkr "Library", .noat "KindReader" "of_rows", .noat "KindReader" "of_wants", .noat "Type" "own_args", .noat "Type" "own_atom", .noat "Type" "own_places"]
def fa9 : List Fa := [.noat "Type" "own_order", .noat "Type" "own_text", .noat "Library" "own_parts", .noat "Library" "own_names", .noat "Library" "own_lines", .noat "Library" "own_scope", .noat "ParseError" "line", .meth "KindReader" "take", .meth "KindReader" "take_end", .meth "KindReader" "result", .meth "Type" "__str__", .meth "Library" "__eq__"]
def fa10 : List Fa := [.meth "ParseError" "__init__", .exc "InvalidType", .exc "InvalidLibrary", .exm "InvalidType" "InvalidType" true, .exm "InvalidLibrary" "InvalidLibrary" true, .exm "ParseError" "ParseError" true, .exm "InvalidLibrary" "ParseError" false, .exm "ParseError" "BuildError" true]
def fa : List Fa := fa0 ++ (fa1 ++ (fa2 ++ (fa3 ++ (fa4 ++ (fa5 ++ (fa6 ++ (fa7 ++ (fa8 ++ (fa9 ++ (fa10))))))))))
def tf : List Defn := [("_law_near_right", none), ("_law_is_first", none), ("law", none)]
def exL (K : PySem.W.Frag) : List Bool := [oexB K (ga K "ParseError"), xfB K (ga K "ParseError"), insB K (ga K "Type"), insB K (ga K "Library"), strB K (ga K "Type"), readB K (ga K "Type") "read",
  decide (PySem.W.typeIn K (.ref (ma K (ga K "ParseError") "__init__")) = some (.type "function")), decide ((cT K ("_law_near_right", none)).2 ≠ (cT K ("_law_is_first", none)).2), decide ((cT K ("_law_near_right", none)).2 ≠ (cT K ("law", none)).2), decide ((cT K ("_law_is_first", none)).2 ≠ (cT K ("law", none)).2)]
def ex (K : PySem.W.Frag) : Bool := (exL K).all id
end Fp
set_option maxHeartbeats 0
/-! HR: the head's run -/
namespace HdR
open PySem PySem.W PySem.Calls PyProof.Rows Fp
abbrev Rw : OpenRow := OpenLaw.row PySem.Challenge.rw_fromparts_k75_whole_questions_ranks_and
abbrev qv : Program := view Rw.prog [97]
def names0 : List PySem.Str := ["_wall", "MAX_LETTERS", "LETTERS", "DIGITS", "LONGEST", "is_integer", "is_within", "is_word", "ascending_rows", "BuildError", "InvalidWord", "InvalidType", "InvalidLibrary", "InvalidQuestion", "InvalidOperation"]
def names1 : List PySem.Str := ["ParseError", "UnknownWord", "InvalidNumber", "MAX_PLACES", "MAX_ORDER", "ARROW", "signs_of", "KindReader", "shape_of", "kind_in", "order_of", "input_text", "Type", "type_of_text", "parts_list"]
def names2 : List PySem.Str := ["signed_atoms", "MAX_PARTS", "COLON", "is_parts", "part_of_line", "Library", "require_library", "require_other_library", "atoms_in", "has_part", "united_library", "MAX_SCOPE", "is_scope", "is_question", "MAX_DIGITS"]
def names3 : List PySem.Str := ["NONE", "TURNSTILE", "BETWEEN", "number_of", "lines_of", "question_text", "question_told", "write_question", "read_question", "is_rank_dict", "write_ranks", "rank_told", "pairs_told", "read_ranks", "write_library"]
def names4 : List PySem.Str := ["line_told", "read_library", "_law_dice", "_law_roll", "_law_pick", "_law_some", "_law_text", "_law_atoms_of", "_law_kind", "_law_made_kind", "_law_library", "_law_known_library", "_law_lines", "_law_made", "_law_library_atoms"]
def names5 : List PySem.Str := ["_law_goal", "_law_kinds_under", "_law_kind_dict", "_law_question", "_law_first", "_law_subs", "_law_asked", "_law_ranks", "_law_view", "_law_question_line", "_law_bent", "_law_got", "_law_near_right", "_law_is_first", "_law_right"]
def names : List PySem.Str := names0 ++ names1 ++ names2 ++ names3 ++ names4 ++ names5
abbrev hk : Hook := hookF fa fn tf ex
def ob (s : SharedT) : AlF := obsF fa fn tf ex (HandSHeadRun.getT s)
theorem ob_eq (s : SharedT) : ob s = hk.obs s.abs := obsF_eq (HandSHeadRun.getT_eq s)
theorem run (w : World) : HandSHeadRun.RunEq Rw qv hk ob 12000 names w := by
  intro os
  kernel_rfl
end HdR
set_option maxHeartbeats 4000000
namespace Fp
open PySem PySem.Spec PyProof.Rows L2 TL
section
variable {P : Program} {w : World} {K : PySem.W.Frag} {mg : Str → Option Value} {base : Heap}
theorem isWord_eq (x : Str) (h1 : 1 ≤ x.length) (h2 : x.length ≤ 8) : ((tl x).map isLet).all id = isWord x := by
  rw [len_tl] at h1 h2
  unfold isWord wordB
  rw [decide_eq_true h1, decide_eq_true h2, List.all_map]
  rfl
theorem isWord_no (x : Str) (h : ¬ (1 ≤ x.length ∧ x.length ≤ 8)) : isWord x = false := by
  rw [len_tl] at h
  unfold isWord wordB
  by_cases h1 : 1 ≤ (tl x).length
  · have h2 : ¬ (tl x).length ≤ 8 := fun z => h ⟨h1, z⟩
    rw [decide_eq_false h2]
    simp
  · rw [decide_eq_false h1]
    simp
/-! ### is_word -/
abbrev s_is_word : Stmt := top 8
abbrev N_is_word : List Str := ["value", "sign"]
theorem sc_is_word : FnScope N_is_word ["value"] (defScope s_is_word) := ⟨rfl, rfl, rfl, by decide +kernel, rfl, by decide +kernel, by decide +kernel⟩
def sp_is_word : Sp := fun vs H Q _ => ∃ x : Str, vs = [.str x] ∧ x.length ≤ 16777216 ∧ ∀ H', Same H H' → Q (.bl (isWord x)) H'
theorem ok_is_word {f : Addr} {fd : FuncData} (F : Fun K "is_word" "is_word" s_is_word f fd) (N : Nm mg) : FnOk P w K mg base CX0 1 f fd ["value"] sp_is_word := by
  refine F.ok sc_is_word (fun vs H Q E h => ?_) (fun cdv A outer s H vs Q E hr h => ?_)
  · obtain ⟨x, rfl, _⟩ := h
    rfl
  · obtain ⟨x, rfl, hx, k⟩ := h
    refine ⟨_, (pss_one (ps_ret (pe_and (pe_callB call_isi (by rfl) N.isi (by decide +kernel) (pa_cons (pv 0) (pa_cons (pe_bltn (v := .ty "str") (by rfl) N.str (by decide +kernel) rfl) pa_nil))) (pe_and (pe_chain op_le op_le pe_int (pe_callB call_len_str (by rfl) N.len (by decide +kernel) (pa_cons (pv 0) pa_nil)) (pe_gv N.MAX_LETTERS)) (pe_one (pe_callB (cr_all rfl) (by rfl) N.all (by decide +kernel) (pa_cons (pe_lc (own := [("sign", 1)]) (g := gName 1) (tt := tYes) rfl sc_is_word.nd (pi_str (pv 0)) (blkOk_by (N := N_is_word) (sc := defScope s_is_word) (by decide +kernel)) (fun _ _ _ _ _ => pg_name (i := 1) sc_is_word.nd rfl (Or.inl rfl)) (fun _ _ _ _ _ => pts_nil) (fun _ _ _ _ _ => (pe_cmpR op_in_sign (pv 1) (pe_gv N.LETTERS) rfl))) pa_nil))))))), ?_⟩
    refine ⟨_, rfl, _, _, _, _, true, rfl, .ty "str", .base (.str x), kit_ty (by decide +kernel), _, rfl, iteT ?_⟩
    refine ⟨_, rfl, x, rfl, szl hx, _, _, rfl, rfl, _, rfl, ?_⟩
    refine ite2 (fun h1 => ?_) (fun h1 => ?_)
    · refine ⟨_, _, rfl, rfl, _, rfl, ite2 (fun h2 => ?_) (fun h2 => ?_)⟩
      · rw [decide_eq_true_eq] at h1 h2
        refine ⟨_, rfl, x, rfl, fun D hD => ?_⟩
        refine lc_each walk_str hD hx (fun _ _ => True.intro) (fun i y _ => ∃ c, x.cps[i]? = some c ∧ y = .bl (isLet c)) (fun i y H H' l _ _ r => r) (fun i z H0 H' hi s1 hl y Qy hy => ?_) (fun H0 acc s1 hacc hlen hr => ?_)
        · obtain ⟨rfl, c, hc, rfl⟩ := y
          refine ⟨rfl, _, rfl, c, _, rfl, rfl, ?_⟩
          rw [let_mem]
          exact hy _ _ (Same.refl _) ⟨c, hc, rfl⟩
        · have e : acc = ((tl x).map isLet).map V.bl := by
            rw [List.map_map]
            refine eq_map_of (by rw [hlen]; simp [tl]) fun i y e => ?_
            obtain ⟨c, hc, hy⟩ := hr i y e
            exact ⟨c, by rw [tl, Array.getElem?_toList]; exact hc, hy⟩
          refine ⟨D, (tl x).map isLet, rfl, SqL.of (by rw [hacc, e]), ?_⟩
          rw [isWord_eq x (by omega) (by omega)]
          exact k _ s1
      · rw [decide_eq_true_eq] at h1 h2
        have e : isWord x = false := isWord_no x (by omega)
        rw [← e]
        exact k _ (Same.refl _)
    · rw [decide_eq_true_eq] at h1
      have e : isWord x = false := isWord_no x (by omega)
      refine ⟨_, rfl, iteF ?_⟩
      rw [← e]
      exact k _ (Same.refl _)
end
end Fp
namespace Fp
open PySem PySem.Spec PyProof.Rows L2 TL
abbrev S (l : List Nat) : Str := ⟨l.toArray⟩
theorem at_eq {α : Type} {xs : List α} {z : Int} {j : Nat} {v : α} (e : z = (j : Int)) (h : xs[j]? = some v) : atI xs z = some v := by rw [e]; exact atI_nat h
theorem arrow_eq : Str.ofString " -> " = S Arr := by decide +kernel
theorem cut_eq (x : Str) (a b : Nat) : cutS x (some (a : Int)) (some (b : Int)) = S (((tl x).drop (min a (tl x).length)).take (min b (tl x).length - min a (tl x).length)) := by
  unfold cutS
  rw [HT.sIx_nat, HT.sIx_nat, len_tl]
theorem cut_at (x : Str) (a n : Nat) (h : a ≤ (tl x).length) : cutS x (some (a : Int)) (some ((a + n : Nat) : Int)) = S (((tl x).drop a).take n) := by
  rw [cut_eq, Nat.min_eq_left h]
  refine congrArg (fun l : List Nat => S l) ?_
  by_cases h2 : a + n ≤ (tl x).length
  · rw [Nat.min_eq_left h2, Nat.add_sub_cancel_left]
  · rw [Nat.min_eq_right (by omega), List.take_of_length_le (by rw [List.length_drop]; omega), List.take_of_length_le (by rw [List.length_drop]; omega)]
/-- the number in a slot -/
def slI (σ : L2.St) (i : Nat) : Nat := match σ[i]? with
  | some (some (V.int n)) => n.toNat
  | _ => 0
theorem tw_more {t : List Nat} {j : Nat} (h : (t.take j).all isLet = true) (hj : j ≤ t.length) (he : j = t.length ∨ ∃ c, t[j]? = some c ∧ isLet c = false) : (t.takeWhile isLet).length = j := by
  have e : t = t.take j ++ t.drop j := (List.take_append_drop j t).symm
  rw [e, List.takeWhile_append_of_pos (fun a ha => List.all_eq_true.mp h a ha), List.length_append, List.length_take, Nat.min_eq_left hj]
  rcases he with he | ⟨c, hc, hl⟩
  · rw [List.drop_of_length_le (by omega)]
    simp
  · obtain ⟨hlt, e2⟩ := List.getElem?_eq_some_iff.mp hc
    rw [List.drop_eq_getElem_cons hlt, e2, List.takeWhile_cons, if_neg (by rw [hl]; exact Bool.false_ne_true)]
    simp
section
variable {P : Program} {w : World} {K : PySem.W.Frag} {mg : Str → Option Value} {base : Heap}
/-! ### signs_of -/
abbrev s_signs_of : Stmt := top 24
abbrev N_signs_of : List Str := ["text", "found", "at", "size"]
theorem sc_signs_of : FnScope N_signs_of ["text"] (defScope s_signs_of) := ⟨rfl, rfl, rfl, by decide +kernel, rfl, by decide +kernel, by decide +kernel⟩
abbrev sV (t : List Nat) : V := .str (S t)
def sp_signs_of : Sp := fun vs H Q _ => ∃ x : Str, vs = [.str x] ∧ x.length ≤ 1000000 ∧ (toks (tl x) = none → ∀ H', Same H H' → Q .non H') ∧
  ∀ ts, toks (tl x) = some ts → ∀ p H', Same H H' → H p = none → H' p = some (.lst (ts.map sV)) → ts.length ≤ x.length → Q (.ref p) H'
theorem ok_signs_of {f : Addr} {fd : FuncData} (F : Fun K "signs_of" "signs_of" s_signs_of f fd) (N : Nm mg) : FnOk P w K mg base CX0 1 f fd ["text"] sp_signs_of := by
  refine F.ok sc_signs_of (fun vs H Q E h => ?_) (fun cdv A outer s H vs Q E hr h => ?_)
  · obtain ⟨x, rfl, _⟩ := h
    rfl
  · obtain ⟨x, rfl, hx, kN, kS⟩ := h
    have hxs : x.length ≤ sizeLine := szl (by omega)
    have hxl := len_tl x
    refine ⟨_, (pss_cons (ps_set (i := 1) sc_signs_of.nd rfl (Or.inl rfl) (pe_lst pa_nil))
      (pss_cons (ps_set (i := 2) sc_signs_of.nd rfl (Or.inl rfl) pe_int)
      (pss_cons (ps_while PassesOwn.never (pt_cmpR op_lt (pv 2) (pe_callB call_len_str (by rfl) N.len (by decide +kernel) (pa_cons (pv 0) pa_nil)) (nomark _)) (pss_cons (ps_set (i := 3) sc_signs_of.nd rfl (Or.inl rfl) pe_int)
      (C8.pss_cut (ps_if (pt_cmpR op_in_sign (pe_ix ix_str (pv 0) (pv 2) (fun _ _ => rfl)) (pe_gv N.LETTERS) rfl) (pss_one (ps_while PassesOwn.never (PW.pt (pw_and (pt_cmpR op_ne (pe_slice sl_str (pv 0) (po_some (pe_op op_add (pv 2) (pv 3))) (po_some (pe_op op_add (pe_op op_add (pv 2) (pv 3)) pe_int))) pe_str (nomark _)) (pw_and1 (pt_cmpR op_in_sign (pe_ix ix_str (pv 0) (pe_op op_add (pv 2) (pv 3)) (fun _ _ => rfl)) (pe_gv N.LETTERS) rfl)))) (pss_one (ps_set (i := 3) sc_signs_of.nd rfl (Or.inl rfl) (pe_op op_add (pv 3) pe_int))))) (pss_one (ps_if (pt_cmpR op_eq (pe_slice sl_str (pv 0) (po_some (pv 2)) (po_some (pe_op op_add (pv 2) pe_int))) (pe_gv N.ARROW) (nomark _)) (pss_one (ps_set (i := 3) sc_signs_of.nd rfl (Or.inl rfl) pe_int)) (pss_one (ps_if (pt_cmpR op_notIn_sign (pe_ix ix_str (pv 0) (pv 2) (fun _ _ => rfl)) pe_str rfl) (pss_one (ps_ret pe_non)) pss_nil)))))
      (pss_cons (ps_expr (pe_bm PySem.F.plainAttrs_list PySem.F.slot_list_append PySem.F.type_list_append mt_append (pv 1) (pa_cons (pe_slice sl_str (pv 0) (po_some (pv 2)) (po_some (pe_op op_add (pv 2) (pv 3)))) pa_nil)))
      (pss_one (ps_set (i := 2) sc_signs_of.nd rfl (Or.inl rfl) (pe_op op_add (pv 2) (pv 3))))))))
      (pss_one (ps_ret (pv 1)))))), ?_⟩
    refine ⟨Nat.zero_le _, fun p hp => ?_⟩
    refine wh_inv (fun σ H' => ∃ (at_ : Nat) (done : List (List Nat)) (v : Option V), σ = [some (.str x), some (.ref p), some (.int at_), v] ∧ at_ ≤ (tl x).length ∧ Same H H' ∧ H' p = some (.lst (done.map sV)) ∧ done.length ≤ at_ ∧ toks (tl x) = (toks ((tl x).drop at_)).map (done ++ ·))
      (fun σ _ => (tl x).length - slI σ 2) ⟨0, [], none, rfl, Nat.zero_le _, same_new hp, upd_same, Nat.le_refl _, by simp⟩ (fun σ H1 hinv B hB => ?_)
    obtain ⟨at_, done, v, rfl, hat, s1, hpl, hdl, ht⟩ := hinv
    refine ⟨_, rfl, _, rfl, x, rfl, hxs, _, _, rfl, rfl, _, rfl, ite2 (fun hlt => ?_) (fun hge => ?_)⟩
    · rw [decide_eq_true_eq] at hlt
      have hlt' : at_ < (tl x).length := by omega
      refine hB _ fun N' hN' => ?_
      obtain ⟨c, hc⟩ := List.getElem?_eq_some_iff.mpr ⟨hlt', rfl⟩ |> fun h => (⟨_, h⟩ : ∃ c, (tl x)[at_]? = some c)
      have hdrop : (tl x).drop at_ = c :: (tl x).drop (at_ + 1) := by
        obtain ⟨h1, h2⟩ := List.getElem?_eq_some_iff.mp hc
        rw [List.drop_eq_getElem_cons h1, h2]
      have hne : (tl x).drop at_ ≠ [] := by rw [hdrop]; simp
      -- the size of the next sign
      refine ⟨fun σ H' => H' = H1 ∧ ∃ n : Nat, σ = [some (.str x), some (.ref p), some (.int at_), some (.int n)] ∧ nextTok ((tl x).drop at_) = some n, ?_, ?_⟩
      · refine ⟨_, rfl, _, rfl, x, at_, c, rfl, rfl, hxs, atI_nat hc, _, _, rfl, rfl, _, rfl, ite2 (fun h1 => ?_) (fun h1 => ?_)⟩
        · rw [let_mem] at h1
          refine wh_inv (fun σ H' => H' = H1 ∧ ∃ j : Nat, σ = [some (.str x), some (.ref p), some (.int at_), some (.int ((j + 1 : Nat) : Int))] ∧ at_ + 1 + j ≤ (tl x).length ∧ (((tl x).drop (at_ + 1)).take j).all isLet = true)
            (fun σ _ => (tl x).length + 1 - slI σ 3) ⟨rfl, 0, rfl, by omega, by simp⟩ (fun σ H2 hinv B2 hB2 => ?_)
          obtain ⟨rfl, j, rfl, hj, hall⟩ := hinv
          have done_ : (∀ c', (tl x)[at_ + 1 + j]? = some c' → isLet c' = false) → nextTok ((tl x).drop at_) = some (j + 1) := fun hn => by
            rw [hdrop, nextTok_cons, if_pos h1, tw_more hall (by rw [List.length_drop]; omega) ?_, Nat.add_comm]
            by_cases he : at_ + 1 + j = (tl x).length
            · exact .inl (by rw [List.length_drop]; omega)
            · have hlt2 : at_ + 1 + j < (tl x).length := by omega
              refine .inr ⟨(tl x)[at_ + 1 + j], ?_, hn _ (List.getElem?_eq_getElem hlt2)⟩
              rw [List.getElem?_drop, List.getElem?_eq_getElem hlt2]
          have hcut : cutS x (some ((at_ : Int) + ((j + 1 : Nat) : Int))) (some ((at_ : Int) + ((j + 1 : Nat) : Int) + 1)) = S (((tl x).drop (at_ + 1 + j)).take 1) := by
            have q := cut_at x (at_ + 1 + j) 1 hj
            rw [← q]
            congr 2 <;> push_cast <;> omega
          refine ⟨_, rfl, _, rfl, _, rfl, _, _, rfl, rfl, _, rfl, _, rfl, _, rfl, _, _, rfl, rfl, _, _, rfl, rfl, _, rfl, x, rfl, hxs, rfl, _, rfl, ?_⟩
          rw [hcut]
          refine ite2 (fun h2 => ?_) (fun h2 => ?_)
          · have h2' : S (((tl x).drop (at_ + 1 + j)).take 1) ≠ Str.ofString "" := by
              intro e
              rw [e] at h2
              simp at h2
            have hlt2 : at_ + 1 + j < (tl x).length := by
              rcases Nat.lt_or_ge (at_ + 1 + j) (tl x).length with z | z
              · exact z
              · exfalso
                apply h2'
                rw [List.drop_of_length_le z]
                decide +kernel
            have hc2 : (tl x)[at_ + 1 + j]? = some (tl x)[at_ + 1 + j] := List.getElem?_eq_getElem hlt2
            have hix : ((at_ : Int) + ((j + 1 : Nat) : Int)) = ((at_ + 1 + j : Nat) : Int) := by push_cast; omega
            refine ⟨_, rfl, _, rfl, _, rfl, _, _, rfl, rfl, x, _, (tl x)[at_ + 1 + j], rfl, rfl, hxs, at_eq hix hc2, _, _, rfl, rfl, _, rfl, ?_⟩
            rw [let_mem]
            cases e3 : isLet (tl x)[at_ + 1 + j] with
            | true =>
              refine iteT (hB2 _ fun N2 hN2 => ?_)
              refine ⟨_, rfl, _, _, rfl, rfl, hN2 _ _ ⟨rfl, j + 1, rfl, by omega, ?_⟩ ?_⟩
              · rw [List.take_add_one, List.all_append, hall, List.getElem?_drop, hc2]
                show (true && (isLet (tl x)[at_ + 1 + j] && true)) = true
                rw [e3]
                rfl
              · show (tl x).length + 1 - ((((j + 1 : Nat) : Int) + 1)).toNat < (tl x).length + 1 - (((j + 1 : Nat) : Int)).toNat
                omega
            | false =>
              refine iteF ⟨rfl, j + 1, rfl, done_ fun c' hc' => ?_⟩
              rw [hc2] at hc'
              cases hc'
              exact e3
          · have h2' : S (((tl x).drop (at_ + 1 + j)).take 1) = Str.ofString "" := by
              simpa using h2
            refine ⟨rfl, j + 1, rfl, done_ fun c' hc' => ?_⟩
            exfalso
            obtain ⟨hlt2, _⟩ := List.getElem?_eq_some_iff.mp hc'
            have e5 := congrArg Str.length h2'
            rw [len_tl, tl_mk, List.length_take, List.length_drop] at e5
            have e6 : (Str.ofString "").length = 0 := by decide +kernel
            rw [e6] at e5
            omega
        · rw [let_mem] at h1
          have h1' : ¬ isLet c = true := h1
          refine ⟨_, rfl, _, rfl, _, rfl, _, rfl, _, _, rfl, rfl, _, rfl, x, rfl, hxs, rfl, _, rfl, ?_⟩
          have hcut : cutS x (some (at_ : Int)) (some ((at_ : Int) + 4)) = S (((tl x).drop at_).take 4) := by
            have q := cut_at x at_ 4 hat
            rw [← q]
            rfl
          rw [hcut, arrow_eq]
          refine ite2 (fun h2 => ?_) (fun h2 => ?_)
          · have h2' : ((tl x).drop at_).take 4 = Arr := by
              have q : V.str (S (((tl x).drop at_).take 4)) = V.str (S Arr) := of_decide_eq_true h2
              have q2 := V.str.inj q
              exact congrArg tl q2
            refine ⟨rfl, 4, rfl, ?_⟩
            rw [hdrop] at h2' ⊢
            rw [nextTok_cons, if_neg h1', if_pos h2']
          · have h2' : ¬ ((tl x).drop at_).take 4 = Arr := fun q => h2 (decide_eq_true (by rw [q]))
            refine ⟨_, rfl, _, rfl, x, at_, c, rfl, rfl, hxs, atI_nat hc, _, _, rfl, rfl, _, rfl, ?_⟩
            have epar : (Str.ofString "()").cps.toList = [40, 41] := by decide +kernel
            rw [epar]
            refine ite2 (fun h3 => ?_) (fun h3 => ?_)
            · have h3' : ¬ (c = 40 ∨ c = 41) := by simpa using h3
              refine kN ?_ _ s1
              rw [ht, toks_step hne]
              have en : nextTok ((tl x).drop at_) = none := by
                rw [hdrop] at h2' ⊢
                rw [nextTok_cons, if_neg h1', if_neg h2', if_neg h3']
              rw [en]
              rfl
            · have h3' : c = 40 ∨ c = 41 := by
                by_cases z : c = 40 ∨ c = 41
                · exact z
                · exact absurd (by simpa using z) h3
              refine ⟨rfl, 1, rfl, ?_⟩
              rw [hdrop] at h2' ⊢
              rw [nextTok_cons, if_neg h1', if_neg h2', if_pos h3']
      · rintro σ' H' ⟨rfl, n, rfl, hn⟩
        have hnp := nextTok_pos hn
        have hle : at_ + n ≤ (tl x).length := by
          have := hnp.2
          rw [List.length_drop] at this
          omega
        have hcut : cutS x (some (at_ : Int)) (some ((at_ : Int) + (n : Int))) = S (((tl x).drop at_).take n) := by
          have q := cut_at x at_ n hat
          rw [← q]
          congr 2
        refine ⟨_, rfl, .inl ⟨rfl, _, SqL.of hpl⟩, _, rfl, _, rfl, _, rfl, _, rfl, _, rfl, _, _, rfl, rfl, _, rfl, x, rfl, hxs, p, _, _, rfl, rfl, hpl, szlt (by rw [List.length_map]; omega), ?_⟩
        rw [hcut]
        refine ⟨_, rfl, _, rfl, _, _, rfl, rfl, hN' _ _ ⟨at_ + n, done ++ [((tl x).drop at_).take n], _, rfl, hle, same_put s1 hp, ?_, ?_, ?_⟩ ?_⟩
        · rw [upd_same, List.map_append]
          rfl
        · rw [List.length_append, List.length_singleton]
          omega
        · rw [ht, toks_step hne, hn]
          dsimp only
          rw [List.drop_drop, Option.map_map]
          congr 1
          funext us
          simp
        · show (tl x).length - ((at_ : Int) + (n : Int)).toNat < (tl x).length - ((at_ : Int)).toNat
          omega
    · rw [decide_eq_true_eq] at hge
      have hge' : at_ = (tl x).length := by omega
      rw [hge', List.drop_length, toks_nil] at ht
      have ht' : toks (tl x) = some done := by rw [ht]; simp
      exact ⟨_, rfl, kS done ht' p H1 s1 hp hpl (by omega)⟩
end
end Fp
/-! R1: rules of my own: == and != with an empty list or tuple -/
namespace Fp
open PySem PySem.Spec PyProof.Rows L2
section
variable {X : Cx}
theorem plainL_list {h : Heap} {a : Addr} {its : Array Value} (e : PlainL h a its) : h.IsList a its := by
  obtain ⟨o, n, ho, hc, hd, hs⟩ := e
  exact ⟨o, ho, hc, n, hs⟩
def rNil (K : PySem.W.Frag) (neg : Bool) : R2 := fun x y H Q => ∃ a b xs, x = .ref a ∧ y = .ref b ∧ ((SqL K H a xs ∧ SqL K H b []) ∨ (SqT K H a xs ∧ SqT K H b [])) ∧ Q (.bl (if neg = true then !xs.isEmpty else xs.isEmpty)) H
theorem rc_nil {A : Around} {s : Shared} {pins : List (Addr × Obj)} {σ : L2.St} {H : Hp} {a b : Addr} {xs : List V} (I : Inv X pins σ H s) (hu : A.units < cLine) (h : (SqL X.K H a xs ∧ SqL X.K H b []) ∨ (SqT X.K H a xs ∧ SqT X.K H b [])) :
    SeqAt.RcAt A s (.ref a) (.ref b) xs.isEmpty ∧ SeqAt.RcNeAt A s (.ref a) (.ref b) (!xs.isEmpty) := by
  rcases h with ⟨h1, h2⟩ | ⟨h1, h2⟩
  · obtain ⟨its, r, e, _⟩ := I.list h1
    obtain ⟨its2, r2, e2, _⟩ := I.list h2
    cases r2
    cases r with
    | nil =>
      refine ⟨?_, ?_⟩
      · have q := SeqAt.RcAt.lists (A := A) (s := s) (e := fun _ => true) (plainL_list e) (plainL_list e2) rfl hu (fun j h1 _ => absurd h1 (by simp))
        exact q
      · have q := SeqAt.RcNeAt.lists (A := A) (s := s) (e := fun _ => true) (plainL_list e) (plainL_list e2) rfl hu (fun j h1 _ => absurd h1 (by simp))
        exact q
    | cons ru rt =>
      exact ⟨SeqAt.RcAt.lists_lengths (plainL_list e) (plainL_list e2) (by simp) hu, SeqAt.RcNeAt.lists_lengths (plainL_list e) (plainL_list e2) (by simp) hu⟩
  · obtain ⟨its, r, e, _⟩ := I.tuple h1
    obtain ⟨its2, r2, e2, _⟩ := I.tuple h2
    cases r2
    have q1 := SeqAt.RcAt.tuples (A := A) (s := s) (e := fun _ => true) e e2 hu (fun j _ h2 => absurd h2 (by simp))
    have q2 := SeqAt.RcNeAt.tuples (A := A) (s := s) (e := fun _ => true) e e2 hu (fun j _ h2 => absurd h2 (by simp))
    cases r with
    | nil => exact ⟨q1, q2⟩
    | cons ru rt => exact ⟨by simpa using q1, by simpa using q2⟩
theorem op_eqNil (hu : X.A.units < cLine) : OpR X (compareOp .Eq) (rNil X.K false) := by
  intro pins s σ H x y v u Q I rx ry h
  obtain ⟨a, b, xs, rfl, rfl, h, q⟩ := h
  cases rx
  cases ry
  exact (rc_nil I hu h).1 _ _ _ _ ⟨.bl _, H, I, rfl, q⟩
theorem op_neNil (hu : X.A.units < cLine) : OpR X (compareOp .NotEq) (rNil X.K true) := by
  intro pins s σ H x y v u Q I rx ry h
  obtain ⟨a, b, xs, rfl, rfl, h, q⟩ := h
  cases rx
  cases ry
  exact (rc_nil I hu h).2 _ _ _ _ ⟨.bl _, H, I, rfl, q⟩
end
end Fp
/-! W4: the class KindReader -/
namespace Fp
open PySem PySem.Spec PyProof.Rows L2 TL
/-! ### kinds as data -/
mutual
def kdD : Kd → PyData
  | .mk as a => .tuple [.tuple (kdDs as), .str a]
def kdDs : List Kd → List PyData
  | [] => []
  | k :: ks => kdD k :: kdDs ks
end
theorem kdDs_map : ∀ ks : List Kd, kdDs ks = ks.map kdD
  | [] => by rw [kdDs]; rfl
  | k :: ks => by rw [kdDs, kdDs_map ks]; rfl
theorem kdD_mk (as : List Kd) (a : Str) : kdD (.mk as a) = .tuple [.tuple (kdDs as), .str a] := by rw [kdD]
theorem kdD_eta (k : Kd) : kdD k = .tuple [.tuple (kdDs k.args), .str k.atom] := by obtain ⟨as, a⟩ := k; exact kdD_mk as a
mutual
theorem noL_kd : ∀ k : Kd, noL (kdD k) = true
  | .mk as a => by rw [kdD, noL, noLs, noL, noL_kds as]; rfl
theorem noL_kds : ∀ ks : List Kd, noLs (kdDs ks) = true
  | [] => by rw [kdDs]; rfl
  | k :: ks => by rw [kdDs, noLs, noL_kd k, noL_kds ks]; rfl
end
theorem dpAll_append {K : PySem.W.Frag} {H : Hp} : ∀ {vs : List V} {ds : List PyData} {us : List V} {es : List PyData}, DpAll K H vs ds → DpAll K H us es → DpAll K H (vs ++ us) (ds ++ es)
  | _, _, _, _, .nil, h => h
  | _, _, _, _, .cons h t, h2 => .cons h (dpAll_append t h2)
theorem dpAll_length {K : PySem.W.Frag} {H : Hp} : ∀ {vs : List V} {ds : List PyData}, DpAll K H vs ds → vs.length = ds.length
  | _, _, .nil => rfl
  | _, _, .cons h t => by rw [List.length_cons, List.length_cons, dpAll_length t]
theorem dpAll_get {K : PySem.W.Frag} {H : Hp} : ∀ {vs : List V} {ds : List PyData} {i : Nat} {d : PyData}, DpAll K H vs ds → ds[i]? = some d → ∃ v, vs[i]? = some v ∧ Dp K H v d
  | _, _, 0, d, .cons h t, e => by
    have e' := Option.some.inj e
    subst e'
    exact ⟨_, rfl, h⟩
  | _, _, i + 1, d, .cons h t, e => dpAll_get (i := i) t e
theorem dpAll_take {K : PySem.W.Frag} {H : Hp} : ∀ {vs : List V} {ds : List PyData} (n : Nat), DpAll K H vs ds → DpAll K H (vs.take n) (ds.take n)
  | _, _, 0, _ => by rw [List.take_zero, List.take_zero]; exact .nil
  | _, _, n + 1, .nil => .nil
  | _, _, n + 1, .cons h t => .cons h (dpAll_take n t)
theorem dpAll_snoc {K : PySem.W.Frag} {H : Hp} {vs : List V} {ds : List PyData} {d : PyData} (h : DpAll K H vs (ds ++ [d])) : ∃ vs0 v, vs = vs0 ++ [v] ∧ DpAll K H vs0 ds ∧ Dp K H v d := by
  have hl := dpAll_length h
  rw [List.length_append, List.length_singleton] at hl
  have e : vs = vs.take ds.length ++ vs.drop ds.length := (List.take_append_drop _ _).symm
  obtain ⟨v, hv, dv⟩ := dpAll_get (i := ds.length) (d := d) h (by simp)
  have t := dpAll_take ds.length h
  rw [List.take_left] at t
  refine ⟨vs.take ds.length, v, ?_, t, dv⟩
  conv => lhs; rw [e]
  congr 1
  obtain ⟨hlt, e2⟩ := List.getElem?_eq_some_iff.mp hv
  rw [List.drop_eq_getElem_cons hlt, e2, List.drop_of_length_le (by omega)]
/-- a kind's value is a tuple of its arguments' tuple and its atom -/
theorem dp_kd {K : PySem.W.Frag} {H : Hp} {v : V} {k : Kd} (h : Dp K H v (kdD k)) : ∃ a b vs, v = .ref a ∧ SqT K H a [.ref b, .str k.atom] ∧ SqT K H b vs ∧ DpAll K H vs (kdDs k.args) := by
  rw [kdD_eta] at h
  cases h with
  | tup h1 h2 =>
    cases h2 with
    | cons h3 h4 =>
      cases h4 with
      | cons h5 h6 =>
        cases h6
        cases h5
        cases h3 with
        | tup h7 h8 => exact ⟨_, _, _, rfl, h1, h7, h8⟩
theorem dp_mk {K : PySem.W.Frag} {H : Hp} {a b : Addr} {vs : List V} {ks : List Kd} {x : Str} (h1 : SqT K H a [.ref b, .str x]) (h2 : SqT K H b vs) (h3 : DpAll K H vs (kdDs ks)) : Dp K H (.ref a) (kdD (.mk ks x)) := by
  rw [kdD_mk]
  exact .tup h1 (.cons (.tup h2 h3) (.cons (.str x) .nil))
theorem SqT.of {K : PySem.W.Frag} {H : Hp} {a : Addr} {xs : List V} (h : H a = some (.tup xs)) : SqT K H a xs := .inl (.inl h)

/-! ### attributes -/
theorem putF_nil (f : Str) (v : V) : putF f v [] = [(f, v)] := rfl
theorem putF_eq (f : Str) (v x : V) (r : List (Str × V)) : putF f v ((f, x) :: r) = (f, v) :: r := if_pos rfl
theorem putF_ne {f g : Str} (v x : V) (r : List (Str × V)) (h : g ≠ f) : putF f v ((g, x) :: r) = (g, x) :: putF f v r := if_neg h
theorem lk_eq (f : Str) (v : V) (r : List (Str × V)) : ((f, v) :: r).lookup f = some v := by simp [List.lookup]
theorem lk_ne {f g : Str} (v : V) (r : List (Str × V)) (h : f ≠ g) : ((g, v) :: r).lookup f = r.lookup f := by
  have e : (f == g) = false := by simpa using h
  simp [List.lookup, e]
/-- a method that can be called -/
structure MetC (P : Program) (w : World) (K : PySem.W.Frag) (mg : Str → Option Value) (base : Heap) (CX : CXT) (k : Nat) (C : Addr) (m : Str) (sp : Sp) : Prop where
  ex : ∃ (f : Addr) (fd : FuncData) (ps : List Str), Meth K C m f ∧ FnOk P w K mg base CX k f fd ps sp ∧ Binds K fd ps []
section
variable {X : Cx} {k j : Nat} {C : Addr} {m : Str} {sp : Sp} {p pos apos : Pos} {o e : Expr} {es : List Expr} {ta : TE} {t : TA}
theorem pe_mm {pl : Sem Bool} (ho : PE X o ta) (c : Cls X.K C) (mc : MetC X.prog X.w X.K X.mg X.base CX0 k C m sp) (hr : Room j X.A) (hk : k ≤ j := by decide) (ha : PA X (e :: es) t)
    (hs : starEach (e :: es) X.env = (false, eval e X.env) :: starEach es X.env := by rfl) (hpl : (backTo pos (starEach es X.env)).any (·.1) = false := by rfl)
    (ht : eval (.Call (.Attribute o m apos) (e :: es) [] pos) X.env = (do
      let ov ← eval o X.env
      standAt apos.atName
      let (f, first) ← holding [ov] (getMethod ov m pl)
      callWith pos f first (backTo pos (starEach (e :: es) X.env)) (backToKw pos (keywordEach [] X.env))) := by rfl) :
    PE X (.Call (.Attribute o m apos) (e :: es) [] pos) (tMeth C m sp [] E0 ta t) := by
  obtain ⟨f, fd, ps, hm, F, hb⟩ := mc.ex
  exact pe_meth (pl := pl) ho c hm F (hr.mono hk) hb .nil pass0 ha hs hpl ht
theorem pe_mm0 {pl : Sem Bool} (ho : PE X o ta) (c : Cls X.K C) (mc : MetC X.prog X.w X.K X.mg X.base CX0 k C m sp) (hr : Room j X.A) (hk : k ≤ j := by decide)
    (ht : eval (.Call (.Attribute o m apos) [] [] pos) X.env = (do
      let ov ← eval o X.env
      standAt apos.atName
      let (f, first) ← holding [ov] (getMethod ov m pl)
      callWith pos f first (backTo pos (starEach [] X.env)) (backToKw pos (keywordEach [] X.env))) := by rfl) :
    PE X (.Call (.Attribute o m apos) [] [] pos) (tMeth C m sp [] E0 ta tNil) := by
  obtain ⟨f, fd, ps, hm, F, hb⟩ := mc.ex
  exact pe_meth0 (pl := pl) ho c hm F (hr.mono hk) hb .nil pass0 ht
end
end Fp
/-! W5: the reader of kinds: its methods -/
namespace Fp
open PySem PySem.Spec PyProof.Rows L2 TL
theorem fRW : ("of_rows" : Str) ≠ "of_wants" := by decide +kernel
theorem fWR : ("of_wants" : Str) ≠ "of_rows" := by decide +kernel
def kf (R : Addr) (b : Bool) : List (Str × V) := [("of_rows", .ref R), ("of_wants", .bl b)]
theorem kf_rows (R : Addr) (b : Bool) : (kf R b).lookup ("of_rows" : Str) = some (.ref R) := lk_eq _ _ _
theorem kf_wants (R : Addr) (b : Bool) : (kf R b).lookup ("of_wants" : Str) = some (.bl b) := by unfold kf; rw [lk_ne _ _ fWR, lk_eq]
theorem kf_put (R : Addr) (b c : Bool) : putF "of_wants" (.bl c) (kf R b) = kf R c := by unfold kf; rw [putF_ne _ _ _ fRW, putF_eq]
theorem kf_no (R : Addr) (b : Bool) {m : Str} (h1 : m ≠ "of_rows") (h2 : m ≠ "of_wants") : (kf R b).lookup m = none := by unfold kf; rw [lk_ne _ _ h1, lk_ne _ _ h2]; rfl
/-- an open row -/
def RowOk (K : PySem.W.Frag) (H : Hp) (a : Addr) (ks : List Kd) : Prop := ∃ vs, H a = some (.lst vs) ∧ DpAll K H vs (kdDs ks)
theorem RowOk.mono {K : PySem.W.Frag} {H H' : Hp} {a : Addr} {ks : List Kd} (h : RowOk K H a ks) (s : SameN H H') (e : H' a = H a) : RowOk K H' a ks := by
  obtain ⟨vs, h1, h2⟩ := h
  exact ⟨vs, e.trans h1, DpAll.sameN s (noL_kds ks) h2⟩
/-- behind H0 a reader stands at o in the state s -/
structure RdAt (K : PySem.W.Frag) (C : Addr) (H0 H : Hp) (o dx R r : Addr) (ra : List (Addr × List Kd)) (s : RdS) : Prop where
  same : Same H0 H
  n0 : H0 o = none
  nR : H0 R = none
  nr : H0 r = none
  na : ∀ p ∈ ra, H0 p.1 = none
  ins : H o = some (.ins C dx (kf R s.wants))
  rows : H R = some (.lst (ra.map (fun p => V.ref p.1) ++ [.ref r]))
  outer : ∀ p ∈ ra, RowOk K H p.1 p.2
  cur : RowOk K H r s.cur
  stk : ra.map (·.2) = s.stk.reverse
  nd : (ra.map (·.1) ++ [r]).Nodup
  Rr : R ≠ r
  Ra : ∀ p ∈ ra, R ≠ p.1
def Rd (K : PySem.W.Frag) (C : Addr) (H0 H : Hp) (o : Addr) (s : RdS) : Prop := ∃ dx R r ra, RdAt K C H0 H o dx R r ra s
structure KRf (K : PySem.W.Frag) (C : Addr) : Prop where
  cl : L2.Cls K C
  nR : NoAttr K C "of_rows"
  nW : NoAttr K C "of_wants"
theorem sameN_lst {H : Hp} {a : Addr} {xs : List V} {o : HO} (h : H a = some (.lst xs)) : SameN H (upd H a o) := fun b u n _ e => by
  rw [upd_ne (fun z => by rw [z, h] at e; exact n xs (Option.some.inj e).symm)]
  exact e
theorem sameN_ins {H : Hp} {a c d : Addr} {f : List (Str × V)} {o : HO} (h : H a = some (.ins c d f)) : SameN H (upd H a o) := fun b u _ n e => by
  rw [upd_ne (fun z => by rw [z, h] at e; exact n c d f (Option.some.inj e).symm)]
  exact e
theorem sameN_new {H : Hp} {a : Addr} {o : HO} (h : H a = none) : SameN H (upd H a o) := sN (same_new h)
theorem str_dec (t u : List Nat) : decide (V.str (S t) = V.str (S u)) = decide (t = u) := by
  by_cases h : t = u
  · rw [h, decide_eq_true rfl, decide_eq_true rfl]
  · rw [decide_eq_false h, decide_eq_false fun e => h (congrArg tl (V.str.inj e))]
theorem opn_eq : Str.ofString "(" = S Opn := by decide +kernel
theorem clo_eq : Str.ofString ")" = S Clo := by decide +kernel
section
variable {P : Program} {w : World} {K : PySem.W.Frag} {mg : Str → Option Value} {base : Heap}
/-! ### __init__ -/
abbrev s_KindReader_init : Stmt := inClass (top 25) 0
abbrev N_KindReader_init : List Str := ["self"]
theorem sc_KindReader_init : FnScope N_KindReader_init ["self"] (defScope s_KindReader_init) := ⟨rfl, rfl, rfl, by decide +kernel, rfl, by decide +kernel, by decide +kernel⟩
def sp_KR_init (K : PySem.W.Frag) (C : Addr) : Sp := fun vs H Q _ => ∃ (H0 : Hp) (o dx : Addr), vs = [.ref o] ∧ Same H0 H ∧ H0 o = none ∧ H o = some (.ins C dx []) ∧ ∀ H', Fp.Rd K C H0 H' o rd0 → Q .non H'
theorem ok_KR_init {C f : Addr} {fd : FuncData} (F : Fun K "__init__" "KindReader.__init__" s_KindReader_init f fd) (T : KRf K C) : FnOk P w K mg base CX0 1 f fd ["self"] (sp_KR_init K C) := by
  refine F.ok sc_KindReader_init (fun vs H Q E h => ?_) (fun cdv A outer s H vs Q E hr h => ?_)
  · obtain ⟨H0, o, dx, rfl, _⟩ := h
    rfl
  · obtain ⟨H0, o, dx, rfl, s0, n0, ho, k⟩ := h
    refine ⟨_, (pss_cons (ps_fld (pv 0) (pe_lst (pa_cons (pe_lst pa_nil) pa_nil)) rfl)
      (pss_one (ps_fld (pv 0) pe_bl rfl))), ?_⟩
    refine ⟨Nat.zero_le _, fun r hr0 => ⟨szl (by show 1 ≤ 16777216; decide), fun R hR => ?_⟩⟩
    have nor : o ≠ r := ne_of_none ho hr0
    have hR1 : H R = none := by
      by_cases z : R = r
      · rw [z, upd_same] at hR; cases hR
      · rw [upd_ne z] at hR; exact hR
    have nRr : R ≠ r := fun z => by rw [z, upd_same] at hR; cases hR
    have noR : o ≠ R := ne_of_none ho hR1
    refine ⟨_, rfl, o, C, dx, _, rfl, (by rw [upd_ne noR, upd_ne nor]; exact ho), T.cl, T.nR, (by decide), ?_⟩
    refine ⟨_, rfl, o, C, dx, _, rfl, upd_same, T.cl, T.nW, (by rw [putF_nil]; show 1 < 1000; decide), ?_⟩
    have ek : putF "of_wants" (V.bl true) (putF "of_rows" (V.ref R) []) = kf R true := by
      rw [putF_nil, putF_ne _ _ _ fRW, putF_nil]
      rfl
    refine k _ ⟨dx, R, r, [], ?_⟩
    rw [ek]
    have s1 : Same H0 (upd (upd H r (.lst [])) R (.lst [.ref r])) := same_upd (same_upd s0 hr0) hR
    exact {
      same := same_put (same_put s1 n0) n0
      n0 := n0
      nR := Same.free s0 hR1
      nr := Same.free s0 hr0
      na := fun p hp => by cases hp
      ins := upd_same
      rows := by rw [upd_ne noR.symm, upd_ne noR.symm, upd_same]; rfl
      outer := fun p hp => by cases hp
      cur := ⟨[], by rw [upd_ne nor.symm, upd_ne nor.symm, upd_ne nRr.symm, upd_same], by rw [show (rd0).cur = [] from rfl, kdDs]; exact .nil⟩
      stk := rfl
      nd := by simp
      Rr := nRr
      Ra := fun p hp => by cases hp }
/-! ### take_end -/
abbrev s_KindReader_take_end : Stmt := inClass (top 25) 2
abbrev N_KindReader_take_end : List Str := ["self", "sign", "row"]
theorem sc_KindReader_take_end : FnScope N_KindReader_take_end ["self", "sign"] (defScope s_KindReader_take_end) := ⟨rfl, rfl, rfl, by decide +kernel, rfl, by decide +kernel, by decide +kernel⟩
/-- what a turn promises -/
def TakeQ (K : PySem.W.Frag) (C : Addr) (H0 : Hp) (o : Addr) (s : RdS) (t : List Nat) (Q : VK) : Prop :=
  (rstep s t = none → ∀ H', Same H0 H' → Q (.bl false) H') ∧ ∀ s', rstep s t = some s' → ∀ H', Fp.Rd K C H0 H' o s' → Q (.bl true) H'
def sp_KR_end (K : PySem.W.Frag) (C : Addr) : Sp := fun vs H Q _ => ∃ (H0 : Hp) (o : Addr) (s : RdS) (t : List Nat), vs = [.ref o, .str (S t)] ∧ Fp.Rd K C H0 H o s ∧ RdOk s ∧ (t = Arr ∨ t = Clo) ∧ (∀ k ∈ s.stk, k.length ≤ 1000000) ∧ s.cur.length ≤ 1000000 ∧ s.stk.length ≤ 1000000 ∧ TakeQ K C H0 o s t Q
theorem kd_snoc_cases (cur : List Kd) (h : cur ≠ []) : ∃ ks k, cur = ks ++ [k] := ⟨cur.dropLast, cur.getLast h, (List.dropLast_concat_getLast h).symm⟩
theorem kdDs_append (a b : List Kd) : kdDs (a ++ b) = kdDs a ++ kdDs b := by rw [kdDs_map, kdDs_map, kdDs_map, List.map_append]
theorem kdDs_length (a : List Kd) : (kdDs a).length = a.length := by rw [kdDs_map, List.length_map]
theorem isEmpty_args {K : PySem.W.Frag} {H : Hp} {vs : List V} {ks : List Kd} (h : DpAll K H vs (kdDs ks)) : vs.isEmpty = ks.isEmpty := by
  have e := dpAll_length h
  rw [kdDs_length] at e
  cases vs <;> cases ks <;> simp_all
theorem iteFo {A B : Prop} {b : Bool} (e : b = false) (h : B) : if b = true then A else B := by rw [e]; exact iteF h
theorem iteTo {A B : Prop} {b : Bool} (e : b = true) (h : A) : if b = true then A else B := by rw [e]; exact iteT h
theorem rstep_clo0 (stk : List (List Kd)) (cur b : List Kd) (h : cur.length < 2) : rstep ⟨b :: stk, cur, false⟩ Clo = none := by
  show (if cur.length < 2 then none else match closeRow cur with | some k => some (RdS.mk stk (b ++ [k]) false) | none => none) = none
  rw [if_pos h]
theorem rstep_clo (stk : List (List Kd)) (ks b : List Kd) (k : Kd) (h : ks ≠ []) : rstep ⟨b :: stk, ks ++ [k], false⟩ Clo = if k.args.isEmpty then some ⟨stk, b ++ [.mk ks k.atom], false⟩ else none := by
  have hl : ¬ (ks ++ [k]).length < 2 := by
    have := List.length_pos_iff.mpr h
    rw [List.length_append, List.length_singleton]
    omega
  show (if (ks ++ [k]).length < 2 then none else match closeRow (ks ++ [k]) with | some k => some (RdS.mk stk (b ++ [k]) false) | none => none) = _
  rw [if_neg hl]
  unfold closeRow
  rw [lastAtom_snoc]
  cases k.args.isEmpty with
  | true => rw [if_pos rfl, if_pos rfl, List.dropLast_concat]
  | false => rfl
theorem rowsLast (ra : List V) (v : V) : (ra ++ [v])[(ra ++ [v]).length - 1]? = some v := by simp
theorem cutV_front (vs : List V) (v : V) : cutV (vs ++ [v]) none (some (-1)) = vs := by
  unfold cutV HT.sIx
  simp
  have e : (-1 + ((vs.length : Int) + 1)).toNat = vs.length := by omega
  rw [e, List.take_left]
theorem ok_KR_end {C f : Addr} {fd : FuncData} (F : Fun K "take_end" "KindReader.take_end" s_KindReader_take_end f fd) (N : Nm mg) (T : KRf K C) : FnOk P w K mg base CX0 1 f fd ["self", "sign"] (sp_KR_end K C) := by
  refine F.ok sc_KindReader_take_end (fun vs H Q E h => ?_) (fun cdv A outer s H vs Q E hr h => ?_)
  · obtain ⟨H0, o, s, t, rfl, _⟩ := h
    rfl
  · obtain ⟨H0, o, ⟨stk, cur, wants⟩, t, rfl, ⟨dx, R, r, ra, D⟩, ok, ht, bs, bc, bk, kN, kS⟩ := h
    refine ⟨_, (pss_cons (ps_if (pt_val (pe_fld (pv 0) rfl)) (pss_one (ps_ret pe_bl)) pss_nil)
      (pss_cons (ps_if (pt_cmpR op_eq (pv 1) (pe_gv N.ARROW) (nomark _)) (pss_cons (ps_fld (pv 0) pe_bl rfl)
      (pss_one (ps_ret pe_bl))) pss_nil)
      (pss_cons (ps_set (i := 2) sc_KindReader_take_end.nd rfl (Or.inl rfl) (pe_bm0 PySem.F.plainAttrs_list PySem.F.slot_list_pop PySem.F.type_list_pop mt_pop (pe_fld (pv 0) rfl)))
      (pss_cons (ps_if (PW.pt (pw_or (pt_cmpR (op_eqNil hr.units0) (pe_fld (pv 0) rfl) (pe_lst pa_nil) (nomark _)) (pw_or (pt_cmpR op_lt (pe_callB call_len_seq (by rfl) N.len (by decide +kernel) (pa_cons (pv 2) pa_nil)) pe_int (nomark _)) (pw_or1 (pt_cmpR (op_neNil hr.units0) (pe_ix ix_tup (pe_ix ix_list (pv 2) (pe_un un_neg pe_int) (fun _ _ => rfl)) pe_int (fun _ _ => rfl)) (pe_tup pa_nil) (nomark _)))))) (pss_one (ps_ret pe_bl)) pss_nil)
      (pss_cons (ps_expr (pe_bm PySem.F.plainAttrs_list PySem.F.slot_list_append PySem.F.type_list_append mt_append (pe_ix ix_list (pe_fld (pv 0) rfl) (pe_un un_neg pe_int) (fun _ _ => rfl)) (pa_cons (pe_tup (pa_cons (pe_callTy call_tuple_of (by rfl) N.tuple (by decide +kernel) (pa_cons (pe_slice sl_list (pv 2) po_none (po_some (pe_un un_neg pe_int))) pa_nil)) (pa_cons (pe_ix ix_tup (pe_ix ix_list (pv 2) (pe_un un_neg pe_int) (fun _ _ => rfl)) pe_int (fun _ _ => rfl)) pa_nil))) pa_nil)))
      (pss_one (ps_ret pe_bl))))))), ?_⟩
    refine ⟨_, rfl, o, C, dx, _, _, rfl, D.ins, T.cl, T.nW, kf_wants _ _, wants, rfl, ?_⟩
    cases wants with
    | true =>
      refine iteT (kN ?_ _ D.same)
      rcases ht with rfl | rfl <;> rfl
    | false =>
      refine iteF ⟨_, rfl, rfl, _, rfl, ?_⟩
      rw [arrow_eq, str_dec]
      rcases ht with rfl | rfl
      · refine iteT ⟨_, rfl, o, C, dx, _, rfl, D.ins, T.cl, T.nW, (by show 2 < 1000; decide), ?_⟩
        rw [kf_put]
        refine kS _ rfl _ ⟨dx, R, r, ra, ?_⟩
        have hoR : R ≠ o := ne_of D.rows D.ins (by intro z; cases z)
        have hlst : ∀ (a : Addr) (ks : List Kd), RowOk K H a ks → a ≠ o := fun a ks ⟨vs, h1, _⟩ => ne_of h1 D.ins (by intro z; cases z)
        have sn : SameN H (upd H o (.ins C dx (kf R true))) := sameN_ins D.ins
        exact {
          same := same_put D.same D.n0
          n0 := D.n0
          nR := D.nR
          nr := D.nr
          na := D.na
          ins := upd_same
          rows := by rw [upd_ne hoR]; exact D.rows
          outer := fun p hp => (D.outer p hp).mono sn (upd_ne (hlst _ _ (D.outer p hp)))
          cur := D.cur.mono sn (upd_ne (hlst _ _ D.cur))
          stk := D.stk
          nd := D.nd
          Rr := D.Rr
          Ra := D.Ra }
      · refine iteF ?_
        have noR : o ≠ R := (ne_of D.rows D.ins (by intro z; cases z)).symm
        have hlst : ∀ (a : Addr) (ks : List Kd), RowOk K H a ks → a ≠ o := fun a ks ⟨vs, h1, _⟩ => ne_of h1 D.ins (by intro z; cases z)
        refine ⟨_, rfl, o, C, dx, _, _, rfl, D.ins, T.cl, T.nR, kf_rows _ _, .inl ⟨rfl, _, SqL.of D.rows⟩, R, _, _, rfl, rfl, D.rows, rowsLast _ _, ?_⟩
        rw [List.dropLast_concat]
        have s1 : Same H0 (upd H R (.lst (ra.map fun p => V.ref p.1))) := same_put D.same D.nR
        have ho1 : (upd H R (.lst (ra.map fun p => V.ref p.1))) o = some (.ins C dx (kf R false)) := by rw [upd_ne noR]; exact D.ins
        have hR1 : (upd H R (.lst (ra.map fun p => V.ref p.1))) R = some (.lst (ra.map fun p => V.ref p.1)) := upd_same
        have sn1 : SameN H (upd H R (.lst (ra.map fun p => V.ref p.1))) := sameN_lst D.rows
        have hcur := D.cur.mono sn1 (upd_ne D.Rr.symm)
        have hout : ∀ p ∈ ra, RowOk K (upd H R (.lst (ra.map fun p => V.ref p.1))) p.1 p.2 := fun p hp => (D.outer p hp).mono sn1 (upd_ne (D.Ra p hp).symm)
        generalize (upd H R (.lst (ra.map fun p => V.ref p.1))) = H1 at *
        refine ⟨_, rfl, o, C, dx, _, _, rfl, ho1, T.cl, T.nR, kf_rows _ _, Nat.zero_le _, fun e he => ⟨R, e, _, rfl, rfl, .inl ⟨SqL.of (same_new he _ _ hR1), SqL.of upd_same⟩, _, rfl, ?_⟩⟩
        have s2 := same_new (o := .lst []) he
        cases stk with
        | nil =>
          have er : ra = [] := by simpa using D.stk
          rw [er]
          exact iteT (iteT (kN rfl _ (Same.trans s1 s2)))
        | cons b stk =>
          obtain ⟨ra', rb, rfl⟩ : ∃ ra' rb, ra = ra' ++ [(rb, b)] := by
            have h := D.stk
            rw [List.reverse_cons] at h
            obtain ⟨ra', x, rfl, h1, h2⟩ := List.map_eq_append_iff.mp h
            obtain ⟨y, rfl, hy⟩ := List.map_eq_singleton_iff.mp h2
            exact ⟨ra', y.1, by rw [← hy]⟩
          rw [List.map_append] at *
          have hRows2 := s2 _ _ hR1
          obtain ⟨vs, hvs, dvs⟩ := hcur
          have hl : vs.length = cur.length := (dpAll_length dvs).trans (kdDs_length cur)
          have hvs2 := s2 _ _ hvs
          refine iteFo (by simp) ⟨_, rfl, r, vs, rfl, .inl (SqL.of hvs2), _, _, rfl, rfl, _, rfl, ite2 (fun h2 => iteT (kN ?_ _ (Same.trans s1 s2))) (fun h2 => ?_)⟩
          · rw [decide_eq_true_eq] at h2
            exact rstep_clo0 _ _ _ (by show cur.length < 2; omega)
          rw [decide_eq_true_eq] at h2
          obtain ⟨ks, k, rfl⟩ := kd_snoc_cases cur (by rintro rfl; simp at hl; rw [hl] at h2; simp at h2)
          have hks : ks ≠ [] := by rintro rfl; simp at hl; rw [hl] at h2; simp at h2
          rw [kdDs_append] at dvs
          rw [show kdDs [k] = [kdD k] by rw [kdDs, kdDs]] at dvs
          obtain ⟨vs0, v, rfl, d0, dv⟩ := dpAll_snoc dvs
          obtain ⟨a, b', us, rfl, q1, q2, q3⟩ := dp_kd dv
          have q1' := SqT.same s2 q1
          have q2' := SqT.same s2 q2
          refine ⟨_, rfl, _, rfl, r, _, _, _, rfl, rfl, SqL.of hvs2, atI_last _ _, a, _, 0, _, rfl, rfl, q1', rfl, Nat.zero_le _, fun t ht => ?_⟩
          have s3 := same_new (o := .tup []) ht
          refine ⟨b', t, us, rfl, rfl, .inr ⟨SqT.same s3 q2', SqT.of upd_same⟩, _, rfl, ?_⟩
          rw [isEmpty_args q3]
          have est := rstep_clo stk ks b k hks
          cases hk : k.args.isEmpty with
          | false =>
            rw [hk] at est
            exact iteT (kN est _ (Same.trans s1 (Same.trans s2 s3)))
          | true =>
          rw [hk] at est
          refine iteF ?_
          have s23 := Same.trans s2 s3
          generalize (upd (upd H1 e (.lst [])) t (.tup [])) = H3 at *
          refine ⟨_, rfl, o, C, dx, _, _, rfl, s23 _ _ ho1, T.cl, T.nR, kf_rows _ _, _, rfl, R, _, _, _, rfl, rfl, SqL.of (s23 _ _ hR1), atI_last _ _, ?_⟩
          obtain ⟨bvs, hb, db⟩ := hout (rb, b) (by simp)
          refine ⟨.inl ⟨rfl, _, SqL.of (s23 _ _ hb)⟩, _, rfl, _, rfl, _, rfl, r, _, rfl, SqL.of (s23 _ _ hvs), fun q hq => ?_⟩
          rw [cutV_front]
          have s4 := Same.trans s23 (same_new (o := .lst vs0) hq)
          refine ⟨q, vs0, rfl, .inl ⟨SqL.of upd_same, fun l hl => ?_⟩⟩
          have s5 := Same.trans s4 (same_new (o := .tup vs0) hl)
          have hl5 : (upd (upd H3 q (.lst vs0)) l (.tup vs0)) l = some (.tup vs0) := upd_same
          generalize (upd (upd H3 q (.lst vs0)) l (.tup vs0)) = H5 at *
          refine ⟨_, rfl, _, rfl, r, _, _, _, rfl, rfl, SqL.of (s5 _ _ hvs), atI_last _ _, a, _, 1, _, rfl, rfl, SqT.same s5 q1, rfl, szl (by show 2 ≤ 16777216; decide), fun p hp => ?_⟩
          have s6 := Same.trans s5 (same_new (o := .tup [V.ref l, V.str k.atom]) hp)
          have hl6 := same_new (o := .tup [V.ref l, V.str k.atom]) hp _ _ hl5
          have hp6 : (upd H5 p (.tup [V.ref l, V.str k.atom])) p = some (.tup [V.ref l, V.str k.atom]) := upd_same
          generalize (upd H5 p (.tup [V.ref l, V.str k.atom])) = H6 at *
          have hlb : bvs.length = b.length := by rw [dpAll_length db, kdDs_length]
          refine ⟨rb, bvs, _, rfl, rfl, s6 _ _ hb, szlt (by have := bs b (by simp); omega), ?_⟩
          refine kS _ est _ ⟨dx, R, rb, ra', ?_⟩
          have nb0 : H0 rb = none := D.na (rb, b) (by simp)
          have nRb : R ≠ rb := D.Ra (rb, b) (by simp)
          have nob : rb ≠ o := hlst rb b (D.outer (rb, b) (by simp))
          have snn : SameN H1 (upd H6 rb (.lst (bvs ++ [V.ref p]))) := SameN.trans (sN s6) (sameN_lst (s6 _ _ hb))
          have hnd := D.nd
          rw [List.map_append, List.append_assoc] at hnd
          have hnd2 := (List.nodup_append.mp hnd)
          exact {
            same := same_put (Same.trans s1 s6) nb0
            n0 := D.n0
            nR := D.nR
            nr := nb0
            na := fun p hp => D.na p (by simp [hp])
            ins := by rw [upd_ne nob.symm]; exact s6 _ _ ho1
            rows := by rw [upd_ne nRb]; exact s6 _ _ hR1
            outer := fun p hp => by
              obtain ⟨w1, h1, h2⟩ := hout p (by simp [hp])
              have hne : p.1 ≠ rb := hnd2.2.2 p.1 (List.mem_map.mpr ⟨p, hp, rfl⟩) rb (by simp)
              exact ⟨w1, by rw [upd_ne hne]; exact s6 _ _ h1, DpAll.sameN snn (noL_kds _) h2⟩
            cur := by
              refine ⟨_, upd_same, ?_⟩
              rw [kdDs_append, show kdDs [Kd.mk ks k.atom] = [kdD (Kd.mk ks k.atom)] by rw [kdDs, kdDs]]
              refine dpAll_append (DpAll.sameN snn (noL_kds _) db) (.cons (dp_mk (b := l) (vs := vs0) ?_ ?_ ?_) .nil)
              · exact SqT.sameN (sameN_lst (s6 _ _ hb)) (SqT.of hp6)
              · exact SqT.sameN (sameN_lst (s6 _ _ hb)) (SqT.of hl6)
              · exact DpAll.sameN snn (noL_kds _) d0
            stk := by
              have h := D.stk
              rw [List.map_append, List.reverse_cons] at h
              exact (List.append_inj' h rfl).1
            nd := (List.sublist_append_left _ _).nodup (by rw [List.append_assoc]; exact hnd)
            Rr := nRb
            Ra := fun p hp => D.Ra p (by simp [hp]) }
end
end Fp
/-! W6: the reader of kinds: take, result -/
namespace Fp
open PySem PySem.Spec PyProof.Rows L2 TL
section
variable {P : Program} {w : World} {K : PySem.W.Frag} {mg : Str → Option Value} {base : Heap}
abbrev s_KindReader_take : Stmt := inClass (top 25) 1
abbrev N_KindReader_take : List Str := ["self", "sign", "can_stand"]
theorem sc_KindReader_take : FnScope N_KindReader_take ["self", "sign"] (defScope s_KindReader_take) := ⟨rfl, rfl, rfl, by decide +kernel, rfl, by decide +kernel, by decide +kernel⟩
def sp_KR_take (K : PySem.W.Frag) (C : Addr) : Sp := fun vs H Q _ => ∃ (H0 : Hp) (o : Addr) (s : RdS) (t : List Nat), vs = [.ref o, .str (S t)] ∧ Fp.Rd K C H0 H o s ∧ RdOk s ∧ t.length ≤ 1000000 ∧ (∀ k ∈ s.stk, k.length ≤ 1000000) ∧ s.cur.length ≤ 1000000 ∧ s.stk.length ≤ 1000000 ∧ TakeQ K C H0 o s t Q
theorem fTW : ("take_end" : Str) ≠ "of_wants" := by decide +kernel
theorem fTR : ("take_end" : Str) ≠ "of_rows" := by decide +kernel
theorem len_S (t : List Nat) : (S t).length = t.length := by
  show t.toArray.size = t.length
  simp
theorem ok_KR_take {C f : Addr} {fd : FuncData} (F : Fun K "take" "KindReader.take" s_KindReader_take f fd) (N : Nm mg) (T : KRf K C) (c_is_word : Cal P w K mg base CX0 1 "is_word" sp_is_word)
    (c_end : MetC P w K mg base CX0 1 C "take_end" (sp_KR_end K C)) : FnOk P w K mg base CX0 2 f fd ["self", "sign"] (sp_KR_take K C) := by
  refine F.ok sc_KindReader_take (fun vs H Q E h => ?_) (fun cdv A outer s H vs Q E hr h => ?_)
  · obtain ⟨H0, o, s, t, rfl, _⟩ := h
    rfl
  · obtain ⟨H0, o, ⟨stk, cur, wants⟩, t, rfl, Dx, ok, ht, bs, bc, bk, kN, kS⟩ := h
    have Dy := Dx
    obtain ⟨dx, R, r, ra, D⟩ := Dx
    refine ⟨_, (pss_cons (ps_if (pt_cmpR op_eq (pv 1) pe_str (nomark _)) (pss_cons (ps_expr (pe_bm PySem.F.plainAttrs_list PySem.F.slot_list_append PySem.F.type_list_append mt_append (pe_fld (pv 0) rfl) (pa_cons (pe_lst pa_nil) pa_nil)))
      (pss_one (ps_ret (pe_and (pe_fld (pv 0) rfl) (pe_one (pe_cmpR op_le (pe_callB call_len_seq (by rfl) N.len (by decide +kernel) (pa_cons (pe_fld (pv 0) rfl) pa_nil)) (pe_op op_add (pe_gv N.MAX_ORDER) pe_int) (nomark _))))))) pss_nil)
      (pss_cons (ps_if (PW.pt (pw_or (pt_cmpR op_eq (pv 1) (pe_gv N.ARROW) (nomark _)) (pw_or1 (pt_cmpR op_eq (pv 1) pe_str (nomark _))))) (pss_one (ps_ret (pe_mm (pv 0) T.cl c_end hr (ha := pa_cons (pv 1) pa_nil)))) pss_nil)
      (C8.pss_cut (ps_set (i := 2) sc_KindReader_take.nd rfl (Or.inl rfl) (pe_and (pe_fld (pv 0) rfl) (pe_one (pe_c c_is_word hr (ha := (pa_cons (pv 1) pa_nil))))))
      (pss_cons (ps_fld (pv 0) pe_bl rfl)
      (pss_cons (ps_expr (pe_bm PySem.F.plainAttrs_list PySem.F.slot_list_append PySem.F.type_list_append mt_append (pe_ix ix_list (pe_fld (pv 0) rfl) (pe_un un_neg pe_int) (fun _ _ => rfl)) (pa_cons (pe_tup (pa_cons (pe_tup pa_nil) (pa_cons (pv 1) pa_nil))) pa_nil)))
      (pss_one (ps_ret (pv 2)))))))), ?_⟩
    have hoR : R ≠ o := ne_of D.rows D.ins (by intro z; cases z)
    have hlst : ∀ (a : Addr) (ks : List Kd), RowOk K H a ks → a ≠ o := fun a ks ⟨vs, h1, _⟩ => ne_of h1 D.ins (by intro z; cases z)
    have era : ra.length = stk.length := by
      have := congrArg List.length D.stk
      rw [List.length_map, List.length_reverse] at this
      exact this
    refine ⟨_, rfl, rfl, _, rfl, ?_⟩
    rw [opn_eq, str_dec]
    refine ite2 (fun h1 => ?_) (fun h1 => ?_)
    · have h1' : t = Opn := of_decide_eq_true h1
      refine ⟨_, rfl, o, C, dx, _, _, rfl, D.ins, T.cl, T.nR, kf_rows _ _, .inl ⟨rfl, _, SqL.of D.rows⟩, Nat.zero_le _, fun e he => ?_⟩
      have s1 := same_new (o := .lst []) he
      refine ⟨R, _, _, rfl, rfl, s1 _ _ D.rows, szlt (by rw [List.length_append, List.length_map, era]; show stk.length + 1 < 16777216; have := bk; dsimp only at this; omega), ?_⟩
      have neo : o ≠ e := ne_of_none D.ins he
      have s2 : Same H0 (upd (upd H e (.lst [])) R (.lst (ra.map (fun p => V.ref p.1) ++ [V.ref r] ++ [V.ref e]))) := same_put (Same.trans D.same s1) D.nR
      have ho2 : (upd (upd H e (.lst [])) R (.lst (ra.map (fun p => V.ref p.1) ++ [V.ref r] ++ [V.ref e]))) o = some (.ins C dx (kf R wants)) := by rw [upd_ne hoR.symm]; exact s1 _ _ D.ins
      have sn : SameN H (upd (upd H e (.lst [])) R (.lst (ra.map (fun p => V.ref p.1) ++ [V.ref r] ++ [V.ref e]))) := SameN.trans (sN s1) (sameN_lst (s1 _ _ D.rows))
      have hrow : ∀ (a : Addr) (ks : List Kd), R ≠ a → RowOk K H a ks → RowOk K (upd (upd H e (.lst [])) R (.lst (ra.map (fun p => V.ref p.1) ++ [V.ref r] ++ [V.ref e]))) a ks := fun a ks hn h => by
        refine h.mono sn ?_
        obtain ⟨vs, h2, _⟩ := h
        rw [upd_ne hn.symm, h2]
        exact s1 _ _ h2
      refine ⟨_, rfl, o, C, dx, _, _, rfl, ho2, T.cl, T.nW, kf_wants _ _, ?_⟩
      have hre : ∀ (a : Addr) (ks : List Kd), RowOk K H a ks → a ≠ e := fun a ks ⟨vs, h2, _⟩ => ne_of_none h2 he
      have hRd : Fp.Rd K C H0 (upd (upd H e (.lst [])) R (.lst (ra.map (fun p => V.ref p.1) ++ [V.ref r] ++ [V.ref e]))) o ⟨cur :: stk, [], wants⟩ := by
        refine ⟨dx, R, e, ra ++ [(r, cur)], ?_⟩
        exact {
          same := s2
          n0 := D.n0
          nR := D.nR
          nr := Same.free D.same he
          na := fun p hp => by
            rcases List.mem_append.mp hp with hp | hp
            · exact D.na p hp
            · rw [List.mem_singleton.mp hp]; exact D.nr
          ins := ho2
          rows := by rw [upd_same, List.map_append]; rfl
          outer := fun p hp => by
            rcases List.mem_append.mp hp with hp | hp
            · exact hrow _ _ (D.Ra p hp) (D.outer p hp)
            · rw [List.mem_singleton.mp hp]; exact hrow _ _ D.Rr D.cur
          cur := ⟨[], by rw [upd_ne (ne_of_none D.rows he).symm, upd_same], by rw [kdDs]; exact .nil⟩
          stk := by rw [List.map_append, D.stk, List.reverse_cons]; rfl
          nd := by
            rw [List.map_append]
            refine List.nodup_append.mpr ⟨D.nd, by simp, fun a ha b hb => ?_⟩
            rw [List.mem_singleton.mp hb]
            rcases List.mem_append.mp ha with ha | ha
            · obtain ⟨p, hp, rfl⟩ := List.mem_map.mp ha
              exact hre _ _ (D.outer p hp)
            · rw [List.mem_singleton.mp ha]; exact hre _ _ D.cur
          Rr := ne_of_none D.rows he
          Ra := fun p hp => by
            rcases List.mem_append.mp hp with hp | hp
            · exact D.Ra p hp
            · rw [List.mem_singleton.mp hp]; exact D.Rr }
      subst h1'
      cases wants with
      | false => exact ⟨_, rfl, iteF (kN rfl _ s2)⟩
      | true =>
        refine ⟨_, rfl, iteT ⟨_, rfl, o, C, dx, _, _, rfl, ho2, T.cl, T.nR, kf_rows _ _, R, _, rfl, .inl (SqL.of upd_same), _, _, rfl, rfl, _, _, rfl, rfl, ?_⟩⟩
        have el : ((ra.map (fun p => V.ref p.1) ++ [V.ref r] ++ [V.ref e]).length : Int) = ((stk.length + 2 : Nat) : Int) := by
          rw [List.length_append, List.length_append, List.length_map, era]
          rfl
        rw [el]
        by_cases hd : stk.length + 2 ≤ 5
        · show Q (V.bl (decide (((stk.length + 2 : Nat) : Int) ≤ 4 + 1))) _
          rw [decide_eq_true (by omega)]
          refine kS _ ?_ _ hRd
          show (if true = true ∧ stk.length + 2 ≤ 5 then some (RdS.mk (cur :: stk) [] true) else none) = _
          rw [if_pos ⟨rfl, hd⟩]
        · show Q (V.bl (decide (((stk.length + 2 : Nat) : Int) ≤ 4 + 1))) _
          rw [decide_eq_false (by omega)]
          refine kN ?_ _ s2
          show (if true = true ∧ stk.length + 2 ≤ 5 then some (RdS.mk (cur :: stk) [] true) else none) = _
          rw [if_neg (fun z => hd z.2)]
    · have h1' : ¬ t = Opn := fun z => h1 (decide_eq_true z)
      have tend : (t = Arr ∨ t = Clo) → sp_KR_end K C [.ref o, .str (S t)] H Q E0 := fun ht => ⟨H0, o, _, t, rfl, Dy, ok, ht, bs, bc, bk, kN, kS⟩
      refine ⟨_, rfl, rfl, _, rfl, ?_⟩
      rw [arrow_eq, str_dec]
      refine ite2 (fun h2 => ?_) (fun h2 => ?_)
      · exact iteT ⟨_, rfl, o, dx, _, rfl, D.ins, kf_no _ _ fTR fTW, _, rfl, tend (.inl (of_decide_eq_true h2))⟩
      have h2' : ¬ t = Arr := fun z => h2 (decide_eq_true z)
      refine ⟨_, rfl, rfl, _, rfl, ?_⟩
      rw [clo_eq, str_dec]
      refine ite2 (fun h3 => ?_) (fun h3 => ?_)
      · exact ⟨_, rfl, o, dx, _, rfl, D.ins, kf_no _ _ fTR fTW, _, rfl, tend (.inr (of_decide_eq_true h3))⟩
      have h3' : ¬ t = Clo := fun z => h3 (decide_eq_true z)
      have est : rstep ⟨stk, cur, wants⟩ t = if wants = true ∧ wordB t = true then some ⟨stk, cur ++ [.mk [] ⟨t.toArray⟩], false⟩ else none := by
        unfold rstep
        rw [if_neg h1', if_neg h2', if_neg h3']
      refine ⟨fun σ H' => σ = [some (.ref o), some (.str (S t)), some (.bl (wants && wordB t))] ∧ Same H H', ?_, ?_⟩
      · refine ⟨_, rfl, o, C, dx, _, _, rfl, D.ins, T.cl, T.nW, kf_wants _ _, wants, rfl, ?_⟩
        cases wants with
        | false => exact iteF ⟨rfl, Same.refl _⟩
        | true => exact iteT ⟨_, rfl, S t, rfl, by rw [len_S]; omega, fun H' s1 => ⟨rfl, s1⟩⟩
      · rintro σ H1 ⟨rfl, s1⟩
        refine ⟨_, rfl, o, C, dx, _, rfl, s1 _ _ D.ins, T.cl, T.nW, (by show 2 < 1000; decide), ?_⟩
        rw [kf_put]
        have s2 : Same H0 (upd H1 o (.ins C dx (kf R false))) := same_put (Same.trans D.same s1) D.n0
        have hR2 : (upd H1 o (.ins C dx (kf R false))) R = some (.lst (ra.map (fun p => V.ref p.1) ++ [V.ref r])) := by rw [upd_ne hoR]; exact s1 _ _ D.rows
        have ho2 : (upd H1 o (.ins C dx (kf R false))) o = some (.ins C dx (kf R false)) := upd_same
        have sn2 : SameN H (upd H1 o (.ins C dx (kf R false))) := SameN.trans (sN s1) (sameN_ins (s1 _ _ D.ins))
        have hrow : ∀ (a : Addr) (ks : List Kd), RowOk K H a ks → RowOk K (upd H1 o (.ins C dx (kf R false))) a ks := fun a ks h => by
          refine h.mono sn2 ?_
          have hao := hlst a ks h
          obtain ⟨vs, h4, _⟩ := h
          rw [upd_ne hao, h4]
          exact s1 _ _ h4
        have hout : ∀ p ∈ ra, RowOk K (upd H1 o (.ins C dx (kf R false))) p.1 p.2 := fun p hp => hrow _ _ (D.outer p hp)
        obtain ⟨cvs, hc, dc⟩ := hrow _ _ D.cur
        generalize (upd H1 o (.ins C dx (kf R false))) = H2 at *
        refine ⟨_, rfl, o, C, dx, _, _, rfl, ho2, T.cl, T.nR, kf_rows _ _, _, rfl, R, _, _, _, rfl, rfl, SqL.of hR2, atI_last _ _, ?_⟩
        refine ⟨.inl ⟨rfl, _, SqL.of hc⟩, Nat.zero_le _, fun p hp => ⟨_, rfl, szl (by show 2 ≤ 16777216; decide), fun q hq => ?_⟩⟩
        have s3 := same_new (o := .tup []) hp
        have s4 := Same.trans s3 (same_new (o := .tup [V.ref p, V.str (S t)]) hq)
        have hp4 := same_new (o := .tup [V.ref p, V.str (S t)]) hq p (.tup []) upd_same
        have hq4 : (upd (upd H2 p (.tup [])) q (.tup [V.ref p, V.str (S t)])) q = some (.tup [V.ref p, V.str (S t)]) := upd_same
        generalize (upd (upd H2 p (.tup [])) q (.tup [V.ref p, V.str (S t)])) = H4 at *
        have hcl : cvs.length = cur.length := (dpAll_length dc).trans (kdDs_length cur)
        refine ⟨r, _, _, rfl, rfl, s4 _ _ hc, szlt (by have := bc; dsimp only at this; omega), _, rfl, ?_⟩
        have s5 : Same H0 (upd H4 r (.lst (cvs ++ [V.ref q]))) := same_put (Same.trans s2 s4) D.nr
        have snn := sameN_lst (o := .lst (cvs ++ [V.ref q])) (s4 _ _ hc)
        have nro := hlst _ _ D.cur
        have hnd := List.nodup_append.mp D.nd
        have hRd : Fp.Rd K C H0 (upd H4 r (.lst (cvs ++ [V.ref q]))) o ⟨stk, cur ++ [.mk [] (S t)], false⟩ := by
          refine ⟨dx, R, r, ra, ?_⟩
          exact {
            same := s5
            n0 := D.n0
            nR := D.nR
            nr := D.nr
            na := D.na
            ins := by rw [upd_ne nro.symm]; exact s4 _ _ ho2
            rows := by rw [upd_ne D.Rr]; exact s4 _ _ hR2
            outer := fun p hp => by
              obtain ⟨w1, h5, h6⟩ := hout p hp
              have hne : p.1 ≠ r := hnd.2.2 p.1 (List.mem_map.mpr ⟨p, hp, rfl⟩) r (by simp)
              exact ⟨w1, by rw [upd_ne hne]; exact s4 _ _ h5, DpAll.sameN (SameN.trans (sN s4) snn) (noL_kds _) h6⟩
            cur := by
              refine ⟨_, upd_same, ?_⟩
              rw [kdDs_append, show kdDs [Kd.mk [] (S t)] = [kdD (Kd.mk [] (S t))] by rw [kdDs, kdDs]]
              refine dpAll_append (DpAll.sameN (SameN.trans (sN s4) snn) (noL_kds _) dc) (.cons (dp_mk (b := p) (vs := []) ?_ ?_ ?_) .nil)
              · exact SqT.sameN snn (SqT.of hq4)
              · exact SqT.sameN snn (SqT.of hp4)
              · rw [kdDs]; exact .nil
            stk := D.stk
            nd := D.nd
            Rr := D.Rr
            Ra := D.Ra }
        by_cases hw : wants = true ∧ wordB t = true
        · rw [if_pos hw] at est
          rw [hw.1, hw.2]
          exact kS _ est _ hRd
        · rw [if_neg hw] at est
          have e : (wants && wordB t) = false := by
            rw [Bool.eq_false_iff]
            intro z
            rw [Bool.and_eq_true] at z
            exact hw z
          rw [e]
          exact kN est _ s5
/-! ### result -/
abbrev s_KindReader_result : Stmt := inClass (top 25) 3
abbrev N_KindReader_result : List Str := ["self"]
theorem sc_KindReader_result : FnScope N_KindReader_result ["self"] (defScope s_KindReader_result) := ⟨rfl, rfl, rfl, by decide +kernel, rfl, by decide +kernel, by decide +kernel⟩
/-- what a reading of a kind promises -/
def KdQ (K : PySem.W.Frag) (H0 : Hp) (r : Option Kd) (Q : VK) : Prop := (r = none → ∀ H', Same H0 H' → Q .non H') ∧ ∀ k, r = some k → ∀ v H', Same H0 H' → Dp K H' v (kdD k) → Q v H'
def sp_KR_result (K : PySem.W.Frag) (C : Addr) : Sp := fun vs H Q _ => ∃ (H0 : Hp) (o : Addr) (s : RdS), vs = [.ref o] ∧ Fp.Rd K C H0 H o s ∧ RdOk s ∧ KdQ K H0 (rres s) Q
theorem closeRow_snoc (ks : List Kd) (k : Kd) : closeRow (ks ++ [k]) = if k.args.isEmpty then some (.mk ks k.atom) else none := by
  unfold closeRow
  rw [lastAtom_snoc]
  cases k.args.isEmpty with
  | true => rw [if_pos rfl, if_pos rfl, List.dropLast_concat]
  | false => rfl
theorem ok_KR_result {C f : Addr} {fd : FuncData} (F : Fun K "result" "KindReader.result" s_KindReader_result f fd) (N : Nm mg) (T : KRf K C) : FnOk P w K mg base CX0 1 f fd ["self"] (sp_KR_result K C) := by
  refine F.ok sc_KindReader_result (fun vs H Q E h => ?_) (fun cdv A outer s H vs Q E hr h => ?_)
  · obtain ⟨H0, o, s, rfl, _⟩ := h
    rfl
  · obtain ⟨H0, o, ⟨stk, cur, wants⟩, rfl, ⟨dx, R, r, ra, D⟩, ok, kN, kS⟩ := h
    refine ⟨_, (pss_cons (ps_if (PW.pt (pw_or (pt_val (pe_fld (pv 0) rfl)) (pw_or (pt_cmpR op_ne (pe_callB call_len_seq (by rfl) N.len (by decide +kernel) (pa_cons (pe_fld (pv 0) rfl) pa_nil)) pe_int (nomark _)) (pw_or1 (pt_cmpR (op_neNil hr.units0) (pe_ix ix_tup (pe_ix ix_list (pe_ix ix_list (pe_fld (pv 0) rfl) pe_int (fun _ _ => rfl)) (pe_un un_neg pe_int) (fun _ _ => rfl)) pe_int (fun _ _ => rfl)) (pe_tup pa_nil) (nomark _)))))) (pss_one (ps_ret pe_non)) pss_nil)
      (pss_one (ps_ret (pe_tup (pa_cons (pe_callTy call_tuple_of (by rfl) N.tuple (by decide +kernel) (pa_cons (pe_slice sl_list (pe_ix ix_list (pe_fld (pv 0) rfl) pe_int (fun _ _ => rfl)) po_none (po_some (pe_un un_neg pe_int))) pa_nil)) (pa_cons (pe_ix ix_tup (pe_ix ix_list (pe_ix ix_list (pe_fld (pv 0) rfl) pe_int (fun _ _ => rfl)) (pe_un un_neg pe_int) (fun _ _ => rfl)) pe_int (fun _ _ => rfl)) pa_nil)))))), ?_⟩
    have era : ra.length = stk.length := by
      have := congrArg List.length D.stk
      rw [List.length_map, List.length_reverse] at this
      exact this
    refine ⟨_, rfl, o, C, dx, _, _, rfl, D.ins, T.cl, T.nW, kf_wants _ _, wants, rfl, ?_⟩
    cases wants with
    | true => exact iteT (iteT (kN rfl _ D.same))
    | false =>
    refine iteF ⟨_, rfl, o, C, dx, _, _, rfl, D.ins, T.cl, T.nR, kf_rows _ _, R, _, rfl, .inl (SqL.of D.rows), rfl, _, rfl, ?_⟩
    rw [List.length_append, List.length_map, era]
    cases stk with
    | cons b stk =>
      refine iteTo ?_ (iteT (kN rfl _ D.same))
      rw [dec_int]
      show (!((((b :: stk).length + 1 : Nat) : Int) == 1)) = true
      have : ¬ (((b :: stk).length + 1 : Nat) : Int) = 1 := by rw [List.length_cons]; omega
      simpa using this
    | nil =>
    have er : ra = [] := by simpa using D.stk
    subst er
    have hrows : H R = some (.lst [V.ref r]) := D.rows
    refine iteFo (by rw [dec_int]; rfl) ?_
    obtain ⟨vs, hvs, dvs⟩ := D.cur
    obtain ⟨ks, k, rfl⟩ := kd_snoc_cases cur (ok rfl)
    have ecl := closeRow_snoc ks k
    have eres : rres ⟨[], ks ++ [k], false⟩ = closeRow (ks ++ [k]) := by unfold rres; rw [if_neg (by simp)]
    rw [ecl] at eres
    dsimp only at dvs
    rw [kdDs_append] at dvs
    rw [show kdDs [k] = [kdD k] by rw [kdDs, kdDs]] at dvs
    obtain ⟨vs0, v, rfl, d0, dv⟩ := dpAll_snoc dvs
    obtain ⟨a, b', us, rfl, q1, q2, q3⟩ := dp_kd dv
    refine ⟨_, rfl, o, C, dx, _, _, rfl, D.ins, T.cl, T.nR, kf_rows _ _, R, _, 0, _, rfl, rfl, SqL.of hrows, rfl, _, rfl, r, _, _, _, rfl, rfl, SqL.of hvs, atI_last _ _, a, _, 0, _, rfl, rfl, q1, rfl, Nat.zero_le _, fun t ht => ?_⟩
    have s1 := same_new (o := .tup []) ht
    refine ⟨b', t, us, rfl, rfl, .inr ⟨SqT.same s1 q2, SqT.of upd_same⟩, _, rfl, ?_⟩
    rw [isEmpty_args q3]
    cases hk : k.args.isEmpty with
    | false =>
      rw [hk] at eres
      exact iteT (kN eres _ (Same.trans D.same s1))
    | true =>
    rw [hk] at eres
    generalize (upd H t (.tup [])) = H1 at *
    refine iteF ⟨_, rfl, o, C, dx, _, _, rfl, s1 _ _ D.ins, T.cl, T.nR, kf_rows _ _, R, _, 0, _, rfl, rfl, SqL.of (s1 _ _ hrows), rfl, _, rfl, _, rfl, r, _, rfl, SqL.of (s1 _ _ hvs), fun q hq => ?_⟩
    rw [cutV_front]
    have s2 := Same.trans s1 (same_new (o := .lst vs0) hq)
    refine ⟨q, vs0, rfl, .inl ⟨SqL.of upd_same, fun l hl => ?_⟩⟩
    have s3 := Same.trans s2 (same_new (o := .tup vs0) hl)
    have hl3 : (upd (upd H1 q (.lst vs0)) l (.tup vs0)) l = some (.tup vs0) := upd_same
    generalize (upd (upd H1 q (.lst vs0)) l (.tup vs0)) = H3 at *
    refine ⟨_, rfl, o, C, dx, _, _, rfl, s3 _ _ D.ins, T.cl, T.nR, kf_rows _ _, R, _, 0, _, rfl, rfl, SqL.of (s3 _ _ hrows), rfl, _, rfl, r, _, _, _, rfl, rfl, SqL.of (s3 _ _ hvs), atI_last _ _, a, _, 1, _, rfl, rfl, SqT.same s3 q1, rfl, szl (by show 2 ≤ 16777216; decide), fun p hp => ?_⟩
    have s4 := same_new (o := .tup [V.ref l, V.str k.atom]) hp
    refine kS _ eres _ _ (Same.trans D.same (Same.trans s3 s4)) (dp_mk (b := l) (vs := vs0) (SqT.of upd_same) (SqT.of (s4 _ _ hl3)) (DpAll.same (Same.trans s3 s4) d0))
end
end Fp
/-! W7: shape_of -/
namespace Fp
open PySem PySem.Spec PyProof.Rows L2 TL
/-- a class that may be made by its name; sp: its __init__ -/
structure MkC (P : Program) (w : World) (K : PySem.W.Frag) (mg : Str → Option Value) (base : Heap) (CX : CXT) (k : Nat) (x : Str) (C : Addr) (sp : Sp) (dvs : List V) : Prop where
  ex : ∃ (f : Addr) (fd : FuncData) (ps : List Str) (ds : List Value), Mk K C f ∧ FnOk P w K mg base CX k f fd ps sp ∧ mg x = some (.ref C) ∧ Binds K fd ps ds ∧ Vals dvs ds
section
variable {X : Cx} {k j : Nat} {C : Addr} {x : Str} {sp : Sp} {dvs : List V} {p pos : Pos} {e : Expr} {es : List Expr} {t : TA}
theorem pe_mk (c : MkC X.prog X.w X.K X.mg X.base CX0 k x C sp dvs) (hr : Room j X.A) (hk : k + 1 ≤ j := by decide) (hg : Gl X x := by rfl) (ha : PA X (e :: es) t)
    (hdb : (x == ("__debug__" : Str)) = false := by decide) (he : starEach (e :: es) X.env = (false, eval e X.env) :: starEach es X.env := by rfl) (hpl : (backTo pos (starEach es X.env)).any (·.1) = false := by rfl) :
    PE X (.Call (.Name x p) (e :: es) [] pos) (tMake C sp dvs E0 t) := by
  obtain ⟨f, fd, ps, ds, M, F, hm, b, d⟩ := c.ex
  exact pe_make M F (hr.mono hk) hg hm b d pass0 ha hdb he hpl
theorem pe_mk0 (c : MkC X.prog X.w X.K X.mg X.base CX0 k x C sp dvs) (hr : Room j X.A) (hk : k + 1 ≤ j := by decide) (hg : Gl X x := by rfl)
    (hdb : (x == ("__debug__" : Str)) = false := by decide) :
    PE X (.Call (.Name x p) [] [] pos) (tMake C sp dvs E0 tNil) := by
  obtain ⟨f, fd, ps, ds, M, F, hm, b, d⟩ := c.ex
  exact pe_make0 M F (hr.mono hk) hg hm b d pass0 hdb
theorem pe_mkx {E : XK} (c : MkC X.prog X.w X.K X.mg X.base (L2.CX X.prog X.w) k x C sp dvs) (hr : Room j X.A) (hx : Passes (L2.CX X.prog X.w) X E) (hk : k + 1 ≤ j := by decide) (hg : Gl X x := by rfl) (ha : PA X (e :: es) t)
    (hdb : (x == ("__debug__" : Str)) = false := by decide) (he : starEach (e :: es) X.env = (false, eval e X.env) :: starEach es X.env := by rfl) (hpl : (backTo pos (starEach es X.env)).any (·.1) = false := by rfl) :
    PE X (.Call (.Name x p) (e :: es) [] pos) (tMake C sp dvs E t) := by
  obtain ⟨f, fd, ps, ds, M, F, hm, b, d⟩ := c.ex
  exact pe_make M F (hr.mono hk) hg hm b d hx ha hdb he hpl
end
/-! ### the reader's sizes -/
def szS (s : RdS) : Nat := s.stk.length + (s.stk.map List.length).sum + s.cur.length
theorem szS_step {s s' : RdS} {t : List Nat} (h : rstep s t = some s') : szS s' ≤ szS s + 1 := by
  obtain ⟨stk, cur, wants⟩ := s
  unfold rstep at h
  split at h
  · split at h
    · cases h
      simp only [szS, List.length_cons, List.map_cons, List.sum_cons, List.length_nil]
      omega
    · cases h
  · split at h
    · split at h
      · cases h
      · cases h
        simp only [szS]
        omega
    · split at h
      · split at h
        · cases h
        · cases stk with
          | nil => cases h
          | cons r stk =>
            dsimp only at h
            split at h
            · cases h
            · split at h
              · cases h
                simp only [szS, List.length_cons, List.map_cons, List.sum_cons, List.length_append, List.length_nil]
                omega
              · cases h
      · split at h
        · cases h
          simp only [szS, List.length_append, List.length_cons, List.length_nil]
          omega
        · cases h
theorem szS_run : ∀ {ts : List (List Nat)} {s s' : RdS}, rrun s ts = some s' → szS s' ≤ szS s + ts.length
  | [], s, s', h => by cases h; simp
  | t :: ts, s, s', h => by
    unfold rrun at h
    cases e : rstep s t with
    | none => rw [e] at h; cases h
    | some s1 =>
      rw [e] at h
      have h1 := szS_step e
      have h2 := szS_run (ts := ts) h
      rw [List.length_cons]
      omega
theorem sum_mem : ∀ {l : List (List Kd)} {k : List Kd}, k ∈ l → k.length ≤ (l.map List.length).sum
  | a :: l, k, h => by
    rw [List.map_cons, List.sum_cons]
    rcases List.mem_cons.mp h with rfl | h
    · omega
    · have := sum_mem h
      omega
theorem rrun_snoc {s s1 : RdS} {ts : List (List Nat)} {t : List Nat} (h : rrun s ts = some s1) : rrun s (ts ++ [t]) = rstep s1 t := by
  rw [rrun_append, h]
  show (match rstep s1 t with | some s' => rrun s' [] | none => none) = _
  cases rstep s1 t with
  | none => rfl
  | some s2 => rfl
theorem flat_mem : ∀ {ts : List (List Nat)} {t : List Nat}, t ∈ ts → t.length ≤ ts.flatten.length
  | a :: ts, t, h => by
    rw [List.flatten_cons, List.length_append]
    rcases List.mem_cons.mp h with rfl | h
    · omega
    · have := flat_mem h
      omega
section
variable {P : Program} {w : World} {K : PySem.W.Frag} {mg : Str → Option Value} {base : Heap}
abbrev s_shape_of : Stmt := top 26
abbrev N_shape_of : List Str := ["text", "signs", "sign", "reader"]
theorem sc_shape_of : FnScope N_shape_of ["text"] (defScope s_shape_of) := ⟨rfl, rfl, rfl, by decide +kernel, rfl, by decide +kernel, by decide +kernel⟩
def sp_shape_of (K : PySem.W.Frag) : Sp := fun vs H Q _ => ∃ x : Str, vs = [.str x] ∧ x.length ≤ 1000000 ∧ KdQ K H (shape (tl x)) Q
theorem S_beq (t u : List Nat) : (S t == S u) = decide (t = u) := by
  by_cases h : t = u
  · rw [h, decide_eq_true rfl]
    simp
  · rw [decide_eq_false h]
    simpa using fun e : S t = S u => h (congrArg tl e)
theorem inV3 (t : List Nat) : inV (sV t) [V.str (S Opn), V.str (S Clo), V.str (S Arr)] = isSign t := by
  show ((S Opn == S t) || ((S Clo == S t) || ((S Arr == S t) || false))) = _
  rw [S_beq, S_beq, S_beq, Bool.or_false]
  unfold isSign
  have e : ∀ u : List Nat, (t == u) = decide (u = t) := fun u => by
    by_cases h : t = u
    · rw [h]; simp
    · rw [decide_eq_false fun z => h z.symm]; simpa using h
  rw [e, e, e]
theorem ok_shape_of {C f : Addr} {fd : FuncData} (F : Fun K "shape_of" "shape_of" s_shape_of f fd) (N : Nm mg) (T : KRf K C) (c_signs_of : Cal P w K mg base CX0 1 "signs_of" sp_signs_of)
    (c_make : MkC P w K mg base CX0 1 "KindReader" C (sp_KR_init K C) []) (c_take : MetC P w K mg base CX0 2 C "take" (sp_KR_take K C)) (c_result : MetC P w K mg base CX0 1 C "result" (sp_KR_result K C)) : FnOk P w K mg base CX0 3 f fd ["text"] (sp_shape_of K) := by
  refine F.ok sc_shape_of (fun vs H Q E h => ?_) (fun cdv A outer s H vs Q E hr h => ?_)
  · obtain ⟨x, rfl, _⟩ := h
    rfl
  · obtain ⟨x, rfl, hx, kN, kS⟩ := h
    refine ⟨_, (pss_cons (ps_set (i := 1) sc_shape_of.nd rfl (Or.inl rfl) (pe_ifExp (pt_val (pe_callB call_isi (by rfl) N.isi (by decide +kernel) (pa_cons (pv 0) (pa_cons (pe_bltn (v := .ty "str") (by rfl) N.str (by decide +kernel) rfl) pa_nil)))) (pe_c c_signs_of hr (ha := (pa_cons (pv 0) pa_nil))) pe_non))
      (pss_cons (ps_if (PW.pt (pw_or (pt_cmpR op_isN (pv 1) pe_non (nomark _)) (pw_or1 (pt_cmpR op_gt (pe_callB call_len_seq (by rfl) N.len (by decide +kernel) (pa_cons (pe_lc (own := [("sign", 2)]) (g := gName 2) rfl sc_shape_of.nd (pi_list (pv 1)) (blkOk_by (N := N_shape_of) (sc := defScope s_shape_of) (by decide +kernel)) (fun _ _ _ _ _ => pg_name (i := 2) sc_shape_of.nd rfl (Or.inl rfl)) (fun _ _ _ _ _ => pts_one (pt_cmpR (r := rIn K true) op_notIn_seq (pv 2) (pe_tup (pa_cons pe_str (pa_cons pe_str (pa_cons (pe_gv N.ARROW) pa_nil)))) (by rfl))) (fun _ _ _ _ _ => (pv 2))) pa_nil)) (pe_gv N.MAX_PLACES) (nomark _))))) (pss_one (ps_ret pe_non)) pss_nil)
      (pss_cons (ps_set (i := 3) sc_shape_of.nd rfl (Or.inl rfl) (pe_mk0 c_make hr))
      (pss_cons (ps_for PassesOwn.never rfl (pi_list (pv 1)) (pg_name (i := 2) sc_shape_of.nd rfl (Or.inl rfl)) (pss_one (ps_if (pt_not (pt_val (pe_mm (pv 3) T.cl c_take hr (ha := pa_cons (pv 2) pa_nil)))) (pss_one (ps_ret pe_non)) pss_nil)))
      (pss_one (ps_ret (pe_mm0 (pv 3) T.cl c_result hr))))))), ?_⟩
    refine ⟨_, rfl, _, _, _, _, true, rfl, .ty "str", .base (.str x), kit_ty (by decide +kernel), _, rfl, iteT ?_⟩
    refine ⟨_, rfl, x, rfl, hx, fun hn H1 s1 => ?_, fun ts hts p H1 s1 hp hp1 hl => ?_⟩
    · refine ⟨_, rfl, rfl, _, rfl, iteTo (decide_eq_true rfl) (iteT (kN ?_ _ s1))⟩
      unfold shape
      rw [hn]
    · have hsh : shape (tl x) = if (ts.filter fun t => !isSign t).length > 15 then none else match rrun rd0 ts with | some s => rres s | none => none := by
        unfold shape
        rw [hts] <;> rfl
      refine ⟨_, rfl, rfl, _, rfl, iteFo (decide_eq_false (by intro z; cases z)) ⟨_, rfl, p, rfl, ⟨_, SqL.of hp1⟩, fun D hD => ?_⟩⟩
      have hlen : (ts.map sV).length ≤ 16777216 := by rw [List.length_map]; omega
      refine lc_same walk_list hD hlen (fun H s => SqL.of (s _ _ hp1)) (fun i acc _ => acc = ((ts.take i).filter fun t => !isSign t).map sV) (fun i acc H H' l _ _ r => r) (fun H => by simp) (fun i acc H r => ?_) (fun i z H2 H3 acc hi s2 hl2 r y Qy Qn hy hn => ?_) (fun H2 acc s2 hacc r => ?_)
      · rw [r, List.length_map]
        exact Nat.le_trans (List.length_filter_le _ _) (by rw [List.length_take]; omega)
      · obtain ⟨rfl, hz⟩ := y
        rw [List.getElem?_map] at hz
        obtain ⟨t, ht, rfl⟩ := Option.map_eq_some_iff.mp hz
        refine ⟨rfl, _, rfl, szl (by show 3 ≤ 16777216; decide), fun q hq => ⟨q, _, rfl, .inr (SqT.of upd_same), rfl, rfl, _, rfl, ?_⟩⟩
        have s3 := same_new (o := .tup [V.str (Str.ofString "("), V.str (Str.ofString ")"), V.str (Str.ofString " -> ")]) hq
        have e : (!inV (sV t) [V.str (Str.ofString "("), V.str (Str.ofString ")"), V.str (Str.ofString " -> ")]) = !isSign t := by
          rw [opn_eq, clo_eq, arrow_eq, inV3]
        have etk : ts.take (i + 1) = ts.take i ++ [t] := by
          rw [List.take_add_one, ht]
          rfl
        show (if (!inV (sV t) [V.str (Str.ofString "("), V.str (Str.ofString ")"), V.str (Str.ofString " -> ")]) = true then _ else _)
        rw [e]
        refine ite2 (fun h1 => ?_) (fun h1 => ?_)
        · refine ⟨_, rfl, hy _ _ s3 ?_⟩
          rw [r, etk, List.filter_append, List.map_append, List.filter_cons, if_pos h1]
          rfl
        · refine hn _ s3 ?_
          rw [r, etk, List.filter_append, List.map_append, List.filter_cons, if_neg h1]
          simp
      · have r' : acc = (ts.filter fun t => !isSign t).map sV := by
          rw [r, List.length_map, List.take_length]
        refine ⟨D, _, rfl, .inl (SqL.of hacc), _, _, rfl, rfl, _, rfl, ?_⟩
        rw [r', List.length_map]
        refine ite2 (fun h1 => ?_) (fun h1 => ?_)
        · rw [decide_eq_true_eq] at h1
          refine kN ?_ _ (Same.trans s1 s2)
          rw [hsh, if_pos (by omega)]
        rw [decide_eq_true_eq] at h1
        rw [if_neg (by omega)] at hsh
        have s02 := Same.trans s1 s2
        refine (fun o dx ho hdx hne => ⟨H2, o, dx, rfl, same_upd (same_new hdx) (by rw [upd_ne hne.symm]; exact ho), ho, upd_same, fun H3 rd => ⟨rfl, _, rfl, p, rfl, ⟨ts.map sV, SqL.of ?_⟩, ?_⟩⟩)
        · obtain ⟨_, _, _, _, D3⟩ := rd
          exact D3.same _ _ (s2 _ _ hp1)
        have hp2 := s2 _ _ hp1
        refine for_it walk_list (fun i σ H4 => ∃ (s : RdS) (sl : Option V), rrun rd0 (ts.take i) = some s ∧ RdOk s ∧ Fp.Rd K C H2 H4 o s ∧ σ = [some (.str x), some (.ref p), sl, some (.ref o)]) ⟨rd0, _, rfl, (fun z => by cases z), rd, rfl⟩ (fun i σ H4 hi ⟨s, sl, _, _, ⟨_, _, _, _, D3⟩, _⟩ => SqL.of (D3.same _ _ hp2)) (fun i z σ H4 H5 hi ⟨s, sl, hrun, hok, hrd, hσ⟩ y => ?_) (fun σ H4 ⟨s, sl, hrun, hok, hrd, hσ⟩ => ?_)
        · subst hσ
          obtain ⟨rfl, hz⟩ := y
          rw [List.getElem?_map] at hz
          obtain ⟨t, ht, rfl⟩ := Option.map_eq_some_iff.mp hz
          have etk : ts.take (i + 1) = ts.take i ++ [t] := by
            rw [List.take_add_one, ht]
            rfl
          have hsz := szS_run hrun
          rw [List.length_take] at hsz
          have hsz0 : szS rd0 = 0 := rfl
          have hrd' := hrd
          obtain ⟨dx', R', r', ra', D3⟩ := hrd'
          have hfl := toks_flat _ _ _ (Nat.le_refl _) hts
          have htl : t.length ≤ (tl x).length := by
            rw [← hfl]
            exact flat_mem (List.mem_of_getElem? ht)
          have hx2 := len_tl x
          have hrs := rrun_snoc (t := t) hrun
          rw [← etk] at hrs
          have hszs : szS s = s.stk.length + (s.stk.map List.length).sum + s.cur.length := rfl
          refine ⟨_, rfl, o, dx', _, rfl, D3.ins, kf_no _ _ (by decide +kernel) (by decide +kernel), _, rfl, H2, o, s, t, rfl, hrd, hok, by omega, fun k hk => by have := sum_mem hk; omega, by omega, by omega, fun hn H5 s5 => ⟨_, rfl, iteT (kN ?_ _ (Same.trans s02 s5))⟩, fun s' hs' H5 hrd5 => ⟨_, rfl, iteF ⟨s', _, hrs.trans hs', (rstep_pr hok hs').1, hrd5, rfl⟩⟩⟩
          rw [hsh]
          have e3 : rrun rd0 ts = none := by
            have e4 : ts = ts.take (i + 1) ++ ts.drop (i + 1) := (List.take_append_drop _ _).symm
            rw [e4, rrun_append, hrs, hn]
          rw [e3]
        · subst hσ
          rw [List.length_map, List.take_length] at hrun
          rw [hrun] at hsh
          dsimp only at hsh
          have hrd' := hrd
          obtain ⟨dx', R', r', ra', D3⟩ := hrd'
          refine ⟨_, rfl, o, dx', _, rfl, D3.ins, kf_no _ _ (by decide +kernel) (by decide +kernel), H2, o, s, rfl, hrd, hok, fun hn H5 s5 => kN (hsh.trans hn) _ (Same.trans s02 s5), fun k hk v H5 s5 dv => kS k (hsh.trans hk) v H5 (Same.trans s02 s5) dv⟩
end
end Fp
/-! M2: what is parsed is small; the atoms of a kind -/
namespace Fp
open PySem TL
mutual
def plL : Kd → List Str
  | .mk as a => plLs as ++ [a]
def plLs : List Kd → List Str
  | [] => []
  | k :: ks => plL k ++ plLs ks
end
theorem plL_mk (as : List Kd) (a : Str) : plL (.mk as a) = plLs as ++ [a] := by rw [plL]
theorem plL_args (k : Kd) : plL k = plLs k.args ++ [k.atom] := by obtain ⟨as, a⟩ := k; exact plL_mk as a
theorem plLs_nil : plLs [] = [] := by rw [plLs]
theorem plLs_cons (k : Kd) (ks : List Kd) : plLs (k :: ks) = plL k ++ plLs ks := by rw [plLs]
mutual
theorem plL_len : ∀ k : Kd, (plL k).length = plc k
  | .mk as a => by rw [plL, plc, List.length_append, plLs_len as]; rfl
theorem plLs_len : ∀ ks : List Kd, (plLs ks).length = plcs ks
  | [] => by rw [plLs, plcs]; rfl
  | k :: ks => by rw [plLs, plcs, List.length_append, plL_len k, plLs_len ks]
end
theorem plLs_append : ∀ as bs : List Kd, plLs (as ++ bs) = plLs as ++ plLs bs
  | [], bs => by rw [plLs_nil]; rfl
  | k :: ks, bs => by rw [List.cons_append, plLs_cons, plLs_cons, plLs_append ks bs, List.append_assoc]
theorem plcs_append : ∀ as bs : List Kd, plcs (as ++ bs) = plcs as + plcs bs
  | [], bs => by rw [plcs_nil]; simp
  | k :: ks, bs => by rw [List.cons_append, plcs_cons, plcs_cons, plcs_append ks bs]; omega
theorem ordKs_le {n : Nat} : ∀ {ks : List Kd}, (∀ k ∈ ks, ordK k + 1 ≤ n) → ordKs ks ≤ n
  | [], _ => by rw [ordKs_nil]; omega
  | k :: ks, h => by
    have h1 := h k (by simp)
    have h2 := ordKs_le (ks := ks) fun j hj => h j (by simp [hj])
    rw [ordKs_cons]
    omega
theorem ordKs_max {ks : List Kd} {m : Nat} (hm : ∃ k ∈ ks, ordK k = m) (hx : ∀ k ∈ ks, ordK k ≤ m) : ordKs ks = m + 1 := by
  obtain ⟨k, hk, e⟩ := hm
  have h1 := ordKs_mem hk
  have h2 : ordKs ks ≤ m + 1 := ordKs_le fun j hj => by have := hx j hj; omega
  omega
theorem wdss_all : ∀ {ks : List Kd}, (∀ k ∈ ks, wds k = true) → wdss ks = true
  | [], _ => by rw [wdss_nil]
  | k :: ks, h => by rw [wdss_cons, h k (by simp), wdss_all (ks := ks) fun j hj => h j (by simp [hj])]; rfl
/-! ### the reader's depth -/
def rowW (d : Nat) (row : List Kd) : Prop := ∀ k ∈ row, wds k = true ∧ ordK k + d ≤ 4
def stkW : List (List Kd) → Prop
  | [] => True
  | r :: st => rowW st.length r ∧ stkW st
def RdW (s : RdS) : Prop := s.stk.length ≤ 4 ∧ rowW s.stk.length s.cur ∧ stkW s.stk
theorem rowW_snoc {d : Nat} {row : List Kd} {k : Kd} (h : rowW d row) (h1 : wds k = true) (h2 : ordK k + d ≤ 4) : rowW d (row ++ [k]) := fun j hj => by
  rcases List.mem_append.mp hj with hj | hj
  · exact h j hj
  · rw [List.mem_singleton.mp hj]; exact ⟨h1, h2⟩
theorem closeW {d : Nat} {cur : List Kd} {k : Kd} (h : rowW d cur) (hd : d ≤ 4) (e : closeRow cur = some k) : wds k = true ∧ ordK k + d ≤ 5 ∧ ∃ j, cur = k.args ++ [j] ∧ j.args = [] ∧ j.atom = k.atom := by
  unfold closeRow at e
  cases ea : lastAtom cur with
  | none => rw [ea] at e; cases e
  | some a =>
    rw [ea] at e
    cases e
    obtain ⟨h1, h2⟩ := lastAtom_some ea
    have ha : a ∈ cur := by rw [h2]; simp
    have hw := h a ha
    have hr : ∀ j ∈ cur.dropLast, wds j = true ∧ ordK j + d ≤ 4 := fun j hj => h j (List.dropLast_subset _ hj)
    refine ⟨?_, ?_, a, ?_, h1, rfl⟩
    · rw [wds_mk, (wds_args hw.1).1, wdss_all fun j hj => (hr j hj).1]
      rfl
    · rw [ordK_mk]
      have := ordKs_le (n := 5 - d) (ks := cur.dropLast) fun j hj => by have := (hr j hj).2; omega
      omega
    · exact h2
theorem rstep_W {s s' : RdS} {t : List Nat} (hw : RdW s) (h : rstep s t = some s') : RdW s' := by
  obtain ⟨stk, cur, wants⟩ := s
  obtain ⟨h1, h2, h3⟩ := hw
  unfold rstep at h
  split at h
  · split at h
    · rename_i c
      cases h
      dsimp only at c h1 h2 h3
      exact ⟨by show (cur :: stk).length ≤ 4; rw [List.length_cons]; omega, (fun k hk => by cases hk), h2, h3⟩
    · cases h
  · split at h
    · split at h
      · cases h
      · cases h
        exact ⟨h1, h2, h3⟩
    · split at h
      · split at h
        · cases h
        · cases stk with
          | nil => cases h
          | cons r stk =>
            dsimp only at h h1 h2 h3
            split at h
            · cases h
            · split at h
              · rename_i k ek
                cases h
                rw [List.length_cons] at h1 h2
                obtain ⟨w1, w2, _⟩ := closeW h2 h1 ek
                exact ⟨by show stk.length ≤ 4; omega, rowW_snoc h3.1 w1 (by show ordK k + stk.length ≤ 4; omega), h3.2⟩
              · cases h
      · split at h
        · rename_i c
          cases h
          refine ⟨h1, rowW_snoc h2 ?_ ?_, h3⟩
          · rw [wds_mk, wdss_nil, Bool.and_true]
            exact c.2
          · dsimp only at h1 ⊢
            rw [ordK_mk, ordKs_nil]
            omega
        · cases h
theorem rrun_W : ∀ {ts : List (List Nat)} {s s' : RdS}, RdW s → rrun s ts = some s' → RdW s'
  | [], s, s', ok, h => by cases h; exact ok
  | t :: ts, s, s', ok, h => by
    unfold rrun at h
    cases e : rstep s t with
    | none => rw [e] at h; cases h
    | some s1 =>
      rw [e] at h
      exact rrun_W (rstep_W ok e) h
/-- a shape is small -/
theorem shape_small {l : List Nat} {k : Kd} (h : shape l = some k) : wds k = true ∧ plc k ≤ 15 ∧ ordK k ≤ 5 := by
  unfold shape at h
  cases e : toks l with
  | none => rw [e] at h; cases h
  | some ts =>
    rw [e] at h
    dsimp only at h
    split at h
    · cases h
    · rename_i c15
      cases er : rrun rd0 ts with
      | none => rw [er] at h; cases h
      | some s =>
        rw [er] at h
        dsimp only at h
        obtain ⟨ok, p⟩ := rrun_pr (s := rd0) (fun z => by cases z) er
        have hW := rrun_W (s := rd0) ⟨by show 0 ≤ 4; decide, (fun k hk => by cases hk), True.intro⟩ er
        have p0 : prS rd0 = [] := by unfold prS rd0; simp [tkArgs_nil]
        rw [p0, List.nil_append] at p
        unfold rres at h
        split at h
        · cases h
        · rename_i c
          obtain ⟨stk, cur, wants⟩ := s
          have hw : wants = false := by
            cases wants
            · rfl
            · exact absurd (.inl rfl) c
          have hs : stk = [] := by
            cases stk with
            | nil => rfl
            | cons a b => exact absurd (.inr (by simp)) c
          subst hw hs
          obtain ⟨w1, w2, j, e1, e2, e3⟩ := closeW (d := 0) hW.2.1 (by omega) h
          refine ⟨w1, ?_, by omega⟩
          have hts : ts = tk k := by
            rw [← p]
            unfold prS
            rw [if_neg (by simp)]
            dsimp only at e1 ⊢
            rw [e1, drop_args, tkA_at e2, e3]
            obtain ⟨as, a⟩ := k
            rw [tk_mk]
            simp [Kd.args, Kd.atom]
          rw [hts, count_tk k w1] at c15
          omega
theorem parse_small {x : Str} {k : Kd} (h : parse x = some k) : wds k = true ∧ plc k ≤ 15 ∧ ordK k ≤ 4 := by
  unfold parse at h
  cases e : shape (tl x) with
  | none => rw [e] at h; cases h
  | some j =>
    rw [e] at h
    dsimp only at h
    obtain ⟨h1, h2, h3⟩ := shape_small e
    split at h
    · cases h
      exact ⟨h1, h2, by assumption⟩
    · cases h
end Fp
/-! M3: lengths of texts -/
namespace Fp
open PySem TL
mutual
theorem tkA_len : ∀ k : Kd, wds k = true → (tkA k).flatten.length + 4 ≤ 14 * plc k
  | .mk [] a, h => by
    rw [wds_mk, Bool.and_eq_true] at h
    have := (wordT_of h.1)
    have h8 : (tl a).length ≤ 8 := by
      have := h.1
      unfold isWord wordB at this
      simp only [Bool.and_eq_true, decide_eq_true_eq] at this
      omega
    rw [tkA_nil, plc_mk, plcs_nil]
    simp only [List.flatten_cons, List.flatten_nil, List.append_nil]
    omega
  | .mk (k :: ks) a, h => by
    rw [wds_mk, Bool.and_eq_true] at h
    have h8 : (tl a).length ≤ 8 := by
      have := h.1
      unfold isWord wordB at this
      simp only [Bool.and_eq_true, decide_eq_true_eq] at this
      omega
    have hp : 1 ≤ plcs (k :: ks) := by have := plcs_length (k :: ks); rw [List.length_cons] at this; omega
    have := tkArgs_len (k :: ks) h.2
    rw [tkA_cons, tk_mk, plc_mk]
    simp only [List.flatten_cons, List.flatten_append, List.length_append, List.flatten_nil, List.length_nil, List.length_cons]
    omega
theorem tkArgs_len : ∀ ks : List Kd, wdss ks = true → (tkArgs ks).flatten.length ≤ 14 * plcs ks
  | [], _ => by rw [tkArgs_nil]; simp
  | k :: ks, h => by
    rw [wdss_cons, Bool.and_eq_true] at h
    have h1 := tkA_len k h.1
    have h2 := tkArgs_len ks h.2
    rw [tkArgs_cons, plcs_cons]
    simp only [List.flatten_cons, List.flatten_append, List.length_append, List.flatten_nil, List.length_nil]
    have : Arr.length = 4 := rfl
    omega
end
theorem txt_len {k : Kd} (h : wds k = true) : (txt k).length ≤ 14 * plc k := by
  obtain ⟨as, a⟩ := k
  rw [len_tl, tl_txt, txtL, tk_mk, plc_mk]
  rw [wds_mk, Bool.and_eq_true] at h
  have h8 : (tl a).length ≤ 8 := by
    have := h.1
    unfold isWord wordB at this
    simp only [Bool.and_eq_true, decide_eq_true_eq] at this
    omega
  have := tkArgs_len as h.2
  simp only [List.flatten_cons, List.flatten_append, List.length_append, List.flatten_nil, List.length_nil]
  omega
theorem txtA_len {k : Kd} (h : wds k = true) : (txtA k).length ≤ 14 * plc k := by
  rw [len_tl, tl_txtA]
  have := tkA_len k h
  omega
end Fp
/-! W8: the class Type -/
namespace Fp
open PySem PySem.Spec PyProof.Rows L2 TL
/-- instances and tuples -/
def isIT : HO → Bool
  | .ins _ _ _ => true
  | .tup _ => true
  | .frz _ (.tup _) => true
  | _ => false
/-- instances and tuples stay -/
def SameL (H H' : Hp) : Prop := ∀ b o, isIT o = true → H b = some o → H' b = some o
theorem sL {H H' : Hp} (s : Same H H') : SameL H H' := fun b o _ e => s b o e
theorem SameL.refl (H : Hp) : SameL H H := fun _ _ _ e => e
theorem SameL.trans {H H1 H2 : Hp} (a : SameL H H1) (b : SameL H1 H2) : SameL H H2 := fun c o n h => b c o n (a c o n h)
theorem sameL_upd {H : Hp} {a : Addr} {o u : HO} (h : H a = some u) (n : isIT u = false) : SameL H (upd H a o) := fun b v m e => by
  rw [upd_ne (fun z => by rw [z, h] at e; rw [← Option.some.inj e, n] at m; cases m)]
  exact e
theorem sameL_new {H : Hp} {a : Addr} {o : HO} (h : H a = none) : SameL H (upd H a o) := sL (same_new h)
theorem SameB.sL {D : Addr} {H H' : Hp} {u : HO} (s : SameB D H H') (h : H D = some u) (n : isIT u = false) : SameL H H' := fun b o m e => s b o (fun z => by rw [z, h] at e; rw [← Option.some.inj e, n] at m; cases m) e
theorem SqT.sameL {K : PySem.W.Frag} {H H' : Hp} {a : Addr} {xs : List V} (e : SameL H H') (h : SqT K H a xs) : SqT K H' a xs :=
  h.elim (fun h => .inl (h.elim (fun h => .inl (e _ _ rfl h)) fun ⟨o, h⟩ => .inr ⟨o, e _ _ rfl h⟩)) fun h => .inr h
mutual
theorem Dp.sameL {K : PySem.W.Frag} {H H' : Hp} (e : SameL H H') : ∀ {d : PyData} {v : V}, noL d = true → Dp K H v d → Dp K H' v d
  | .none, _, _, .non => .non
  | .bool b, _, _, .bl _ => .bl b
  | .int i, _, _, .int _ => .int i
  | .str x, _, _, .str _ => .str x
  | .list ds, _, n, .lst h t => by simp [noL] at n
  | .tuple ds, _, n, .tup h t => .tup (SqT.sameL e h) (DpAll.sameL e (by rw [noL] at n; exact n) t)
theorem DpAll.sameL {K : PySem.W.Frag} {H H' : Hp} (e : SameL H H') : ∀ {ds : List PyData} {vs : List V}, noLs ds = true → DpAll K H vs ds → DpAll K H' vs ds
  | [], _, _, .nil => .nil
  | _ :: _, _, n, .cons h t => by
    rw [noLs, Bool.and_eq_true] at n
    exact .cons (Dp.sameL e n.1 h) (DpAll.sameL e n.2 t)
end
/-! ### the attributes of a kind -/
def tyF (b : Addr) (x : Str) (q : Addr) (k : Kd) : List (Str × V) := [("own_args", .ref b), ("own_atom", .str x), ("own_places", .ref q), ("own_order", .int (ordK k)), ("own_text", .str (txt k))]
mutual
inductive TyO (K : PySem.W.Frag) (CT : Addr) (H : Hp) : V → Kd → Prop
  | mk {a dx b q : Addr} {us : List V} {as : List Kd} {x : Str} (h : H a = some (.ins CT dx (tyF b x q (.mk as x)))) (ha : SqT K H b us) (t : TyOs K CT H us as) (hp : SqT K H q ((plL (.mk as x)).map V.str)) : TyO K CT H (.ref a) (.mk as x)
inductive TyOs (K : PySem.W.Frag) (CT : Addr) (H : Hp) : List V → List Kd → Prop
  | nil : TyOs K CT H [] []
  | cons {v : V} {k : Kd} {vs : List V} {ks : List Kd} (h : TyO K CT H v k) (t : TyOs K CT H vs ks) : TyOs K CT H (v :: vs) (k :: ks)
end
mutual
theorem TyO.sameL {K : PySem.W.Frag} {CT : Addr} {H H' : Hp} (e : SameL H H') : ∀ {v : V} {k : Kd}, TyO K CT H v k → TyO K CT H' v k
  | _, _, .mk h ha t hp => .mk (e _ _ rfl h) (SqT.sameL e ha) (TyOs.sameL e t) (SqT.sameL e hp)
theorem TyOs.sameL {K : PySem.W.Frag} {CT : Addr} {H H' : Hp} (e : SameL H H') : ∀ {vs : List V} {ks : List Kd}, TyOs K CT H vs ks → TyOs K CT H' vs ks
  | _, _, .nil => .nil
  | _, _, .cons h t => .cons (TyO.sameL e h) (TyOs.sameL e t)
end
theorem TyO.same {K : PySem.W.Frag} {CT : Addr} {H H' : Hp} (e : Same H H') {v : V} {k : Kd} (h : TyO K CT H v k) : TyO K CT H' v k := h.sameL (sL e)
theorem TyOs.same {K : PySem.W.Frag} {CT : Addr} {H H' : Hp} (e : Same H H') {vs : List V} {ks : List Kd} (h : TyOs K CT H vs ks) : TyOs K CT H' vs ks := h.sameL (sL e)
theorem TyOs.length {K : PySem.W.Frag} {CT : Addr} {H : Hp} : ∀ {vs : List V} {ks : List Kd}, TyOs K CT H vs ks → vs.length = ks.length
  | _, _, .nil => rfl
  | _, _, .cons h t => by rw [List.length_cons, List.length_cons, t.length]
theorem TyOs.get {K : PySem.W.Frag} {CT : Addr} {H : Hp} : ∀ {vs : List V} {ks : List Kd} {i : Nat} {v : V}, TyOs K CT H vs ks → vs[i]? = some v → ∃ k, ks[i]? = some k ∧ TyO K CT H v k
  | _, _, 0, v, .cons h t, e => by
    have e' := Option.some.inj e
    subst e'
    exact ⟨_, rfl, h⟩
  | _, _, i + 1, v, .cons h t, e => t.get (i := i) e
theorem TyOs.snoc {K : PySem.W.Frag} {CT : Addr} {H : Hp} : ∀ {vs : List V} {ks : List Kd} {v : V} {k : Kd}, TyOs K CT H vs ks → TyO K CT H v k → TyOs K CT H (vs ++ [v]) (ks ++ [k])
  | _, _, _, _, .nil, h => .cons h .nil
  | _, _, _, _, .cons h t, h2 => .cons h (t.snoc h2)
theorem TyO.un {K : PySem.W.Frag} {CT : Addr} {H : Hp} {v : V} {k : Kd} (h : TyO K CT H v k) : ∃ a dx b q us, v = .ref a ∧ H a = some (.ins CT dx (tyF b k.atom q k)) ∧ SqT K H b us ∧ TyOs K CT H us k.args ∧ SqT K H q ((plL k).map V.str) := by
  cases h with
  | mk h ha t hp => exact ⟨_, _, _, _, _, rfl, h, ha, t, hp⟩
theorem tyF_args (b : Addr) (x : Str) (q : Addr) (k : Kd) : (tyF b x q k).lookup ("own_args" : Str) = some (.ref b) := by
  unfold tyF; rw [lk_eq]
theorem tyF_atom (b : Addr) (x : Str) (q : Addr) (k : Kd) : (tyF b x q k).lookup ("own_atom" : Str) = some (.str x) := by
  unfold tyF; rw [lk_ne _ _ (by decide +kernel), lk_eq]
theorem tyF_places (b : Addr) (x : Str) (q : Addr) (k : Kd) : (tyF b x q k).lookup ("own_places" : Str) = some (.ref q) := by
  unfold tyF; rw [lk_ne _ _ (by decide +kernel), lk_ne _ _ (by decide +kernel), lk_eq]
theorem tyF_order (b : Addr) (x : Str) (q : Addr) (k : Kd) : (tyF b x q k).lookup ("own_order" : Str) = some (.int (ordK k)) := by
  unfold tyF; rw [lk_ne _ _ (by decide +kernel), lk_ne _ _ (by decide +kernel), lk_ne _ _ (by decide +kernel), lk_eq]
theorem tyF_text (b : Addr) (x : Str) (q : Addr) (k : Kd) : (tyF b x q k).lookup ("own_text" : Str) = some (.str (txt k)) := by
  unfold tyF; rw [lk_ne _ _ (by decide +kernel), lk_ne _ _ (by decide +kernel), lk_ne _ _ (by decide +kernel), lk_ne _ _ (by decide +kernel), lk_eq]
/-- what the class is -/
structure Tyf (K : PySem.W.Frag) (mg : Str → Option Value) (C : Addr) : Prop where
  cl : L2.Cls K C
  args : NoAttr K C "own_args"
  atom : NoAttr K C "own_atom"
  places : NoAttr K C "own_places"
  order : NoAttr K C "own_order"
  text : NoAttr K C "own_text"
  insC : C8.InsC K C
  g : Gv mg "Type" (.ref C)
section
variable {P : Program} {w : World} {K : PySem.W.Frag} {mg : Str → Option Value} {base : Heap}
theorem tl_app (x y : Str) : tl (x ++ y) = tl x ++ tl y := by
  show (x.cps ++ y.cps).toList = _
  simp [tl]
theorem len_app (x y : Str) : (x ++ y).length = x.length + y.length := by rw [len_tl, tl_app, List.length_append, ← len_tl, ← len_tl]
/-! ### order_of -/
abbrev s_order_of : Stmt := top 28
abbrev N_order_of : List Str := ["inputs", "one"]
theorem sc_order_of : FnScope N_order_of ["inputs"] (defScope s_order_of) := ⟨rfl, rfl, rfl, by decide +kernel, rfl, by decide +kernel, by decide +kernel⟩
def sp_order_of (K : PySem.W.Frag) (CT : Addr) : Sp := fun vs H Q _ => ∃ b us as, vs = [.ref b] ∧ SqT K H b us ∧ TyOs K CT H us as ∧ as.length ≤ 1000000 ∧ ∀ H', Same H H' → Q (.int (ordKs as)) H'
theorem ok_order_of {CT f : Addr} {fd : FuncData} (F : Fun K "order_of" "order_of" s_order_of f fd) (N : Nm mg) (T : Tyf K mg CT) : FnOk P w K mg base CX0 1 f fd ["inputs"] (sp_order_of K CT) := by
  refine F.ok sc_order_of (fun vs H Q E h => ?_) (fun cdv A outer s H vs Q E hr h => ?_)
  · obtain ⟨b, us, as, rfl, _⟩ := h
    rfl
  · obtain ⟨b, us, as, rfl, hb, ht, hl, k⟩ := h
    refine ⟨_, (pss_one (ps_ret (pe_ifExp (pt_cmpR (op_neNil hr.units0) (pv 0) (pe_tup pa_nil) (nomark _)) (pe_op op_add pe_int (pe_callB (cr_max rfl) (by rfl) N.max (by decide +kernel) (pa_cons (pe_lc (own := [("one", 1)]) (g := gName 1) (tt := tYes) (te := tFld K (tVar 1) "own_order") rfl sc_order_of.nd (pi_tup (pv 0)) (blkOk_by (N := N_order_of) (sc := defScope s_order_of) (by decide +kernel)) (fun _ _ _ _ _ => pg_name (i := 1) sc_order_of.nd rfl (Or.inl rfl)) (fun _ _ _ _ _ => pts_nil) (fun _ _ _ _ _ => (pe_fld (pv 1) rfl))) pa_nil))) pe_int))), ?_⟩
    have hlen := ht.length
    refine ⟨_, rfl, Nat.zero_le _, fun t ht0 => ⟨b, t, us, rfl, rfl, .inr ⟨SqT.same (same_new ht0) hb, SqT.of upd_same⟩, _, rfl, ?_⟩⟩
    have s1 := same_new (o := .tup []) ht0
    generalize (upd H t (.tup [])) = H1 at *
    cases as with
    | nil =>
      have : us = [] := by cases ht; rfl
      subst this
      refine iteF ?_
      rw [ordKs_nil] at k
      exact k _ s1
    | cons j as =>
      obtain ⟨u, us, rfl⟩ : ∃ u us', us = u :: us' := by cases ht; exact ⟨_, _, rfl⟩
      refine iteT ⟨_, rfl, b, rfl, ⟨_, SqT.same s1 hb⟩, fun D hD => ?_⟩
      refine lc_each walk_tup hD (by omega) (fun H2 s2 => SqT.same s2 (SqT.same s1 hb)) (fun i y _ => ∃ k, (j :: as)[i]? = some k ∧ y = .int (ordK k)) (fun i y H2 H3 l _ _ r => r) (fun i z H2 H3 hi s2 hl2 y Qy hy => ?_) (fun H2 acc s2 hacc hla hr2 => ?_)
      · obtain ⟨rfl, hz⟩ := y
        obtain ⟨k1, hk1, ty⟩ := ht.get hz
        obtain ⟨a, dx, b1, q1, us1, rfl, ha, _⟩ := (ty.same (Same.trans s1 s2)).un
        exact ⟨rfl, _, rfl, a, CT, dx, _, _, rfl, ha, T.cl, T.order, tyF_order _ _ _ _, hy _ _ (Same.refl _) ⟨k1, hk1, rfl⟩⟩
      · have e : acc = ((j :: as).map fun k => (ordK k : Int)).map V.int := by
          rw [List.map_map]
          exact eq_map_of (by rw [hla, hlen]) fun i y e => by
            obtain ⟨k1, h1, h2⟩ := hr2 i y e
            exact ⟨k1, h1, h2⟩
        refine ⟨D, _, rfl, SqL.of (by rw [hacc, e]), by simp, fun m hm hmax => ⟨_, _, rfl, rfl, ?_⟩⟩
        obtain ⟨k1, hk1, rfl⟩ := List.mem_map.mp hm
        have e2 : ordKs (j :: as) = ordK k1 + 1 := ordKs_max ⟨k1, hk1, rfl⟩ fun k2 hk2 => by
          have := hmax _ (List.mem_map.mpr ⟨k2, hk2, rfl⟩)
          omega
        have e3 : (1 : Int) + (ordK k1 : Int) = ((ordKs (j :: as) : Nat) : Int) := by rw [e2]; omega
        rw [← e3] at k
        exact k _ (Same.trans s1 s2)
/-! ### input_text -/
abbrev s_input_text : Stmt := top 29
abbrev N_input_text : List Str := ["wanted"]
theorem sc_input_text : FnScope N_input_text ["wanted"] (defScope s_input_text) := ⟨rfl, rfl, rfl, by decide +kernel, rfl, by decide +kernel, by decide +kernel⟩
def sp_input_text (K : PySem.W.Frag) (CT : Addr) : Sp := fun vs H Q _ => ∃ v k, vs = [v] ∧ TyO K CT H v k ∧ (txt k).length ≤ 1000000 ∧ ∀ H', Same H H' → Q (.str (txtA k)) H'
theorem ok_input_text {CT f : Addr} {fd : FuncData} (F : Fun K "input_text" "input_text" s_input_text f fd) (N : Nm mg) (T : Tyf K mg CT) : FnOk P w K mg base CX0 1 f fd ["wanted"] (sp_input_text K CT) := by
  refine F.ok sc_input_text (fun vs H Q E h => ?_) (fun cdv A outer s H vs Q E hr h => ?_)
  · obtain ⟨v, k, rfl, _⟩ := h
    rfl
  · obtain ⟨v, k, rfl, ty, hl, kk⟩ := h
    refine ⟨_, (pss_one (ps_ret (pe_ifExp (pt_cmpR (op_eqNil hr.units0) (pe_fld (pv 0) rfl) (pe_tup pa_nil) (nomark _)) (pe_fld (pv 0) rfl) (pe_joined (.cons pe_str (.cons (pe_fmt (pe_fld (pv 0) rfl)) (.cons pe_str .nil))))))), ?_⟩
    obtain ⟨a, dx, b, q, us, rfl, ha, hb, hus, hq⟩ := ty.un
    refine ⟨_, rfl, a, CT, dx, _, _, rfl, ha, T.cl, T.args, tyF_args _ _ _ _, Nat.zero_le _, fun t ht0 => ⟨b, t, us, rfl, rfl, .inr ⟨SqT.same (same_new ht0) hb, SqT.of upd_same⟩, _, rfl, ?_⟩⟩
    have s1 := same_new (o := .tup []) ht0
    generalize (upd H t (.tup [])) = H1 at *
    have hlen := hus.length
    have he : us.isEmpty = k.args.isEmpty := by
      cases us <;> cases hk : k.args <;> rw [hk] at hlen <;> simp at hlen ⊢
    rw [he]
    cases hk : k.args.isEmpty with
    | true =>
      rw [txtA_at (List.isEmpty_iff.mp hk)] at kk
      exact iteT ⟨_, rfl, a, CT, dx, _, _, rfl, s1 _ _ ha, T.cl, T.text, tyF_text _ _ _ _, kk _ s1⟩
    | false =>
      refine iteF ?_
      have e : txtA k = S ([40] ++ txtL k ++ [41]) := ext_tl (txtA_ne (by intro z; rw [z] at hk; cases hk))
      rw [e] at kk
      have e2 : Str.empty ++ Str.ofString "(" ++ txt k ++ Str.ofString ")" = S ([40] ++ txtL k ++ [41]) := by
        refine ext_tl ?_
        rw [tl_app, tl_app, tl_app, opn_eq, clo_eq]
        rfl
      have l1 : (Str.ofString "(").length = 1 := by decide +kernel
      have l2 : (Str.ofString ")").length = 1 := by decide +kernel
      have l0 : Str.empty.length = 0 := by decide +kernel
      refine ⟨_, rfl, szl (by rw [len_app, l0, l1]; decide), _, rfl, a, CT, dx, _, _, rfl, s1 _ _ ha, T.cl, T.text, tyF_text _ _ _ _, .inl ⟨_, rfl, szl (by omega), _, rfl, szl (by rw [len_app, len_app, l0, l1]; omega), _, rfl, szl (by rw [len_app, len_app, len_app, l0, l1, l2]; omega), ?_⟩⟩
      rw [e2]
      exact kk _ s1
end
end Fp
/-! W9: Type.__init__ -/
namespace Fp
open PySem PySem.Spec PyProof.Rows L2 TL
/-- an error class of the text, over ValueError -/
structure ErrF (K : PySem.W.Frag) (mg : Str → Option Value) (x : Str) (C : Addr) : Prop where
  g : mg x = some (.ref C)
  x : PySem.W.excIn K C [.type "ValueError", .type "Exception", .type "BaseException", .type "object"] "ValueError.__new__" = true
  k : PySem.W.keepIn K (.ref C) = true
  b : PySem.W.subIn K (.ref C) (.type "BaseException") = some true
  t : PySem.W.typeIn K (.ref C) = some (.type "type")
  own : PySem.W.exmOne K (.ref C) (.ref C) = some true
theorem tyX_tup {K : PySem.W.Frag} {H : Hp} {a : Addr} {xs : List V} (h : SqT K H a xs) : TyX K H (.ref a) (.type "tuple") := by
  rcases h with (h | ⟨o, h⟩) | h
  · exact .base (.tup h)
  · exact .fTuple h
  · obtain ⟨o, its, n, e, c, _⟩ := h
    exact .kTuple e c
theorem sum_txtA : ∀ {as : List Kd}, wdss as = true → ((as.map txtA).map (·.length)).sum ≤ 14 * plcs as
  | [], _ => by simp
  | k :: ks, h => by
    rw [wdss_cons, Bool.and_eq_true] at h
    have h1 := txtA_len h.1
    have h2 := sum_txtA h.2
    rw [plcs_cons]
    simp only [List.map_cons, List.sum_cons] at h2 ⊢
    omega
theorem ty_put (b q : Addr) (x : Str) (n : Int) (t : V) : putF "own_text" t (putF "own_order" (V.int n) (putF "own_places" (V.ref q) (putF "own_atom" (V.str x) (putF "own_args" (V.ref b) [])))) = ([("own_args", V.ref b), ("own_atom", V.str x), ("own_places", V.ref q), ("own_order", V.int n), ("own_text", t)] : List (Str × V)) := by
  rw [putF_nil, putF_ne (f := "own_atom") _ _ _ (by decide +kernel), putF_nil, putF_ne (f := "own_places") _ _ _ (by decide +kernel), putF_ne (f := "own_places") _ _ _ (by decide +kernel), putF_nil,
    putF_ne (f := "own_order") _ _ _ (by decide +kernel), putF_ne (f := "own_order") _ _ _ (by decide +kernel), putF_ne (f := "own_order") _ _ _ (by decide +kernel), putF_nil,
    putF_ne (f := "own_text") _ _ _ (by decide +kernel), putF_ne (f := "own_text") _ _ _ (by decide +kernel), putF_ne (f := "own_text") _ _ _ (by decide +kernel), putF_ne (f := "own_text") _ _ _ (by decide +kernel), putF_nil]
theorem ty_put4 (b q : Addr) (x : Str) (n : Int) : putF "own_order" (V.int n) (putF "own_places" (V.ref q) (putF "own_atom" (V.str x) (putF "own_args" (V.ref b) []))) = ([("own_args", V.ref b), ("own_atom", V.str x), ("own_places", V.ref q), ("own_order", V.int n)] : List (Str × V)) := by
  rw [putF_nil, putF_ne (f := "own_atom") _ _ _ (by decide +kernel), putF_nil, putF_ne (f := "own_places") _ _ _ (by decide +kernel), putF_ne (f := "own_places") _ _ _ (by decide +kernel), putF_nil,
    putF_ne (f := "own_order") _ _ _ (by decide +kernel), putF_ne (f := "own_order") _ _ _ (by decide +kernel), putF_ne (f := "own_order") _ _ _ (by decide +kernel), putF_nil]
section
variable {P : Program} {w : World} {K : PySem.W.Frag} {mg : Str → Option Value} {base : Heap}
abbrev s_Type_init : Stmt := inClass (top 30) 0
abbrev N_Type_init : List Str := ["self", "inputs", "atom", "one", "place"]
theorem sc_Type_init : FnScope N_Type_init ["self", "inputs", "atom"] (defScope s_Type_init) := ⟨rfl, rfl, rfl, by decide +kernel, rfl, by decide +kernel, by decide +kernel⟩
/-- a kind that is not too large -/
def KdFits (k : Kd) : Prop := plc k ≤ 15 ∧ ordK k ≤ 4
def sp_Type_init (K : PySem.W.Frag) (CT CI : Addr) : Sp := fun vs H Q E => ∃ (H0 : Hp) (o dx b : Addr) (us : List V) (as : List Kd) (x : Str), vs = [.ref o, .ref b, .str x] ∧ Same H0 H ∧ H0 o = none ∧ H o = some (.ins CT dx []) ∧ SqT K H0 b us ∧ TyOs K CT H0 us as ∧
  wds (.mk as x) = true ∧ plc (.mk as x) ≤ 1000 ∧ (KdFits (.mk as x) → ∀ H', Same H0 H' → TyO K CT H' (.ref o) (.mk as x) → Q .non H') ∧ (¬ KdFits (.mk as x) → ∀ H', Same H0 H' → E (.ref CI) none H')
theorem ok_Type_init {CT CI f : Addr} {fd : FuncData} (F : Fun K "__init__" "Type.__init__" s_Type_init f fd) (N : Nm mg) (T : Tyf K mg CT) (VI : ErrF K mg "InvalidType" CI) (c_is_word : Cal P w K mg base CX0 1 "is_word" sp_is_word)
    (c_order_of : Cal P w K mg base CX0 1 "order_of" (sp_order_of K CT)) (c_input_text : Cal P w K mg base CX0 1 "input_text" (sp_input_text K CT)) : FnOk P w K mg base (L2.CX P w) 2 f fd ["self", "inputs", "atom"] (sp_Type_init K CT CI) := by
  refine F.okX sc_Type_init (fun vs H Q E h => ?_) (fun cdv A outer s H vs Q E hr h => ?_)
  · obtain ⟨H0, o, dx, b, us, as, x, rfl, _⟩ := h
    rfl
  · obtain ⟨H0, o, dx, b, us, as, x, rfl, s0, n0, ho, hb, hus, hw, hp, kQ, kE⟩ := h
    refine ⟨_, (pss_cons (ps_if (PW.pt (pw_or (pt_not (pt_val (pe_callB call_isi (by rfl) N.isi (by decide +kernel) (pa_cons (pv 1) (pa_cons (pe_bltn (v := .ty "tuple") (by rfl) N.tuple (by decide +kernel) rfl) pa_nil))))) (pw_or1 (pt_not (pt_val (pe_callB (cr_all rfl) (by rfl) N.all (by decide +kernel) (pa_cons (pe_lc (own := [("one", 3)]) (g := gName 3) (tt := tYes) (te := tCB (fun xs H Q => ∃ a dx fs, xs = [.ref a, .ref CT] ∧ H a = some (.ins CT dx fs) ∧ Q (.bl true) H) (tCons (tVar 3) (tCons (tC (.ref CT)) tNil))) rfl sc_Type_init.nd (pi_tup (pv 1)) (blkOk_by (N := N_Type_init) (sc := defScope s_Type_init) (by decide +kernel)) (fun _ _ _ _ _ => pg_name (i := 3) sc_Type_init.nd rfl (Or.inl rfl)) (fun _ _ _ _ _ => pts_nil) (fun _ _ _ _ _ => (pe_callB (C8.call_isC T.insC) (by rfl) N.isi (by decide +kernel) (pa_cons (pv 3) (pa_cons (pe_gv T.g) pa_nil))))) pa_nil))))))) pss_never pss_nil)
      (pss_cons (ps_if (pt_not (pt_val (pe_c c_is_word hr (ha := (pa_cons (pv 2) pa_nil))))) pss_never pss_nil)
      (pss_cons (ps_fld (pv 0) (pv 1) rfl)
      (pss_cons (ps_fld (pv 0) (pv 2) rfl)
      (pss_cons (ps_fld (pv 0) (pe_tup (StX.pa_star (pe_lc2 (own := [("one", 3), ("place", 4)]) (vs1 := [4]) (g := gName 3) (g1 := gName 4) (tt := tYes) (tt1 := tYes) (wi1 := iTup K (tFld K (tVar 3) "own_places")) rfl sc_Type_init.nd (pi_tup (pv 1)) (blkOk_by (N := N_Type_init) (sc := defScope s_Type_init) (by decide +kernel)) (by decide) (fun _ _ _ _ _ => pg_name (i := 3) sc_Type_init.nd rfl (Or.inl rfl)) (fun _ _ _ _ _ => pts_nil) (fun _ _ _ _ _ => pi_tup (pe_fld (pv 3) rfl)) (fun _ _ _ _ _ => pg_name (i := 4) sc_Type_init.nd rfl (Or.inl rfl)) (fun _ _ _ _ _ => pts_nil) (fun _ _ _ _ _ => pv 4)) (pa_cons (pv 2) pa_nil))) rfl)
      (pss_cons (ps_fld (pv 0) (pe_c c_order_of hr (ha := (pa_cons (pv 1) pa_nil))) rfl)
      (pss_cons (ps_if (PW.pt (pw_or (pt_cmpR op_gt (pe_callB call_len_seq (by rfl) N.len (by decide +kernel) (pa_cons (pe_fld (pv 0) rfl) pa_nil)) (pe_gv N.MAX_PLACES) (nomark _)) (pw_or1 (pt_cmpR op_gt (pe_fld (pv 0) rfl) (pe_gv N.MAX_ORDER) (nomark _))))) (pss_one (ps_raise rfl (takes_of rfl rfl rfl rfl) (pmk_own PySem.F.excBase_ValueError VI.x VI.g VI.k (raises_own VI.b VI.t) rfl))) pss_nil)
      (pss_one (ps_fld (pv 0) (pe_join (pe_gv N.ARROW) (pe_lst (StX.pa_star (pe_lc (own := [("one", 3)]) (g := gName 3) (tt := tYes) rfl sc_Type_init.nd (pi_tup (pv 1)) (blkOk_by (N := N_Type_init) (sc := defScope s_Type_init) (by decide +kernel)) (fun _ _ _ _ _ => pg_name (i := 3) sc_Type_init.nd rfl (Or.inl rfl)) (fun _ _ _ _ _ => pts_nil) (fun _ _ _ _ _ => (pe_c c_input_text hr (ha := (pa_cons (pv 3) pa_nil))))) (pa_cons (pv 2) pa_nil)))) rfl))))))))), ?_⟩
    have hb1 := SqT.same s0 hb
    have hlen := hus.length
    have hpc : plcs as + 1 ≤ 1000 := by rw [plc_mk] at hp; exact hp
    have hal := plcs_length as
    have hww := hw
    rw [wds_mk, Bool.and_eq_true] at hww
    have hx8 : x.length ≤ 8 := by
      have := hww.1
      unfold isWord wordB at this
      simp only [Bool.and_eq_true, decide_eq_true_eq] at this
      rw [len_tl]
      omega
    refine ⟨_, rfl, _, _, _, _, true, rfl, .ty "tuple", tyX_tup hb1, kit_ty (by decide +kernel), _, rfl, iteF ?_⟩
    refine ⟨_, rfl, b, rfl, ⟨_, hb1⟩, fun D hD => ?_⟩
    refine lc_each walk_tup hD (by omega) (fun H2 s2 => SqT.same s2 hb1) (fun i y _ => ∃ k, as[i]? = some k ∧ y = .bl true) (fun i y H2 H3 l _ _ r => r) (fun i z H2 H3 hi s2 hl2 y Qy hy => ?_) (fun H2 acc s2 hacc hla hr2 => ?_)
    · obtain ⟨rfl, hz⟩ := y
      obtain ⟨k1, hk1, ty⟩ := hus.get hz
      obtain ⟨a, dx1, b1, q1, us1, rfl, ha, _⟩ := (ty.same (Same.trans s0 s2)).un
      exact ⟨rfl, _, rfl, a, dx1, _, rfl, ha, hy _ _ (Same.refl _) ⟨k1, hk1, rfl⟩⟩
    have e : acc = (as.map fun _ => true).map V.bl := by
      rw [List.map_map]
      exact eq_map_of (by rw [hla, hlen]) fun i y e => by
        obtain ⟨k1, h1, h2⟩ := hr2 i y e
        exact ⟨k1, h1, h2⟩
    refine ⟨D, _, rfl, SqL.of (by rw [hacc, e]), _, rfl, ?_⟩
    rw [show ((as.map fun _ => true).all id) = true by simp]
    refine iteF ⟨_, rfl, x, rfl, by omega, fun H3 s3 => ⟨_, rfl, ?_⟩⟩
    rw [hww.1]
    have s03 := Same.trans s0 (Same.trans s2 s3)
    have ho3 : H3 o = some (.ins CT dx []) := s3 _ _ (s2 _ _ ho)
    refine iteF ⟨_, rfl, _, rfl, o, CT, dx, _, rfl, ho3, T.cl, T.args, (by show 0 < 1000; decide), ?_⟩
    refine ⟨_, rfl, _, rfl, o, CT, dx, _, rfl, upd_same, T.cl, T.atom, (by show 1 < 1000; decide), ?_⟩
    have s4 := same_put (o := .ins CT dx (putF "own_atom" (V.str x) (putF "own_args" (V.ref b) []))) (same_put (o := .ins CT dx (putF "own_args" (V.ref b) [])) s03 n0) n0
    have ho4 : (upd (upd H3 o (.ins CT dx (putF "own_args" (V.ref b) []))) o (.ins CT dx (putF "own_atom" (V.str x) (putF "own_args" (V.ref b) [])))) o = some (.ins CT dx (putF "own_atom" (V.str x) (putF "own_args" (V.ref b) []))) := upd_same
    generalize (upd (upd H3 o (.ins CT dx (putF "own_args" (V.ref b) []))) o (.ins CT dx (putF "own_atom" (V.str x) (putF "own_args" (V.ref b) [])))) = H4 at *
    refine ⟨_, rfl, b, rfl, ⟨_, SqT.same s4 hb⟩, fun D2 hD2 => ?_⟩
    have hb4 := SqT.same s4 hb
    have hu4 := hus.same s4
    have wo : Walk (Itt K b) us.length (fun H => SqT K H b us) (YAt us) := walk_tup
    refine ⟨fun i m H => m = us.length - i ∧ i ≤ us.length ∧ Same H4 H ∧ H D2 = some (.lst ((plLs (as.take i)).map V.str)), ⟨_, rfl, Nat.zero_le _, same_new hD2, by rw [upd_same, List.take_zero, plLs_nil]; rfl⟩, ?_⟩
    rintro i m H5 ⟨rfl, hi, s5, hacc5⟩
    by_cases hlt : i < us.length
    · refine .inr ⟨wo.goes i H5 hlt (SqT.same s5 hb4), fun H' => i + 1 ≤ us.length ∧ Same H4 H' ∧ H' D2 = some (.lst ((plLs (as.take (i + 1))).map V.str)), fun H' h' => ⟨us.length - (i + 1), by omega, rfl, h'.1, h'.2.1, h'.2.2⟩, fun z H' y => ?_⟩
      obtain ⟨rfl, hz⟩ := wo.yields i H5 z H' hlt (SqT.same s5 hb4) y
      obtain ⟨k1, hk1, ty⟩ := hu4.get hz
      obtain ⟨a, dx1, b1, q1, us1, rfl, ha, hb1', _, hq1⟩ := ty.un
      have etk : as.take (i + 1) = as.take i ++ [k1] := by
        rw [List.take_add_one, hk1]
        rfl
      refine ⟨rfl, _, rfl, a, CT, dx1, _, _, rfl, s5 _ _ ha, T.cl, T.places, tyF_places _ _ _ _, q1, rfl, ⟨_, SqT.same s5 hq1⟩, ?_⟩
      have wi : Walk (Itt K q1) ((plL k1).map V.str).length (fun H => SqT K H q1 ((plL k1).map V.str)) (YAt ((plL k1).map V.str)) := walk_tup
      refine ⟨fun j k H => k = ((plL k1).map V.str).length - j ∧ j ≤ ((plL k1).map V.str).length ∧ Same H4 H ∧ H D2 = some (.lst ((plLs (as.take i)).map V.str ++ ((plL k1).map V.str).take j)), ⟨_, rfl, Nat.zero_le _, s5, by rw [hacc5, List.take_zero, List.append_nil]⟩, ?_⟩
      rintro j k H6 ⟨rfl, hj, s6, hacc6⟩
      by_cases hlj : j < ((plL k1).map V.str).length
      · refine .inr ⟨wi.goes j H6 hlj (SqT.same s6 hq1), fun H' => j + 1 ≤ ((plL k1).map V.str).length ∧ Same H4 H' ∧ H' D2 = some (.lst ((plLs (as.take i)).map V.str ++ ((plL k1).map V.str).take (j + 1))), fun H' h' => ⟨((plL k1).map V.str).length - (j + 1), by omega, rfl, h'.1, h'.2.1, h'.2.2⟩, fun z H' y => ?_⟩
        obtain ⟨rfl, hz2⟩ := wi.yields j H6 z H' hlj (SqT.same s6 hq1) y
        refine ⟨rfl, _, rfl, _, hacc6, szlt ?_, by omega, same_put s6 hD2, ?_⟩
        · have e1 : (plLs (as.take i)).length ≤ plcs as := by
            rw [plLs_len]
            have := plcs_append (as.take i) (as.drop i)
            rw [List.take_append_drop] at this
            omega
          have e2 : (plL k1).length ≤ plcs as := by
            rw [plL_len]
            exact plcs_mem (List.mem_of_getElem? hk1)
          rw [List.length_append, List.length_take, List.length_map, List.length_map]
          omega
        · rw [upd_same, List.take_add_one, hz2, List.append_assoc]
          rfl
      · refine .inl ⟨?_, by omega, s6, ?_⟩
        · have : j = ((plL k1).map V.str).length := by omega
          rw [this]
          exact wi.stops H6 (SqT.same s6 hq1)
        · rw [hacc6, List.take_of_length_le (l := (plL k1).map V.str) (by omega), etk, plLs_append, plLs_cons, plLs_nil, List.append_nil, List.map_append]
    refine .inl ⟨?_, ?_⟩
    · have : i = us.length := by omega
      rw [this]
      exact wo.stops H5 (SqT.same s5 hb4)
    rw [List.take_of_length_le (by omega)] at hacc5
    have hpl : (plLs as).length = plcs as := plLs_len as
    refine ⟨D2, _, rfl, .inr (SqL.of hacc5), _, rfl, szl (by rw [List.length_append, List.length_map, hpl]; show plcs as + 1 ≤ 16777216; omega), fun q hq => ?_⟩
    have ep : (plLs as).map V.str ++ [V.str x] = (plL (.mk as x)).map V.str := by rw [plL_mk, List.map_append]; rfl
    rw [ep]
    have s6 := Same.trans s4 (Same.trans s5 (same_new (o := .tup ((plL (.mk as x)).map V.str)) hq))
    have ho6 := same_new (o := .tup ((plL (.mk as x)).map V.str)) hq _ _ (s5 _ _ ho4)
    have hq6 : (upd H5 q (.tup ((plL (.mk as x)).map V.str))) q = some (.tup ((plL (.mk as x)).map V.str)) := upd_same
    generalize (upd H5 q (.tup ((plL (.mk as x)).map V.str))) = H6 at *
    refine ⟨_, rfl, o, CT, dx, _, rfl, ho6, T.cl, T.places, (by show 2 < 1000; decide), ?_⟩
    have hqo : q ≠ o := ne_of hq6 ho6 (by intro z; cases z)
    have s7 := same_put (o := .ins CT dx (putF "own_places" (V.ref q) (putF "own_atom" (V.str x) (putF "own_args" (V.ref b) [])))) s6 n0
    refine ⟨_, rfl, b, us, as, rfl, SqT.same s7 hb, hus.same s7, by omega, fun H8 s8 => ?_⟩
    have ho8 := s8 _ _ (upd_same (H := H6) (a := o) (o := .ins CT dx (putF "own_places" (V.ref q) (putF "own_atom" (V.str x) (putF "own_args" (V.ref b) [])))))
    refine ⟨_, rfl, o, CT, dx, _, rfl, ho8, T.cl, T.order, (by show 3 < 1000; decide), ?_⟩
    have hne8 : ∀ (H9 : Hp), Same H8 H9 → True := fun _ _ => True.intro
    have hq8 : H8 q = some (.tup ((plL (.mk as x)).map V.str)) := s8 _ _ (by rw [upd_ne hqo]; exact hq6)
    have s9 : Same H0 (upd H8 o (.ins CT dx (putF "own_order" (V.int ↑(ordKs as)) (putF "own_places" (V.ref q) (putF "own_atom" (V.str x) (putF "own_args" (V.ref b) [])))))) := same_put (Same.trans s7 s8) n0
    have ho9 : (upd H8 o (.ins CT dx (putF "own_order" (V.int ↑(ordKs as)) (putF "own_places" (V.ref q) (putF "own_atom" (V.str x) (putF "own_args" (V.ref b) [])))))) o = some (.ins CT dx (putF "own_order" (V.int ↑(ordKs as)) (putF "own_places" (V.ref q) (putF "own_atom" (V.str x) (putF "own_args" (V.ref b) []))))) := upd_same
    have hq9 : (upd H8 o (.ins CT dx (putF "own_order" (V.int ↑(ordKs as)) (putF "own_places" (V.ref q) (putF "own_atom" (V.str x) (putF "own_args" (V.ref b) [])))))) q = some (.tup ((plL (.mk as x)).map V.str)) := by rw [upd_ne hqo]; exact hq8
    generalize (upd H8 o (.ins CT dx (putF "own_order" (V.int ↑(ordKs as)) (putF "own_places" (V.ref q) (putF "own_atom" (V.str x) (putF "own_args" (V.ref b) [])))))) = H9 at *
    rw [ty_put4] at ho9
    have lk3 : List.lookup ("own_places" : Str) ([("own_args", V.ref b), ("own_atom", V.str x), ("own_places", V.ref q), ("own_order", V.int ↑(ordKs as))] : List (Str × V)) = some (.ref q) := by rw [lk_ne _ _ (by decide +kernel), lk_ne _ _ (by decide +kernel), lk_eq]
    have lk4 : List.lookup ("own_order" : Str) ([("own_args", V.ref b), ("own_atom", V.str x), ("own_places", V.ref q), ("own_order", V.int ↑(ordKs as))] : List (Str × V)) = some (.int ↑(ordKs as)) := by rw [lk_ne _ _ (by decide +kernel), lk_ne _ _ (by decide +kernel), lk_ne _ _ (by decide +kernel), lk_eq]
    refine ⟨_, rfl, o, CT, dx, _, _, rfl, ho9, T.cl, T.places, lk3, q, _, rfl, .inr (SqT.of hq9), _, _, rfl, rfl, _, rfl, ?_⟩
    rw [List.length_map, plL_len]
    refine ite2 (fun h1 => iteT ?_) (fun h1 => ?_)
    · rw [decide_eq_true_eq] at h1
      exact kE (fun z => by have := z.1; omega) _ s9
    rw [decide_eq_true_eq] at h1
    refine ⟨_, rfl, o, CT, dx, _, _, rfl, ho9, T.cl, T.order, lk4, _, _, rfl, rfl, _, rfl, ite2 (fun h2 => ?_) (fun h2 => ?_)⟩
    · rw [decide_eq_true_eq] at h2
      exact kE (fun z => by have := z.2; rw [ordK_mk] at this; omega) _ s9
    rw [decide_eq_true_eq] at h2
    have hfit : KdFits (.mk as x) := ⟨by omega, by rw [ordK_mk]; omega⟩
    have hu9 := hus.same s9
    have hb9 := SqT.same s9 hb
    refine ⟨⟨_, rfl⟩, _, rfl, b, rfl, ⟨_, hb9⟩, fun D3 hD3 => ?_⟩
    refine lc_each walk_tup hD3 (by omega) (fun H10 s10 => SqT.same s10 hb9) (fun i y _ => ∃ k, as[i]? = some k ∧ y = .str (txtA k)) (fun i y H2 H3 l _ _ r => r) (fun i z H10 H11 hi s10 hl10 y Qy hy => ?_) (fun H10 acc10 s10 hacc10 hla10 hr10 => ?_)
    · obtain ⟨rfl, hz⟩ := y
      obtain ⟨k1, hk1, ty⟩ := hu9.get hz
      have hk1m := List.mem_of_getElem? hk1
      refine ⟨rfl, _, rfl, z, k1, rfl, ty.same s10, ?_, fun H12 s12 => hy _ _ s12 ⟨k1, hk1, rfl⟩⟩
      have := txt_len (wdss_mem hww.2 hk1m)
      have := plcs_mem hk1m
      omega
    have e10 : acc10 ++ [V.str x] = (as.map txtA ++ [x]).map V.str := by
      rw [List.map_append, List.map_map]
      congr 1
      exact eq_map_of (by rw [hla10, hlen]) fun i y e => by
        obtain ⟨k1, h1, h2⟩ := hr10 i y e
        exact ⟨k1, h1, h2⟩
    refine ⟨D3, _, rfl, .inr (SqL.of hacc10), _, rfl, szl (by rw [List.length_append, hla10]; show us.length + 1 ≤ 16777216; omega), fun p hp => ?_⟩
    rw [e10]
    have s11 := Same.trans s10 (same_new (o := .lst ((as.map txtA ++ [x]).map V.str)) hp)
    have ej : Txt.join (Str.ofString " -> ") (as.map txtA ++ [x]) = txt (.mk as x) := by
      rw [join_eq]
      refine ext_tl ?_
      rw [tl_join, arrow_eq, List.map_append, List.map_map, tl_txt, ← txt_join as x]
      rfl
    refine ⟨_, p, _, rfl, rfl, .inl (SqL.of upd_same), ?_, ?_⟩
    · have hs : ((as.map txtA).map (·.length)).sum ≤ 14 * plcs as := sum_txtA hww.2
      rw [List.map_append, List.sum_append, List.length_append, List.length_map]
      have e4 : (Str.ofString " -> ").length = 4 := by decide +kernel
      rw [e4]
      simp only [List.map_cons, List.map_nil, List.sum_cons, List.sum_nil, List.length_cons, List.length_nil]
      omega
    rw [ej]
    have ho11 := s11 _ _ ho9
    have hq11 := s11 _ _ hq9
    refine ⟨_, rfl, o, CT, dx, _, rfl, ho11, T.cl, T.text, (by show 4 < 1000; decide), ?_⟩
    have ef : putF "own_text" (V.str (txt (.mk as x))) ([("own_args", V.ref b), ("own_atom", V.str x), ("own_places", V.ref q), ("own_order", V.int ↑(ordKs as))] : List (Str × V)) = tyF b x q (.mk as x) := by
      unfold tyF
      rw [putF_ne (f := "own_text") _ _ _ (by decide +kernel), putF_ne (f := "own_text") _ _ _ (by decide +kernel), putF_ne (f := "own_text") _ _ _ (by decide +kernel), putF_ne (f := "own_text") _ _ _ (by decide +kernel), putF_nil, ordK_mk]
    rw [ef]
    have sf := same_put (o := .ins CT dx (tyF b x q (.mk as x))) (Same.trans s9 s11) n0
    refine kQ hfit _ sf (.mk upd_same (SqT.same sf hb) (hus.same sf) (SqT.of ?_))
    rw [upd_ne hqo]
    exact hq11
end
end Fp
/-! W10: kind_in, type_of_text -/
namespace Fp
open PySem PySem.Spec PyProof.Rows L2 TL
section
variable {P : Program} {w : World} {K : PySem.W.Frag} {mg : Str → Option Value} {base : Heap}
abbrev s_kind_in : Stmt := top 27
abbrev N_kind_in : List Str := ["shape", "one"]
theorem sc_kind_in : FnScope N_kind_in ["shape"] (defScope s_kind_in) := ⟨rfl, rfl, rfl, by decide +kernel, rfl, by decide +kernel, by decide +kernel⟩
def sp_kind_in (K : PySem.W.Frag) (CT CI : Addr) (n : Nat) : Sp := fun vs H Q E => ∃ v k, vs = [v] ∧ Dp K H v (kdD k) ∧ wds k = true ∧ plc k ≤ 15 ∧ ordK k < n ∧ ordK k ≤ 5 ∧ (ordK k ≤ 4 → ∀ v' H', Same H H' → TyO K CT H' v' k → Q v' H') ∧ (4 < ordK k → ∀ H', Same H H' → E (.ref CI) none H')
/-- .. of a kind that is not too deep -/
def sp_kind_inQ (K : PySem.W.Frag) (CT : Addr) (n : Nat) : Sp := fun vs H Q _ => ∃ v k, vs = [v] ∧ Dp K H v (kdD k) ∧ wds k = true ∧ plc k ≤ 15 ∧ ordK k < n ∧ ordK k ≤ 4 ∧ ∀ v' H', Same H H' → TyO K CT H' v' k → Q v' H'
theorem kind_in_quiet {CT CI : Addr} {n : Nat} (vs : List V) (H : Hp) (Q : VK) (E : XK) (h : sp_kind_inQ K CT n vs H Q E) : sp_kind_in K CT CI n vs H Q E0 := by
  obtain ⟨v, k, rfl, d, h1, h2, h3, h4, h5⟩ := h
  exact ⟨v, k, rfl, d, h1, h2, h3, by omega, fun _ => h5, fun z => by omega⟩
theorem dpAll_getV {K : PySem.W.Frag} {H : Hp} {vs : List V} {ks : List Kd} {i : Nat} {v : V} (h : DpAll K H vs (kdDs ks)) (e : vs[i]? = some v) : ∃ k, ks[i]? = some k ∧ Dp K H v (kdD k) := by
  have hl := dpAll_length h
  rw [kdDs_length] at hl
  have hi : i < ks.length := by have := (List.getElem?_eq_some_iff.mp e).1; omega
  have e2 : (kdDs ks)[i]? = some (kdD ks[i]) := by rw [kdDs_map, List.getElem?_map, List.getElem?_eq_getElem hi]; rfl
  obtain ⟨v', h1, h2⟩ := dpAll_get h e2
  rw [e] at h1
  cases h1
  exact ⟨_, List.getElem?_eq_getElem hi, h2⟩
theorem ok_kind_in {CT CI f : Addr} {fd : FuncData} (F : Fun K "kind_in" "kind_in" s_kind_in f fd) (N : Nm mg) (T : Tyf K mg CT) (hm : mg "kind_in" = some (.ref f)) (hkp : PySem.W.keepIn K (.ref f) = true) (hbd : Binds K fd ["shape"] [])
    (c_make : MkC P w K mg base (L2.CX P w) 2 "Type" CT (sp_Type_init K CT CI) []) : ∀ n : Nat, FnOk P w K mg base (L2.CX P w) (n + 3) f fd ["shape"] (sp_kind_in K CT CI n)
  | 0 => ⟨fun vs H Q E h => by obtain ⟨v, k, _, _, _, _, z, _⟩ := h; omega, fun A outer s H args us vs Q E hr e0 hb r q => by obtain ⟨v, k, _, _, _, _, z, _⟩ := q; omega⟩
  | n + 1 => by
    have c_in : Cal P w K mg base CX0 (n + 3) "kind_in" (sp_kind_inQ K CT n) := ⟨f, fd, _, FnOk.quiet (ok_kind_in F N T hm hkp hbd c_make n) fun vs H Q E h => kind_in_quiet vs H Q E h, hm, hkp, hbd⟩
    refine F.okX sc_kind_in (fun vs H Q E h => ?_) (fun cdv A outer s H vs Q E hr h => ?_)
    · obtain ⟨v, k, rfl, _⟩ := h
      rfl
    · obtain ⟨v, k, rfl, d, hw, hp, hn, h5, kQ, kE⟩ := h
      refine ⟨_, (pss_one (ps_ret (pe_mkx c_make hr (passes_call (takes_of rfl rfl rfl rfl) (fun _ _ _ _ h => h)) (hk := by omega) (ha := (pa_cons (pe_callTy call_tuple_of (by rfl) N.tuple (by decide +kernel) (pa_cons (pe_lc (own := [("one", 1)]) (g := gName 1) (tt := tYes) (te := tCall (sp_kind_inQ K CT n) [] E0 (tCons (tVar 1) tNil)) rfl sc_kind_in.nd (pi_tup (pe_ix ix_tup (pv 0) pe_int (fun _ _ => rfl))) (blkOk_by (N := N_kind_in) (sc := defScope s_kind_in) (by decide +kernel)) (fun _ _ _ _ _ => pg_name (i := 1) sc_kind_in.nd rfl (Or.inl rfl)) (fun _ _ _ _ _ => pts_nil) (fun _ _ _ _ _ => (pe_c c_in hr (hk := Nat.le_refl _) (ha := (pa_cons (pv 1) pa_nil))))) pa_nil)) (pa_cons (pe_ix ix_tup (pv 0) pe_int (fun _ _ => rfl)) pa_nil)))))), ?_⟩
      obtain ⟨a, b, us, rfl, q1, q2, q3⟩ := dp_kd d
      have hwa := wds_args hw
      have hpa := plc_args k
      have hoa := ordK_args k
      have hl : us.length = k.args.length := by have := dpAll_length q3; rwa [kdDs_length] at this
      have hpl := plcs_length k.args
      refine ⟨_, rfl, a, _, 0, _, rfl, rfl, q1, rfl, b, rfl, ⟨_, q2⟩, fun D hD => ?_⟩
      refine lc_same (tt := tYes) (te := tCall (sp_kind_inQ K CT n) [] E0 (tCons (tVar 1) tNil)) walk_tup hD (by omega) (fun H2 s2 => SqT.same s2 q2) (fun i acc H => TyOs K CT H acc (k.args.take i)) (fun i acc H H' l hl s r => r.sameL (s.sL hl rfl)) (fun H2 => .nil) (fun i acc H2 r => by rw [r.length, List.length_take]; omega) (fun i z H2 H3 acc hi s2 hl2 r y Qy Qn hy hn => ?_) (fun H2 acc s2 hacc r => ?_)
      · obtain ⟨rfl, hz⟩ := y
        obtain ⟨k1, hk1, d1⟩ := dpAll_getV q3 hz
        have hm1 := List.mem_of_getElem? hk1
        have etk : k.args.take (i + 1) = k.args.take i ++ [k1] := by
          rw [List.take_add_one, hk1]
          rfl
        have ho1 := ordKs_mem hm1
        have hp1 := plcs_mem hm1
        refine ⟨rfl, _, rfl, z, k1, rfl, Dp.same s2 d1, wdss_mem hwa.2 hm1, by omega, by omega, by omega, fun v' H4 s4 ty => hy _ _ s4 ?_⟩
        rw [etk]
        exact (r.same s4).snoc ty
      · rw [List.take_of_length_le (by omega)] at r
        refine ⟨D, acc, rfl, .inl ⟨SqL.of hacc, fun l hl => ?_⟩⟩
        have s3 := Same.trans s2 (same_new (o := .tup acc) hl)
        refine ⟨_, rfl, a, _, 1, _, rfl, rfl, SqT.same s3 q1, rfl, fun o dx ho hdx hne => ?_⟩
        have ek : Kd.mk k.args k.atom = k := Kd.eta k
        refine ⟨upd H2 l (.tup acc), o, dx, l, acc, k.args, k.atom, rfl, same_upd (same_new hdx) (by rw [upd_ne hne.symm]; exact ho), ho, upd_same, SqT.of upd_same, r.same (same_new hl), by rw [ek]; exact hw, by rw [ek]; omega, fun hf H4 s4 ty => ⟨rfl, ?_⟩, fun hf H4 s4 => ?_⟩
        · rw [ek] at hf ty
          exact kQ hf.2 _ _ (Same.trans s3 s4) ty
        · rw [ek] at hf
          refine kE ?_ _ (Same.trans s3 s4)
          by_cases z : 4 < ordK k
          · exact z
          · exact absurd ⟨hp, by omega⟩ hf
/-! ### type_of_text -/
abbrev s_type_of_text : Stmt := top 31
abbrev N_type_of_text : List Str := ["text", "shape"]
theorem sc_type_of_text : FnScope N_type_of_text ["text"] (defScope s_type_of_text) := ⟨rfl, rfl, rfl, by decide +kernel, rfl, by decide +kernel, by decide +kernel⟩
def sp_type_of_text (K : PySem.W.Frag) (CT : Addr) : Sp := fun vs H Q _ => ∃ x : Str, vs = [.str x] ∧ x.length ≤ 1000000 ∧ (parse x = none → ∀ H', Same H H' → Q .non H') ∧ ∀ k, parse x = some k → ∀ v H', Same H H' → TyO K CT H' v k → Q v H'
theorem ok_type_of_text {CT CI f : Addr} {fd : FuncData} (F : Fun K "type_of_text" "type_of_text" s_type_of_text f fd) (N : Nm mg) (VI : ErrF K mg "InvalidType" CI)
    (c_shape_of : Cal P w K mg base CX0 3 "shape_of" (sp_shape_of K)) (c_kind_in : Cal P w K mg base (L2.CX P w) 9 "kind_in" (sp_kind_in K CT CI 6)) : FnOk P w K mg base CX0 10 f fd ["text"] (sp_type_of_text K CT) := by
  refine F.ok sc_type_of_text (fun vs H Q E h => ?_) (fun cdv A outer s H vs Q E hr h => ?_)
  · obtain ⟨x, rfl, _⟩ := h
    rfl
  · obtain ⟨x, rfl, hx, kN, kS⟩ := h
    refine ⟨_, (pss_cons (ps_set (i := 1) sc_type_of_text.nd rfl (Or.inl rfl) (pe_c c_shape_of hr (ha := (pa_cons (pv 0) pa_nil))))
      (pss_one (ps_try_only (c := .ref CI) (tb := fun W => tRet (tIf (tTest (tOp rIsN (tVar 1) (tC .non))) (tC .non) (tCallS (sp_kind_in K CT CI 6) (WE W) (tCons (tVar 1) tNil)))) (ts := fun _ _ _ => tRet (tC .non)) (Wout := fun _ _ _ _ => False) rfl rfl ⟨rfl, by decide, Or.inl VI.g⟩ takes0
          (fun W pn xe tk _ => pss_one (ps_ret (pe_ifExp (pt_cmpR op_isN1 (pv 1) pe_non (nomark _)) pe_non (pe_cx c_kind_in hr (fun σ => passAt tk σ) (ha := (pa_cons (pv 1) pa_nil))))))
          (fun _ _ _ _ _ _ _ => pss_one (ps_ret pe_non))))), ?_⟩
    refine ⟨_, rfl, x, rfl, hx, fun hn H1 s1 => ?_, fun k hk v H1 s1 d => ?_⟩
    · exact ⟨_, rfl, rfl, _, rfl, iteTo (decide_eq_true rfl) (kN (by unfold parse; rw [hn]) _ s1)⟩
    · obtain ⟨h1, h2, h3⟩ := shape_small hk
      have hvn : v ≠ .non := by
        obtain ⟨a, b, us, rfl, _⟩ := dp_kd d
        intro z
        cases z
      have hpar : parse x = if ordK k ≤ 4 then some k else none := by
        unfold parse
        rw [hk]
      refine ⟨_, rfl, rfl, _, rfl, iteFo (decide_eq_false hvn) ⟨_, rfl, v, k, rfl, d, h1, h2, by omega, h3, fun h4 v' H2 s2 ty => ?_, fun h4 H2 s2 => ?_⟩⟩
      · rw [if_pos h4] at hpar
        exact kS k hpar v' H2 (Same.trans s1 s2) ty
      · rw [if_neg (by omega)] at hpar
        exact ⟨true, VI.own, (fun _ a ha => kN hpar _ (Same.trans s1 s2)), (fun z => by cases z)⟩
end
end Fp
/-! M4: texts cut at a separator -/
namespace Fp
open PySem TL PyProof.Rows
theorem spl_ne (S : List Nat) : ∀ (k : Nat) (acc l : List Nat), spl S k acc l ≠ []
  | k, acc, [] => by rw [spl_nil]; simp
  | 0, acc, c :: r => by
    cases h : pre S (c :: r) with
    | true => rw [spl_hit h]; simp
    | false => rw [spl_miss h]; exact spl_ne S 0 _ r
  | k + 1, acc, c :: r => by
    show spl S k acc r ≠ []
    exact spl_ne S k acc r
theorem joinL_cons2 (S p : List Nat) {X : List (List Nat)} (h : X ≠ []) : joinL S (p :: X) = p ++ (S ++ joinL S X) := by
  cases X with
  | nil => exact absurd rfl h
  | cons q r => rfl
theorem joinL_spl {S : List Nat} (hS : S ≠ []) : ∀ (n : Nat) (l acc : List Nat), l.length ≤ n → joinL S (spl S 0 acc l) = acc ++ l
  | n, [], acc, _ => by rw [spl_nil, List.append_nil]; rfl
  | 0, c :: r, acc, h => by rw [List.length_cons] at h; omega
  | n + 1, c :: r, acc, h => by
    rw [List.length_cons] at h
    cases hp : pre S (c :: r) with
    | true =>
      rw [spl_hit hp, spl_pass, joinL_cons2 _ _ (spl_ne _ _ _ _), joinL_spl hS n _ [] (by rw [List.length_drop]; omega), List.nil_append]
      congr 1
      have e : (c :: r).take S.length = S := eq_of_beq hp
      have e2 : (c :: r).drop S.length = r.drop (S.length - 1) := by
        cases S with
        | nil => exact absurd rfl hS
        | cons s S => rfl
      rw [← e2]
      conv => lhs; lhs; rw [← e]
      exact List.take_append_drop _ _
    | false =>
      rw [spl_miss hp, joinL_spl hS n r (acc ++ [c]) (by omega), List.append_assoc]
      rfl
theorem joinL_mem {S : List Nat} : ∀ {ps : List (List Nat)} {p : List Nat}, p ∈ ps → p.length ≤ (joinL S ps).length
  | [q], p, h => by
    rw [List.mem_singleton.mp h]
    exact Nat.le_refl _
  | q :: r :: rs, p, h => by
    show p.length ≤ (q ++ (S ++ joinL S (r :: rs))).length
    rw [List.length_append, List.length_append]
    rcases List.mem_cons.mp h with rfl | h
    · omega
    · have := joinL_mem (S := S) h
      omega
theorem joinL_len {S : List Nat} : ∀ (ps : List (List Nat)), ps.length ≤ (joinL S ps).length / max S.length 1 + 1 ∨ S = []
  | [] => .inl (by simp)
  | [q] => .inl (by simp)
  | q :: r :: rs => by
    rcases joinL_len (S := S) (r :: rs) with h | h
    · by_cases hS : S = []
      · exact .inr hS
      · refine .inl ?_
        have hl : 1 ≤ S.length := List.length_pos_iff.mpr hS
        show (q :: r :: rs).length ≤ (q ++ (S ++ joinL S (r :: rs))).length / max S.length 1 + 1
        rw [List.length_append, List.length_append, Nat.max_eq_left hl] at *
        have e : (q.length + (S.length + (joinL S (r :: rs)).length)) / S.length ≥ (S.length + (joinL S (r :: rs)).length) / S.length := Nat.div_le_div_right (by omega)
        rw [Nat.add_div_left _ (by omega)] at e
        rw [List.length_cons]
        omega
    · exact .inr h
/-! ### texts -/
theorem split_back {x y : Str} (hy : tl y ≠ []) (hk : y.cps.all (· < 256) = true) : joinL (tl y) ((Txt.split x y).map tl) = tl x ∧ (Txt.split x y) ≠ [] := by
  have h := split_spl x y hy (kind_ok hk)
  refine ⟨by rw [h, joinL_spl hy _ _ _ (Nat.le_refl _)]; rfl, fun z => ?_⟩
  rw [z] at h
  exact spl_ne _ _ _ _ h.symm
theorem split_le {x y : Str} (hy : tl y ≠ []) (hk : y.cps.all (· < 256) = true) {p : Str} (h : p ∈ Txt.split x y) : p.length ≤ x.length := by
  have e := (split_back (x := x) hy hk).1
  have h2 := joinL_mem (S := tl y) (ps := (Txt.split x y).map tl) (p := tl p) (List.mem_map.mpr ⟨p, h, rfl⟩)
  rw [e] at h2
  rw [len_tl, len_tl]
  exact h2
theorem split_num {x y : Str} (hy : tl y ≠ []) (hk : y.cps.all (· < 256) = true) : (Txt.split x y).length ≤ x.length + 1 := by
  have e := (split_back (x := x) hy hk).1
  rcases joinL_len (S := tl y) ((Txt.split x y).map tl) with h | h
  · rw [e, List.length_map] at h
    have : (tl x).length / max (tl y).length 1 ≤ (tl x).length := Nat.div_le_self _ _
    rw [len_tl]
    omega
  · exact absurd h hy
theorem spl_two {c : Nat} {S p q : List Nat} (hc : c ≠ 32) (hp : c ∉ p) (hq : c ∉ q) : spl (32 :: c :: S) 0 [] (p ++ (32 :: c :: S ++ q)) = [p, q] := by
  have key : ∀ l : List Nat, pre (32 :: c :: S) l = true → l[1]? = some c := fun l h => by
    have e : l.take (32 :: c :: S).length = 32 :: c :: S := eq_of_beq h
    have e2 : (l.take (32 :: c :: S).length)[1]? = some c := by rw [e]; rfl
    rw [List.getElem?_take_of_lt (by simp)] at e2
    exact e2
  rw [spl_part (by simp) fun i hi => ?_, spl_last fun i hi => ?_]
  · rfl
  · cases h : pre (32 :: c :: S) (q.drop i) with
    | false => rfl
    | true =>
      have := key _ h
      rw [List.getElem?_drop] at this
      exact absurd (List.mem_of_getElem? this) hq
  · cases h : pre (32 :: c :: S) ((p ++ (32 :: c :: S ++ q)).drop i) with
    | false => rfl
    | true =>
      have := key _ h
      rw [List.getElem?_drop] at this
      by_cases h1 : i + 1 < p.length
      · rw [List.getElem?_append_left h1] at this
        exact absurd (List.mem_of_getElem? this) hp
      · have h2 : i + 1 = p.length := by omega
        rw [h2, List.getElem?_append_right (Nat.le_refl _), Nat.sub_self] at this
        exact absurd (Option.some.inj this).symm hc
theorem split_two {x y p q : Str} {c : Nat} {S : List Nat} (ey : tl y = 32 :: c :: S) (hk : y.cps.all (· < 256) = true) (hc : c ≠ 32) (hp : c ∉ tl p) (hq : c ∉ tl q) (ex : tl x = tl p ++ (tl y ++ tl q)) : Txt.split x y = [p, q] := by
  refine map_tl_inj ?_
  rw [split_spl _ y (by rw [ey]; simp) (kind_ok hk), ex, ey]
  exact spl_two hc hp hq
end Fp
/-! W11: ParseError, Type.read, part_of_line -/
namespace Fp
open PySem PySem.Spec PyProof.Rows L2 TL
section
variable {P : Program} {w : World} {K : PySem.W.Frag} {mg : Str → Option Value} {base : Heap}
abbrev s_ParseError_init : Stmt := inClass (top 17) 0
abbrev N_ParseError_init : List Str := ["self", "line"]
theorem sc_ParseError_init : FnScope N_ParseError_init ["self", "line"] (defScope s_ParseError_init) := ⟨rfl, rfl, rfl, by decide +kernel, rfl, by decide +kernel, by decide +kernel⟩
def sp_PE_init (CP : Addr) : Sp := fun vs H Q _ => ∃ a y, vs = [.ref a, y] ∧ H a = some (exo a CP none) ∧ ∀ dx, H dx = none → dx ≠ a → Q .non (upd (upd H dx (exd dx [("line", y)])) a (exo a CP (some dx)))
theorem ok_PE_init {CP f : Addr} {fd : FuncData} (F : Fun K "__init__" "ParseError.__init__" s_ParseError_init f fd) (T : OexC K CP) (hl : PySem.W.findIn K (.ref CP) "line" = some none) : FnOk P w K mg base CX0 1 f fd ["self", "line"] (sp_PE_init CP) := by
  refine F.ok sc_ParseError_init (fun vs H Q E h => ?_) (fun cdv A outer s H vs Q E hr h => ?_)
  · obtain ⟨a, y, rfl, _⟩ := h
    rfl
  · obtain ⟨a, y, rfl, ha, k⟩ := h
    refine ⟨_, (pss_one (ps_ost (pv 0) (pv 1))), ?_⟩
    exact ⟨_, rfl, _, rfl, a, CP, rfl, T, hl, .inl ⟨ha, fun dx hdx hne => k dx hdx hne⟩⟩
/-- ParseError as it stands -/
structure PEf (P : Program) (w : World) (K : PySem.W.Frag) (mg : Str → Option Value) (base : Heap) (CP : Addr) : Prop where
  T : OexC K CP
  g : mg "ParseError" = some (.ref CP)
  own : PySem.W.exmOne K (.ref CP) (.ref CP) = some true
  ex : ∃ (f : Addr) (fd : FuncData), PySem.W.findIn K (.ref CP) "__init__" = some (some (.ref f)) ∧ PySem.W.typeIn K (.ref f) = some (.type "function") ∧ FnOk P w K mg base CX0 1 f fd ["self", "line"] (sp_PE_init CP) ∧ Binds K fd ["self", "line"] []
end
section
variable {X : Cx} {CP : Addr} {p pos : Pos} {e : Expr} {te : TE} {j : Nat}
/-- ParseError(e) -/
theorem pmk_pe (F : PEf X.prog X.w X.K X.mg X.base CP) (hr : Room j X.A) (he : PE X e te) (hj : 2 ≤ j := by decide) (hg : Gl X "ParseError" := by rfl)
    (hs : starEach [e] X.env = (false, eval e X.env) :: starEach [] X.env := by rfl) (hpl : (backTo pos (starEach [] X.env)).any (·.1) = false := by rfl) :
    PMk X (.Call (.Name "ParseError" p) [e] [] pos) (tMkO CP (sp_PE_init CP) [] (tCons te tNil)) := by
  obtain ⟨f, fd, iC, tI, F1, hb⟩ := F.ex
  exact pmk_oex (x := "ParseError") (p := p) (pos := pos) F.T iC tI F1 (hr.mono hj) hb .nil pass0 hg F.g (pa_cons he pa_nil hs) (by decide) hs hpl
/-- what is asked at its raise -/
theorem pe_body {H1 : Hp} {y : V} {Q : XK} (h : ∀ d H', Same H1 H' → H' d = some (.xd [("line", y)]) → Q (.ref CP) (some d) H') :
    [y].length ≤ 1000 ∧ ∀ a, H1 a = none → sp_PE_init CP (.ref a :: ([y] ++ [])) (upd H1 a (exo a CP none)) (fun v H2 => v = .non ∧ ∃ (d : Addr) (fs : List (Str × V)), H2 a = some (exo a CP (some d)) ∧ H2 d = some (exd d fs) ∧ H1 d = none ∧ Q (.ref CP) (some d) (upd (del H2 a) d (.xd fs))) (fun _ _ _ => False) := by
  refine ⟨by show 1 ≤ 1000; decide, fun a ha => ⟨a, y, rfl, upd_same, fun dx hdx hne => ⟨rfl, dx, [("line", y)], upd_same, ?_, ?_, ?_⟩⟩⟩
  · rw [upd_ne hne, upd_same]
  · rw [upd_ne hne] at hdx
    exact hdx
  · rw [upd_ne hne] at hdx
    refine h dx _ (fun b o e => ?_) upd_same
    have h1 : b ≠ dx := ne_of_none e hdx
    have h2 : b ≠ a := ne_of_none e ha
    rw [upd_ne h1, del_ne h2, upd_ne h2, upd_ne h1, upd_ne h2]
    exact e
end
section
variable {P : Program} {w : World} {K : PySem.W.Frag} {mg : Str → Option Value} {base : Heap}
/-! ### Type.read -/
abbrev s_Type_read : Stmt := inClass (top 30) 1
abbrev N_Type_read : List Str := ["cls", "text", "found"]
theorem sc_Type_read : FnScope N_Type_read ["cls", "text"] (defScope s_Type_read) := ⟨rfl, rfl, rfl, by decide +kernel, rfl, by decide +kernel, by decide +kernel⟩
/-- ParseError(y) may come out -/
def PeQ (CP : Addr) (H : Hp) (y : V) (E : XK) : Prop := ∀ d H', Same H H' → H' d = some (.xd [("line", y)]) → E (.ref CP) (some d) H'
def sp_Type_read (K : PySem.W.Frag) (CT CP : Addr) : Sp := fun vs H Q E => ∃ (v0 : V) (x : Str), vs = [v0, .str x] ∧ x.length ≤ 1000000 ∧ (parse x = none → PeQ CP H .non E) ∧ ∀ k, parse x = some k → ∀ v H', Same H H' → TyO K CT H' v k → Q v H'
theorem tyo_ne {CT : Addr} {H : Hp} {v : V} {k : Kd} (h : TyO K CT H v k) : v ≠ .non := by
  obtain ⟨a, _, _, _, _, rfl, _⟩ := h.un
  intro z
  cases z
theorem ok_Type_read {CT CP f : Addr} {fd : FuncData} (F : Fun K "read" "Type.read" s_Type_read f fd) (VP : PEf P w K mg base CP) (c_type_of_text : Cal P w K mg base CX0 10 "type_of_text" (sp_type_of_text K CT)) : FnOk P w K mg base (L2.CX P w) 11 f fd ["cls", "text"] (sp_Type_read K CT CP) := by
  refine F.okX sc_Type_read (fun vs H Q E h => ?_) (fun cdv A outer s H vs Q E hr h => ?_)
  · obtain ⟨v0, x, rfl, _⟩ := h
    rfl
  · obtain ⟨v0, x, rfl, hx, kN, kS⟩ := h
    refine ⟨_, (pss_cons (ps_set (i := 2) sc_Type_read.nd rfl (Or.inl rfl) (pe_c c_type_of_text hr (ha := (pa_cons (pv 1) pa_nil))))
      (pss_cons (ps_if (pt_cmpR op_isN (pv 2) pe_non (nomark _)) (pss_one (ps_raise rfl (takes_of rfl rfl rfl rfl) (pmk_pe VP hr pe_non))) pss_nil)
      (pss_one (ps_ret (pv 2))))), ?_⟩
    refine ⟨_, rfl, x, rfl, hx, fun hn H1 s1 => ?_, fun k hk v H1 s1 ty => ?_⟩
    · exact ⟨_, rfl, rfl, _, rfl, iteTo (decide_eq_true rfl) (pe_body fun d H2 s2 hd => kN hn d H2 (Same.trans s1 s2) hd)⟩
    · exact ⟨_, rfl, rfl, _, rfl, iteFo (decide_eq_false (tyo_ne ty)) ⟨_, rfl, kS k hk v H1 s1 ty⟩⟩
/-! ### part_of_line -/
def partOf (x : Str) : Option (Str × Kd) := match Txt.split x (Str.ofString " : ") with
  | [a, b] => if isWord a = true then (match parse b with | some k => some (a, k) | none => none) else none
  | _ => none
abbrev s_part_of_line : Stmt := top 38
abbrev N_part_of_line : List Str := ["line", "halves"]
theorem sc_part_of_line : FnScope N_part_of_line ["line"] (defScope s_part_of_line) := ⟨rfl, rfl, rfl, by decide +kernel, rfl, by decide +kernel, by decide +kernel⟩
def sp_part_of_line (K : PySem.W.Frag) (CT : Addr) : Sp := fun vs H Q _ => ∃ x : Str, vs = [.str x] ∧ x.length ≤ 1000000 ∧ (partOf x = none → ∀ H', Same H H' → Q .non H') ∧ ∀ a k, partOf x = some (a, k) → ∀ q v H', Same H H' → H' q = some (.tup [.str a, v]) → TyO K CT H' v k → Q (.ref q) H'
theorem colon_tl : tl (Str.ofString " : ") = [32, 58, 32] := by decide +kernel
theorem colon_ok : (Str.ofString " : ").cps.all (· < 256) = true := by decide +kernel
/-- the methods that are reached through the class -/
structure CMd (P : Program) (w : World) (K : PySem.W.Frag) (mg : Str → Option Value) (base : Heap) (k : Nat) (C : Addr) (m : Str) (sp : Sp) : Prop where
  ex : ∃ (p g : Addr), ClX.CRead K C (.type "type") ∧ ClX.CMet K C (.type "type") m p g ∧ FnR P w K mg base (L2.CX P w) k g sp
theorem ok_part_of_line {CT CP CB f : Addr} {fd : FuncData} (F : Fun K "part_of_line" "part_of_line" s_part_of_line f fd) (N : Nm mg) (T : Tyf K mg CT) (gB : mg "BuildError" = some (.ref CB)) (oB : PySem.W.exmOne K (.ref CP) (.ref CB) = some true)
    (c_is_word : Cal P w K mg base CX0 1 "is_word" sp_is_word) (c_read : CMd P w K mg base 11 CT "read" (sp_Type_read K CT CP)) : FnOk P w K mg base CX0 12 f fd ["line"] (sp_part_of_line K CT) := by
  obtain ⟨pC, gC, cr, cm, FR⟩ := c_read.ex
  refine F.ok sc_part_of_line (fun vs H Q E h => ?_) (fun cdv A outer s H vs Q E hr h => ?_)
  · obtain ⟨x, rfl, _⟩ := h
    rfl
  · obtain ⟨x, rfl, hx, kN, kS⟩ := h
    refine ⟨_, (pss_cons (ps_set (i := 1) sc_part_of_line.nd rfl (Or.inl rfl) (pe_ifExp (pt_val (pe_callB call_isi (by rfl) N.isi (by decide +kernel) (pa_cons (pv 0) (pa_cons (pe_bltn (v := .ty "str") (by rfl) N.str (by decide +kernel) rfl) pa_nil)))) (pe_split (pv 0) (pe_gv N.COLON)) (pe_lst pa_nil)))
      (pss_cons (ps_if (PW.pt (pw_or (pt_cmpR op_ne (pe_callB call_len_seq (by rfl) N.len (by decide +kernel) (pa_cons (pv 1) pa_nil)) pe_int (nomark _)) (pw_or1 (pt_not (pt_val (pe_c c_is_word hr (ha := (pa_cons (pe_ix ix_list (pv 1) pe_int (fun _ _ => rfl)) pa_nil)))))))) (pss_one (ps_ret pe_non)) pss_nil)
      (pss_one (ps_try_only (c := .ref CB) (tb := fun W => tRet (tTup (tCons (tOp (rIxL K) (tVar 1) (tC (.int 0))) (tCons (ClX.tCMeth CT (sp_Type_read K CT CP) (fun cls d H => ∀ σ, W cls d σ H) (tC (.ref CT)) (tCons (tOp (rIxL K) (tVar 1) (tC (.int 1))) tNil)) tNil)))) (ts := fun _ _ _ => tRet (tC .non)) (Wout := fun _ _ _ _ => False) rfl rfl ⟨rfl, by decide, Or.inl gB⟩ takes0
          (fun W pn xe tk _ => pss_one (ps_ret (pe_tup (pa_cons (pe_ix ix_list (pv 1) pe_int (fun _ _ => rfl)) (pa_cons (ClX.pe_cmeth (pe_gv T.g) cr cm FR (hr.mono (by decide)) (passes_call tk fun cls d σ H h => h σ) (pa_cons (pe_ix ix_list (pv 1) pe_int (fun _ _ => rfl)) pa_nil)) pa_nil)))))
          (fun _ _ _ _ _ _ _ => pss_one (ps_ret pe_non)))))), ?_⟩
    have hne : tl (Str.ofString " : ") ≠ [] := by rw [colon_tl]; simp
    refine ⟨_, rfl, _, _, _, _, true, rfl, .ty "str", .base (.str x), kit_ty (by decide +kernel), _, rfl, iteT ?_⟩
    refine ⟨_, rfl, ⟨_, rfl⟩, x, _, rfl, rfl, by decide +kernel, szl (by omega), fun p hp => ?_⟩
    have s1 := same_new (o := .lst ((Txt.split x (Str.ofString " : ")).map V.str)) hp
    have hp1 : (upd H p (.lst ((Txt.split x (Str.ofString " : ")).map V.str))) p = some (.lst ((Txt.split x (Str.ofString " : ")).map V.str)) := upd_same
    generalize (upd H p (.lst ((Txt.split x (Str.ofString " : ")).map V.str))) = H1 at *
    refine ⟨_, rfl, p, _, rfl, .inl (SqL.of hp1), rfl, _, rfl, ?_⟩
    rw [dec_int, List.length_map]
    have hpar : partOf x = match Txt.split x (Str.ofString " : ") with
        | [a, b] => if isWord a = true then (match parse b with | some k => some (a, k) | none => none) else none
        | _ => none := rfl
    have hle : ∀ y ∈ Txt.split x (Str.ofString " : "), y.length ≤ x.length := fun y hy => split_le hne colon_ok hy
    generalize Txt.split x (Str.ofString " : ") = ps at *
    by_cases hl : ps.length = 2
    · obtain ⟨a, b, rfl⟩ : ∃ a b, ps = [a, b] := by
        match ps, hl with
        | [a, b], _ => exact ⟨a, b, rfl⟩
      have ha := hle a (by simp)
      have hb := hle b (by simp)
      refine iteFo (by rw [hl]; rfl) ⟨_, rfl, p, _, 0, _, rfl, rfl, SqL.of hp1, rfl, a, rfl, by omega, fun H2 s2 => ⟨_, rfl, ?_⟩⟩
      have hp2 := s2 _ _ hp1
      have s02 := Same.trans s1 s2
      dsimp only at hpar
      cases hw : isWord a with
      | false =>
        refine iteT (kN ?_ _ s02)
        rw [hpar, if_neg (by rw [hw]; exact Bool.false_ne_true)]
      | true =>
        rw [if_pos hw] at hpar
        refine iteF ⟨_, rfl, p, _, 0, _, rfl, rfl, SqL.of hp2, rfl, rfl, _, rfl, p, _, 1, _, rfl, rfl, SqL.of hp2, rfl, _, b, rfl, by omega, fun hn d H3 s3 hd σ => ?_, fun k hk v H3 s3 ty => ⟨szl (by show 2 ≤ 16777216; decide), fun q hq => ?_⟩⟩
        · rw [hn] at hpar
          exact ⟨true, oB, (fun _ _ _ => kN hpar _ (Same.trans s02 s3)), (fun z => by cases z)⟩
        · rw [hk] at hpar
          have s4 := same_new (o := .tup [V.str a, v]) hq
          exact kS a k hpar q v _ (Same.trans s02 (Same.trans s3 s4)) upd_same (ty.same s4)
    · refine iteTo ?_ (iteT (kN ?_ _ s1))
      · have : ¬ ((ps.length : Int) = 2) := by omega
        simpa using this
      · rw [hpar]
        match ps, hl with
        | [], _ => rfl
        | [a], _ => rfl
        | [a, b], h => exact absurd rfl h
        | a :: b :: c :: r, _ => rfl
end
end Fp
/-! R2: set(a list of texts), sorted(such a set) -/
namespace Fp
open PySem PySem.Spec PyProof.Rows L2 PySem.Froz
def keyS : Value → Str
  | .str k _ => k
  | _ => Str.empty
/-- the payload of a set of the texts l -/
structure TxD (P : Program) (w : World) (D : SD) (l : List Str) : Prop where
  ok : TxOk P w D l
  vs : ∀ e ∈ D.1.toList, ∃ k u, e.2 = Value.str k u
  pm : (D.1.toList.map fun e => keyS e.2).Perm l
  ris : Ris D.2.2.place.toList
  led : w.params.followText "set-order" = true ∨ D.2.2.led = true
/-- the set of the texts l at a -/
def TxSet (P : Program) (w : World) (h : Heap) (a : Addr) (l : List Str) : Prop := ∃ D, h.get? a = some (sObj "set" D) ∧ TxD P w D l
section
variable {P : Program} {w : World} {A : Around} {E : Value → Shared → Prop} {s : Shared}
theorem tail_more {ep : Nat} {es1 : Array (Int × Value)} {t2 : SetTable} {wd : Bool} {l : List Str} (hv : ∀ e ∈ es1.toList, ∃ k u, e.2 = Value.str k u) (hp : (es1.toList.map fun e => keyS e.2).Perm l) (hr : Ris t2.place.toList) (hl : w.params.followText "set-order" = true ∨ t2.led = true) :
    (∀ e ∈ (tailTx ep es1 t2 wd).1.toList, ∃ k u, e.2 = Value.str k u) ∧ ((tailTx ep es1 t2 wd).1.toList.map fun e => keyS e.2).Perm l ∧ Ris (tailTx ep es1 t2 wd).2.2.place.toList ∧ (w.params.followText "set-order" = true ∨ (tailTx ep es1 t2 wd).2.2.led = true) := by
  unfold tailTx
  by_cases c : (!wd && t2.tooFull) = true
  · rw [if_pos c]
    have pm := relayAll_perm t2 es1 (SetTable.grown es1.size)
    exact ⟨fun e he => hv e (pm.mem_iff.mp he), (pm.map _).trans hp, relayAll_ris _ _ _, hl.imp id fun z => (relayAll_led t2 es1 _).trans z⟩
  · rw [if_neg c]
    exact ⟨hv, hp, hr, hl⟩
theorem txd_add {D : SD} {l : List Str} {k : Str} (u : Tok) (F : TxD P w D l) : TxD P w (addTx (hashStr w k) (.str k u) D) (k :: l) := by
  obtain ⟨es, ep, t⟩ := D
  have pm := layNew_perm t es (hashStr w k) (.str k u)
  rw [Array.toList_push] at pm
  have h2 := layNew_ris t es (hashStr w k) (.str k u) F.ris
  have h3 := layNew_led t es (hashStr w k) (.str k u)
  have hplain : ∀ t1 : SetTable, Ris t1.place.toList → (w.params.followText "set-order" = true ∨ t1.led = true) → Ris (if t1.plain = true then { t1 with plain := false } else t1).place.toList ∧ (w.params.followText "set-order" = true ∨ (if t1.plain = true then { t1 with plain := false } else t1).led = true) := fun t1 a b => by
    by_cases c : t1.plain = true
    · rw [if_pos c]; exact ⟨a, b⟩
    · rw [if_neg c]; exact ⟨a, b⟩
  have hq := hplain _ h2 (F.led.imp id fun z => h3.trans z)
  have hm := tail_more (ep := ep) (wd := (layNew t es (hashStr w k) (.str k u)).2.2.1) (l := k :: l) (fun e he => by
      rcases List.mem_append.mp (pm.mem_iff.mp he) with z | z
      · exact F.vs e z
      · exact ⟨k, u, by rw [List.mem_singleton.mp z]⟩) (by
      refine (pm.map fun e => keyS e.2).trans ?_
      rw [List.map_append]
      exact (List.perm_append_singleton _ _).trans (F.pm.cons k)) hq.1 hq.2
  exact ⟨add_ok u F.ok, hm.1, hm.2.1, hm.2.2.1, hm.2.2.2⟩
/-- a text that is in already -/
theorem add_in {a : Addr} {D : SD} {l : List Str} {k : Str} {u : Tok} {Q : Bool → Shared → Prop} (ho : s.heap.get? a = some (sObj "set" D)) (F : TxOk P w D l) (hk : k ∈ l) (hb : l.length < scanBound) (h : Q false s) : wpAny (model P w) A (setAddHashed a (.str k u) (hashStr w k)) Q E s := by
  obtain ⟨es, ep, t⟩ := D
  have dd : (sObj "set" (es, ep, t)).data = .set es ep t := rfl
  have ff : t.fits es.size = true := F.fit
  have ee : ElemsOf (strKind P w) es.toList := F.el
  have zz : es.size = l.length := F.sz
  obtain ⟨e, he, hek⟩ := (F.mem k).mp hk
  unfold setAddHashed setAddHashedIn
  refine wpAny_holding (wpAny_bind (wpAny_setState_of ho dd ff ?_))
  dsimp only
  rw [byScan_of rfl (by omega) ee]
  simp only [↓reduceIte]
  unfold setAddByScan
  refine wpAny_bind (wpAny_bind (wpAny_rule (wpAny_bind (wpAny_setScan_of (knd := strKind P w) (k := k) (is_str k u) ho dd ff ee ?_))))
  cases hr : List.findIdx? (fun e => (strKind P w).is k e.2) es.toList with
  | none =>
    have c := List.findIdx?_eq_none_iff.mp hr e he
    rw [hek] at c
    cases c
  | some j => exact wpAny_pure (wpAny_pure h)
/-- the texts told so far, each once -/
def seen : List Str → List Str
  | [] => []
  | x :: xs => if x ∈ seen xs then seen xs else x :: seen xs
theorem seen_nodup : ∀ xs : List Str, (seen xs).Nodup
  | [] => List.nodup_nil
  | x :: xs => by
    unfold seen
    by_cases h : x ∈ seen xs
    · rw [if_pos h]; exact seen_nodup xs
    · rw [if_neg h]; exact List.nodup_cons.mpr ⟨h, seen_nodup xs⟩
theorem mem_seen {y : Str} : ∀ {xs : List Str}, y ∈ seen xs ↔ y ∈ xs
  | [] => Iff.rfl
  | x :: xs => by
    unfold seen
    by_cases h : x ∈ seen xs
    · rw [if_pos h, mem_seen (xs := xs), List.mem_cons]
      exact ⟨.inr, fun z => z.elim (fun e => by rw [e]; exact mem_seen.mp h) id⟩
    · rw [if_neg h, List.mem_cons, List.mem_cons, mem_seen (xs := xs)]
theorem seen_len : ∀ xs : List Str, (seen xs).length ≤ xs.length
  | [] => Nat.le_refl _
  | x :: xs => by
    have := seen_len xs
    unfold seen
    by_cases h : x ∈ seen xs
    · rw [if_pos h, List.length_cons]; omega
    · rw [if_neg h, List.length_cons, List.length_cons]; omega
/-- the loop of set.update -/
theorem upd_txts {I : Addr} {fp wr : List Addr} {G : Array GenState → Array GenState → Prop} {n : Nat} {Pv : Nat → Value → Prop} {St : Nat → Shared → Prop} {R : Result → Shared → Prop}
    (W : WalksS P w A.in1 I fp wr G n Pv St) (S : Addr) (hSf : S ∉ fp) (ns : List Str) (hn : n = ns.length) (hb : ns.length + 1 < scanBound) (hval : ∀ i v, Pv i v → ∃ k t, ns[i]? = some k ∧ v = .str k t) :
    ∀ (k i : Nat) (s : Shared), n - i = k → i ≤ n → St i s → TxSet P w s.heap S (seen (ns.take i).reverse) →
      (∀ s', Moved (S :: wr) G s s' → TxSet P w s'.heap S (seen ns.reverse) → R (.ok (.ret .none)) s') →
      codeAny (model P w) A (.builtin "set.update.loop" ⟨[.ref S, .ref I], []⟩) R s := by
  have nw : S ∉ wr := fun h => hSf (W.sub _ h)
  have sb : ∀ b ∈ wr, b ∈ S :: wr := fun b hb => List.mem_cons_of_mem _ hb
  intro k
  induction k with
  | zero =>
    intro i s _ hi hst hX hR
    obtain rfl : i = n := by omega
    refine codeAny_builtin PyProof.Rows.F.entry_set_update_loop ?_
    rw [show ns.take i = ns from List.take_of_length_le (by omega)] at hX
    obtain ⟨D, hD, X⟩ := hX
    rw [Around.under_plainId PyProof.Rows.F.plain_set_update_loop _]
    show wpAny _ A.in1 (pyNext (.ref I) >>= _) _ _ s
    refine wpAny_bind (W.done s _ _ hst fun s' hm => ?_)
    show wpAny _ A.in1 (ret Value.none) _ _ s'
    exact wpAny_pure (hR s' (hm.mono sb) ⟨D, hm.heap S _ nw hD, X⟩)
  | succ k ih =>
    intro i s _ hi hst ⟨D, hD, X⟩ hR
    have lt : i < n := by omega
    refine codeAny_builtin PyProof.Rows.F.entry_set_update_loop ?_
    rw [Around.under_plainId PyProof.Rows.F.plain_set_update_loop _]
    show wpAny _ A.in1 (pyNext (.ref I) >>= _) _ _ s
    refine wpAny_bind (W.item i s _ _ lt hst fun v s' hP hst' hm => ?_)
    obtain ⟨z, t, hz, rfl⟩ := hval i v hP
    have hD' := hm.heap S _ nw hD
    have ez : (ns.take (i + 1)).reverse = z :: (ns.take i).reverse := by rw [List.take_add_one, hz, Option.toList_some, List.reverse_append]; rfl
    have hl : (seen (ns.take i).reverse).length + 1 < scanBound := by
      have := seen_len (ns.take i).reverse
      rw [List.length_reverse, List.length_take] at this
      omega
    -- the heap behind the add
    have key : ∀ h' : Heap, Heap.SameBut S s'.heap h' → TxSet P w h' S (seen (ns.take (i + 1)).reverse) → codeAny (model P w) A (.builtin "set.update.loop" ⟨[.ref S, .ref I], []⟩) R { s' with heap := h', toks := s'.toks + 1 } := fun h' hsb hX' =>
      ih (i + 1) _ (by omega) lt (W.frame _ s' _ _ hst' (Nat.le_succ _) fun b hb o e => by rw [hsb.2 b fun q : b = S => hSf (q ▸ hb)]; exact e) hX' fun s'' hm'' hX'' =>
        hR s'' (Moved.trans W.gtrans ((hm.mono sb).then_heap (Nat.le_succ _) fun b o hb e => by rw [hsb.2 b fun q : b = S => hb (q ▸ List.mem_cons_self)]; exact e) hm'') hX''
    show wpAny _ A.in1 (holding [Value.str z t] (setAdd S (.str z t)) >>= _) _ _ s'
    refine wpAny_bind (wpAny_holding ?_)
    unfold setAdd
    refine wpAny_holding (wpAny_bind ((strKind P w).pyHash (k := z) (is_str z t) ?_))
    show wpAny _ _ (setAddHashed S (.str z t) (hashStr w z)) _ _ _
    by_cases hin : z ∈ seen (ns.take i).reverse
    · refine add_in (s := { s' with toks := s'.toks + 1 }) hD' X.ok hin (by omega) (wpAny_pure ⟨plainId_quiet PyProof.Rows.F.plain_set_update_loop _, ?_⟩)
      refine key s'.heap (Heap.SameBut.refl S s'.heap) ⟨D, hD', ?_⟩
      rw [ez]
      unfold seen
      rw [if_pos hin]
      exact X
    · refine add_x (s := { s' with toks := s'.toks + 1 }) hD' X.ok hin hl (wpAny_pure ⟨plainId_quiet PyProof.Rows.F.plain_set_update_loop _, ?_⟩)
      refine key _ (Heap.SameBut.update s'.heap S _) ⟨_, get_upd _ hD' rfl, ?_⟩
      rw [ez]
      unfold seen
      rw [if_neg hin]
      exact txd_add t X
/-- the empty set as it is laid -/
abbrev S0 (w : World) : Obj := { cls := .type "set", dict := none, data := .set #[] 0 (.fresh 0 0 (!w.params.followText "set-order")) }
theorem txd_nil : TxD P w ((#[], 0, .fresh 0 0 (!w.params.followText "set-order")) : SD) [] where
  ok := TxOk.nil (by rfl)
  vs := fun e he => by simp at he
  pm := by simp
  ris := List.Pairwise.nil
  led := by
    show _ ∨ (!w.params.followText "set-order") = true
    cases w.params.followText "set-order" <;> simp
set_option maxRecDepth 100000 in
set_option maxHeartbeats 3200000 in
/-- set(xs), xs a list of texts -/
theorem set_txts {l : Addr} {items : Array Value} (ns : List Str) {Q : Value → Shared → Prop} (hh : A.handled = none) (hl : s.heap.IsList l items) (hit : ∀ (i : Nat) (v : Value), items[i]? = some v → ∃ (k : Str) (t : Tok), ns[i]? = some k ∧ v = Value.str k t) (hisz : items.size = ns.length) (hb : ns.length + 1 < scanBound)
    (h : ∀ (h' : Heap) (tk : Nat), TxSet P w h' s.heap.objs.size (seen ns.reverse) → (∀ b o, s.heap.get? b = some o → h'.get? b = some o) → Q (.ref s.heap.objs.size) { s with heap := h', toks := tk }) :
    wpAny (model P w) A (call (.type "set") [.ref l]) Q E s := by
  have c0 := F.called_set
  obtain ⟨c, tl, hmro⟩ := c0.mro
  have hmade := c0.made
  have hsub := c0.sub
  refine wpAny_call (codeAny_of_tree ?_)
  show wpAny _ _ (callAny (.type "set") _) _ _ _
  refine wpAny_pure ⟨Code.quiet_builtin _ (by decide +kernel), codeAny_builtin PySem.F.entry_type_call ?_⟩
  rw [Around.under_plain (weight_type_call_type "set" [.ref l] []) rfl]
  have h1 := c0.notType
  have h2 := c0.canCreate
  have hct := F.typeCall_set_1 (.ref l)
  repeat (any_goals (first | assumption | wp_step))
  refine codeAny_mono (L2.code_set_led1 (.ref l) (E := E) (Q₁ := fun obj s₁ => obj = .ref s.heap.objs.size ∧ s₁ = { s with heap := s.heap.push (S0 w) }) ⟨rfl, rfl⟩) fun r s₁ hr => ?_
  cases r with
  | error e => exact hr
  | ok fl =>
    cases fl with
    | ret obj =>
      obtain ⟨rfl, rfl⟩ := hr
      have hS : (s.heap.push (S0 w)).get? s.heap.objs.size = some (S0 w) := Heap.get?_push_size _ rfl
      have hT : Shared.TypeIs { s with heap := s.heap.push (S0 w) } (.ref s.heap.objs.size) "set" := ⟨_, hS, rfl⟩
      have hli := c0.init.lookup
      have hbi := c0.init.bind (.ref s.heap.objs.size)
      repeat (any_goals (first | assumption | wp_step))
      refine codeAny_mono (codeAny_call_builtin (R := wants (fun r s₂ => r = .none ∧ ∃ h' tk, s₂ = { s with heap := h', toks := tk } ∧ TxSet P w h' s.heap.objs.size (seen ns.reverse) ∧
          (∀ b o, s.heap.get? b = some o → h'.get? b = some o)) E) c0.init.plain F.entry_set_init (check_set_init_1 hT ?_)) fun r₂ s₂ hr₂ => ?_
      · obtain ⟨⟨ocls, odict, odata, oslots⟩, hol, hcl, nl, hdl⟩ := hl
        simp only at hcl hdl
        subst hcl; subst hdl
        have hol' : (s.heap.push (S0 w)).get? l = some { cls := .type "list", dict := odict, data := .seq items nl, slots := oslots } := Heap.get?_push_of_some _ hol
        have hsls := F.sub_list_set
        have hslf := F.sub_list_frozenset
        have hne : (Value.type "list" == Value.type "dict") = false := by decide
        have hl1 : (s.heap.push (S0 w)).IsList l items := ⟨_, hol', rfl, nl, rfl⟩
        unfold Builtin.«set.__init__» noKeywords Builtin.Frozenset.updateFrom
        generalize hPI : pyIter = PI
        wp_walk
        subst hPI
        refine wpAny_pyIter_list hl1 (wpAny_bind (wpAny_runValue ?_))
        have hlS : l < s.heap.objs.size := Heap.lt_size hol
        have hh3 : A.in1.in1.in1.handled = none := by simp [hh]
        have hneI : l ≠ (s.heap.push (S0 w)).objs.size := (Heap.size_push s.heap (S0 w)).symm ▸ Nat.ne_of_lt (Nat.lt_succ_of_lt hlS)
        have hSf : s.heap.objs.size ∉ [(s.heap.push (S0 w)).objs.size, l] := by
          rw [Heap.size_push]
          intro z
          rcases List.mem_cons.mp z with z | z
          · exact Nat.ne_of_lt (Nat.lt_succ_self _) z
          · exact Nat.ne_of_gt hlS (List.mem_singleton.mp z)
        refine upd_txts ((Walks.list hh3 _ l hneI items).toS) s.heap.objs.size hSf ns hisz hb hit (items.size - 0) 0 _ (by omega) (Nat.zero_le _)
          ⟨⟨_, Heap.get?_push_size _ rfl, rfl, rfl⟩, (hl1.push _)⟩ ?_ ?_
        · have hS' : (s.heap.push (S0 w)).get? s.heap.objs.size = some (sObj "set" (#[], 0, .fresh 0 0 (!w.params.followText "set-order"))) := hS
          refine ⟨_, Heap.get?_push_of_some _ hS', ?_⟩
          rw [List.take_zero]
          exact txd_nil
        · intro s' hm hX
          obtain ⟨h', g2, d', tk', os'⟩ := s'
          have eg : g2 = s.gens := hm.gens
          have ed : d' = s.drawn := hm.drawn
          have eo : os' = s.os := hm.os
          subst eg; subst ed; subst eo
          show wpAny _ _ _ _ _ _
          refine wpAny_pure ?_
          show wpAny _ _ (ret Value.none) _ _ _
          refine wpAny_pure ⟨rfl, h', tk', rfl, hX, fun b o e => ?_⟩
          have hb0 : b < s.heap.objs.size := Heap.lt_size e
          refine hm.heap b o ?_ (Heap.get?_push_of_some _ (Heap.get?_push_of_some _ e))
          rw [Heap.size_push]
          intro z
          rcases List.mem_cons.mp z with z | z
          · exact Nat.ne_of_lt hb0 z
          · exact Nat.ne_of_lt (Nat.lt_succ_of_lt hb0) (List.mem_singleton.mp z)
      · cases r₂ with
        | error e => exact hr₂
        | ok fl₂ =>
          cases fl₂ with
          | ret r =>
            obtain ⟨rfl, h', tk, rfl, hX, hk'⟩ := hr₂
            repeat (any_goals (first | assumption | wp_step))
            exact h _ _ hX hk'
          | _ => exact hr₂.elim
    | _ => exact hr.elim
end
end Fp
/-! R3: the rules: set(xs), sorted(s) for texts -/
namespace Fp
open PySem PySem.Spec PyProof.Rows L2 PySem.Froz
def TxO (P : Program) (w : World) (a : Addr) (l : List Str) : HO := .ext fun h => TxSet P w h a l
theorem txO_ok {P : Program} {w : World} {H : Hp} {h : Heap} {a : Addr} {l : List Str} (R : TxSet P w h a l) : ObjOk P w H h a (TxO P w a l) := by
  obtain ⟨D, hD, X⟩ := R
  exact ⟨⟨D, hD, X⟩, ⟨_, hD⟩, fun h1 h2 ⟨D', hD', X'⟩ k => ⟨D', k _ hD', X'⟩⟩
theorem vals_str_get {ys : List Str} {us : List Value} (r : Vals (ys.map V.str) us) {i : Nat} {v : Value} (e : us[i]? = some v) : ∃ (k : Str) (t : Tok), ys[i]? = some k ∧ v = Value.str k t := by
  induction ys generalizing us i with
  | nil => cases r; simp at e
  | cons y ys ih =>
    cases r with
    | cons ru rt =>
      cases i with
      | zero =>
        have e' := Option.some.inj e
        subst e'
        obtain ⟨t, rfl⟩ := ru
        exact ⟨y, t, rfl, rfl⟩
      | succ i => exact ih rt e
theorem strs_of : ∀ vs : List Value, (∀ v ∈ vs, ∃ k u, v = Value.str k u) → StrsAre vs (vs.map keyS)
  | [], _ => .nil
  | v :: vs, h => by
    obtain ⟨k, u, rfl⟩ := h v (by simp)
    exact .cons k u (strs_of vs fun x hx => h x (by simp [hx]))
section
variable {P : Program} {w : World} {A : Around} {E : Value → Shared → Prop} {s : Shared}
theorem sorted_txt {a : Addr} {l : List Str} {Q : Value → Shared → Prop} (R : TxSet P w s.heap a l) (hh : A.handled = none) (hl : l.length < scanBound)
    (hQ : ∀ s' p (out : Array Value) (c : Nat) (ns : List Str), (∀ b o, s.heap.get? b = some o → s'.heap.get? b = some o) → s'.gens = s.gens → s'.os = s.os → s.heap.objs.size ≤ p →
      s'.heap.get? p = some (seqObj "list" out c) → StrsAre out.toList ns → ns.Perm l → sortedS ns = true → Q (.ref p) s') :
    wpAny (model P w) A (call (.builtin "sorted") [.ref a]) Q E s := by
  obtain ⟨⟨es, ep, t⟩, ho, X⟩ := R
  have hsz : es.size = l.length := X.ok.sz
  refine Calls.call_function_entry kind_sorted plain_sorted entry_sorted (args_sorted1 _) ?_
  unfold Builtin.«sorted»
  refine wpAny_bind (m := checkCount "sorted" 1 1 _) (wpAny_pure (wpAny_bind (collect_set (A := A.in1) hh ⟨_, ho, rfl, rfl⟩ X.ok.fit (by show es.size < scanBound; omega) X.ris X.led fun s1 vs k1 hz g1 o1 pm => ?_)))
  have hvs : ∀ v ∈ vs, ∃ k u, v = Value.str k u := fun v hv => by
    obtain ⟨e, he, q⟩ := List.mem_map.mp (pm.mem_iff.mp hv)
    obtain ⟨k, u, h1⟩ := X.vs e he
    exact ⟨k, u, by rw [← q]; exact h1⟩
  have hS := strs_of vs hvs
  have pk : (vs.map keyS).Perm l := by
    have q := pm.map keyS
    rw [List.map_map] at q
    exact q.trans X.pm
  have hlen : vs.length = l.length := by rw [← pk.length_eq, List.length_map]
  have hL : vs.length ≤ sizeLine := by rw [hlen, sizeLine_eq]; unfold scanBound at hl; omega
  refine wpAny_bind (wpAny_newList ?_ hL)
  have hoL : (s1.heap.push (seqObj "list" vs.toArray 0)).get? s1.heap.objs.size = some (seqObj "list" vs.toArray 0) := Heap.get?_push_size _ rfl
  refine wpAny_bind (wpAny_holding (wpAny_call_entry slot_list_sort ⟨_, hoL, rfl⟩ entry_list_sort (list_sort_treeKAny strKind_oneLt hoL hS.keysOf (fun v₁ v₂ rest e => keyKind_strs (by rw [← e]; exact hS)) hL fun st' hp hs => ⟨_, rfl, ?_⟩) (args_list_sort _)))
  obtain ⟨ns, h1, h2, h3⟩ := sorted_out_str hS hp hs
  obtain ⟨c, hc⟩ := sortedHeap_at (vs := vs) (out := (arrOf st').map (·.2)) hoL
  refine wpAny_pure ⟨_, rfl, hQ _ s1.heap.objs.size _ c ns (fun b u e => ?_) g1 o1 hz hc h1 (h2.trans pk) h3⟩
  have q := k1 b u e
  have hlt := Heap.lt_size q
  show (sortedHeap (s1.heap.push (seqObj "list" vs.toArray 0)) s1.heap.objs.size vs _).get? b = some u
  rw [sortedHeap_old (Nat.ne_of_lt hlt) (by rw [size_push']; exact Nat.lt_succ_of_lt hlt)]
  exact Heap.get?_push_of_some _ q
end
section
variable {X : Cx}
def rSetTx (K : PySem.W.Frag) (P : Program) (w : World) : List V → Hp → VK → Prop := fun xs H Q => ∃ (p : Addr) (ys : List Str), xs = [.ref p] ∧ SqL K H p (ys.map V.str) ∧ ys.length ≤ 1000 ∧ ∀ a, H a = none → Q (.ref a) (upd H a (TxO P w a (seen ys.reverse)))
theorem cr_setTx (hc : X.calm = true) : CallR X (.type "set") (rSetTx X.K X.prog X.w) := by
  intro pins s σ H xs us Q I r h
  obtain ⟨p, ys, rfl, hl, hn, q⟩ := h
  rw [Vals.ref1 r]
  obtain ⟨its, rv, pl, _⟩ := I.list hl
  have hlen := rv.length
  rw [List.length_map] at hlen
  refine set_txts (P := X.prog) (w := X.w) ys (I.ok.hd hc) pl.isList (fun i v e => vals_str_get rv (by simpa using e)) (by simp [← hlen]) (by unfold scanBound; omega) fun h' tk R k => ?_
  exact ⟨.ref _, upd H s.heap.objs.size _, I.laid (t' := tk) k (Nat.le_refl _) (txO_ok R), rfl, q _ (I.hok.fresh (Nat.le_refl _))⟩
def rSortTx (P : Program) (w : World) : List V → Hp → VK → Prop := fun xs H Q => ∃ (a : Addr) (l : List Str), xs = [.ref a] ∧ H a = some (TxO P w a l) ∧ l.length ≤ 1000 ∧ ∀ (ys : List Str) (p : Addr), ys.Perm l → sortedS ys = true → H p = none → Q (.ref p) (upd H p (.lst (ys.map V.str)))
theorem cr_sortTx (hc : X.calm = true) : CallR X (.builtin "sorted") (rSortTx X.prog X.w) := by
  intro pins s σ H xs us Q I r h
  obtain ⟨a, l, rfl, ha, hl, q⟩ := h
  rw [Vals.ref1 r]
  have R : TxSet X.prog X.w s.heap a l := (I.hok a _ ha).1
  refine sorted_txt R (I.ok.hd hc) (by unfold scanBound; omega) fun s' p out c ns k g o hp hg h1 h2 h3 => ?_
  have hlen : (ns.map V.str).length ≤ sizeLine := by rw [List.length_map, h2.length_eq, sizeLine_eq]; omega
  have hn : H p = none := I.hok.fresh hp
  obtain ⟨h', g', d', t', o'⟩ := s'
  dsimp only at g o hg
  subst g o
  exact ⟨.ref p, upd H p (.lst (ns.map V.str)), I.call (ch := []) (Un.laid k hp hn) (I.hok.laid k hp ⟨hlen, out.toList, c, vals_of_strs h1, hg⟩) I.bare (fun _ z => nomatch z), rfl, q ns p h2 h3 hn⟩
end
end Fp
/-! R4: f'{o}' of an instance with its own __str__ -/
namespace Fp
open PySem PySem.Spec PyProof.Rows L2
structure StrC (P : Program) (w : World) (K : PySem.W.Frag) (mg : Str → Option Value) (base : Heap) (k : Nat) (C : Addr) (sp : Sp) : Prop where
  fmt : PySem.W.findIn K (.ref C) "__format__" = some (some (.builtin "object.__format__"))
  obj : PySem.W.mroIn K C (.type "object") = some true
  ex : ∃ (f : Addr) (fd : FuncData) (ps : List Str), PySem.W.findIn K (.ref C) "__str__" = some (some (.ref f)) ∧ PySem.W.isFn K (.ref f) = true ∧ FnOk P w K mg base CX0 k f fd ps sp ∧ Binds K fd ps []
section
variable {X : Cx} {k j : Nat} {C : Addr} {sp : Sp} {e : Expr} {te : TE} {pos : Pos}
def tFmtO (C : Addr) (sp : Sp) (te : TE) : TE := fun σ H Q => te σ H fun x H1 => ∃ a dx fs, x = .ref a ∧ H1 a = some (.ins C dx fs) ∧ sp [.ref a] H1 (fun v H2 => ∃ y : Str, v = .str y ∧ Q (.str y) H2) E0
theorem pe_fmtO (he : PE X e te) (c : StrC X.prog X.w X.K X.mg X.base k C sp) (hr : Room j X.A) (hj : k + 1 ≤ j := by decide) : PE X (.FormattedValue e (-1) none pos) (tFmtO C sp te) := by
  obtain ⟨f, fd, ps, hs, hf, F, hb⟩ := c.ex
  refine ⟨fun pins s σ H Q I h => ?_⟩
  refine wpAny_FormattedValue_plain (thn (he.run pins s σ H _ I h) fun v s1 hv => ?_)
  obtain ⟨x, H1, I1, r1, a, dx, fs, rfl, ha, hsp⟩ := hv
  cases r1
  obtain ⟨mA, J, _⟩ := ins_get I1.hok ha
  obtain ⟨od, J, _⟩ := J.look
  have rm : Room (k + 1) X.A := hr.mono hj
  have I2 := I1.tok (s1.toks + 1)
  refine PySem.W.kfo_fieldS rm.in1.units0 I1.kIn J c.fmt c.obj hs hf (wpAny_call (codeAny_mono (F.run X.A.in1 X.stack { s1 with toks := s1.toks + 1 } H1 ⟨[.ref a], []⟩ [.ref a] [.ref a] _ E0 rm.in1 I2.env0.in1 (by
    have hl := F.len _ _ _ _ hsp
    have q := hb { s1 with toks := s1.toks + 1 } [.ref a] I1.kIn (by simpa using hl)
    simpa using q) (.cons rfl .nil) hsp) fun r s' hq => ?_))
  cases r with
  | error e => exact False.elim hq
  | ok fl =>
    cases fl with
    | ret u =>
      obtain ⟨z, H', I', rz, y, rfl, q⟩ := I2.after hq
      obtain ⟨t, rfl⟩ := rz
      exact ⟨.str y, H', I', ⟨t, rfl⟩, q⟩
    | next => exact False.elim hq
    | brk => exact False.elim hq
    | cont => exact False.elim hq
end
end Fp
/-! W12: Library: is_parts, ascending_rows, Type.__str__ -/
namespace Fp
open PySem PySem.Spec PyProof.Rows L2 TL
/-- a dict's entries are these parts -/
inductive KvO (K : PySem.W.Frag) (CT : Addr) (H : Hp) : List (Key × V) → List (Str × Kd) → Prop
  | nil : KvO K CT H [] []
  | cons {v : V} {x : Str} {k : Kd} {kvs : List (Key × V)} {ps : List (Str × Kd)} (h : TyO K CT H v k) (t : KvO K CT H kvs ps) : KvO K CT H ((.inr x, v) :: kvs) ((x, k) :: ps)
theorem KvO.sameL {K : PySem.W.Frag} {CT : Addr} {H H' : Hp} (e : SameL H H') : ∀ {kvs : List (Key × V)} {ps : List (Str × Kd)}, KvO K CT H kvs ps → KvO K CT H' kvs ps
  | _, _, .nil => .nil
  | _, _, .cons h t => .cons (TyO.sameL e h) (KvO.sameL e t)
theorem KvO.same {K : PySem.W.Frag} {CT : Addr} {H H' : Hp} (e : Same H H') {kvs : List (Key × V)} {ps : List (Str × Kd)} (h : KvO K CT H kvs ps) : KvO K CT H' kvs ps := h.sameL (sL e)
theorem KvO.length {K : PySem.W.Frag} {CT : Addr} {H : Hp} : ∀ {kvs : List (Key × V)} {ps : List (Str × Kd)}, KvO K CT H kvs ps → kvs.length = ps.length
  | _, _, .nil => rfl
  | _, _, .cons h t => by rw [List.length_cons, List.length_cons, t.length]
theorem KvO.get {K : PySem.W.Frag} {CT : Addr} {H : Hp} : ∀ {kvs : List (Key × V)} {ps : List (Str × Kd)} {i : Nat} {c : Key} {v : V}, KvO K CT H kvs ps → kvs[i]? = some (c, v) → ∃ x k, ps[i]? = some (x, k) ∧ c = .inr x ∧ TyO K CT H v k
  | _, _, 0, c, v, .cons h t, e => by
    have e' := Option.some.inj e
    cases e'
    exact ⟨_, _, rfl, rfl, h⟩
  | _, _, i + 1, c, v, .cons h t, e => t.get (i := i) e
theorem KvO.snoc {K : PySem.W.Frag} {CT : Addr} {H : Hp} : ∀ {kvs : List (Key × V)} {ps : List (Str × Kd)} {x : Str} {v : V} {k : Kd}, KvO K CT H kvs ps → TyO K CT H v k → KvO K CT H (kvs ++ [(.inr x, v)]) (ps ++ [(x, k)])
  | _, _, _, _, _, .nil, h => .cons h .nil
  | _, _, _, _, _, .cons h t, h2 => .cons h (t.snoc h2)
theorem KvO.keys {K : PySem.W.Frag} {CT : Addr} {H : Hp} : ∀ {kvs : List (Key × V)} {ps : List (Str × Kd)}, KvO K CT H kvs ps → kvs.map (fun kv => kV kv.1) = (ps.map Prod.fst).map V.str
  | _, _, .nil => rfl
  | _, _, .cons h t => by rw [List.map_cons, List.map_cons, List.map_cons, t.keys]; rfl
/-- behind the walk the dict stands again -/
theorem lock_back {H H' : Hp} {d : Addr} {od : Obj} {u : HO} (hd : H d = some u) (s : Same (upd H d (.frz od u)) H') : Same H (upd H' d u) := fun b o e => by
  by_cases z : b = d
  · rw [z, hd] at e
    rw [z, upd_same]
    exact e
  · rw [upd_ne z]
    exact s b o (by rw [upd_ne z]; exact e)
section
variable {P : Program} {w : World} {K : PySem.W.Frag} {mg : Str → Option Value} {base : Heap}
/-! ### Type.__str__ -/
abbrev s_Type_str : Stmt := inClass (top 30) 20
abbrev N_Type_str : List Str := ["self"]
theorem sc_Type_str : FnScope N_Type_str ["self"] (defScope s_Type_str) := ⟨rfl, rfl, rfl, by decide +kernel, rfl, by decide +kernel, by decide +kernel⟩
def sp_Type_str (K : PySem.W.Frag) (CT : Addr) : Sp := fun vs H Q _ => ∃ v k, vs = [v] ∧ TyO K CT H v k ∧ Q (.str (txt k)) H
theorem ok_Type_str {CT f : Addr} {fd : FuncData} (F : Fun K "__str__" "Type.__str__" s_Type_str f fd) (N : Nm mg) (T : Tyf K mg CT) : FnOk P w K mg base CX0 1 f fd ["self"] (sp_Type_str K CT) := by
  refine F.ok sc_Type_str (fun vs H Q E h => ?_) (fun cdv A outer s H vs Q E hr h => ?_)
  · obtain ⟨v, k, rfl, _⟩ := h
    rfl
  · obtain ⟨v, k, rfl, ty, kk⟩ := h
    refine ⟨_, (pss_one (ps_ret (pe_callTy SkE.call_str_str (by rfl) N.str (by decide +kernel) (pa_cons (pe_fld (pv 0) rfl) pa_nil)))), ?_⟩
    obtain ⟨a, dx, b, q, us, rfl, ha, _⟩ := ty.un
    exact ⟨_, rfl, a, CT, dx, _, _, rfl, ha, T.cl, T.text, tyF_text _ _ _ _, _, rfl, kk⟩
/-! ### is_parts -/
abbrev s_is_parts : Stmt := top 37
abbrev N_is_parts : List Str := ["value", "wanted", "name"]
theorem sc_is_parts : FnScope N_is_parts ["value"] (defScope s_is_parts) := ⟨rfl, rfl, rfl, by decide +kernel, rfl, by decide +kernel, by decide +kernel⟩
def sp_is_parts (K : PySem.W.Frag) (CT : Addr) : Sp := fun vs H Q _ => ∃ d kvs ps, vs = [.ref d] ∧ H d = some (.dK kvs) ∧ KvO K CT H kvs ps ∧ (∀ p ∈ ps, isWord p.1 = true) ∧ ps.length ≤ 100000 ∧ ∀ H', Same H H' → Q (.bl (decide (ps.length ≤ 8))) H'
theorem ok_is_parts {CT f : Addr} {fd : FuncData} (F : Fun K "is_parts" "is_parts" s_is_parts f fd) (N : Nm mg) (T : Tyf K mg CT) (c_is_word : Cal P w K mg base CX0 1 "is_word" sp_is_word) : FnOk P w K mg base CX0 2 f fd ["value"] (sp_is_parts K CT) := by
  refine F.ok sc_is_parts (fun vs H Q E h => ?_) (fun cdv A outer s H vs Q E hr h => ?_)
  · obtain ⟨d, kvs, ps, rfl, _⟩ := h
    rfl
  · obtain ⟨d, kvs, ps, rfl, hd, hkv, hw, hn, k⟩ := h
    refine ⟨_, (pss_cons (ps_if (PW.pt (pw_or (pt_not (pt_val (pe_callB call_isi (by rfl) N.isi (by decide +kernel) (pa_cons (pv 0) (pa_cons (pe_bltn (v := .ty "dict") (by rfl) N.dict (by decide +kernel) rfl) pa_nil))))) (pw_or (pt_cmpR op_gt (pe_callB call_lenD (by rfl) N.len (by decide +kernel) (pa_cons (pv 0) pa_nil)) (pe_gv N.MAX_PARTS) (nomark _)) (pw_or1 (pt_not (pt_val (pe_callB (cr_all rfl) (by rfl) N.all (by decide +kernel) (pa_cons (pe_lock (pe_lc (own := [("name", 2)]) (g := gName 2) (tt := tYes) rfl sc_is_parts.nd (pi_keys (pv 0)) (blkOk_by (N := N_is_parts) (sc := defScope s_is_parts) (by decide +kernel)) (fun _ _ _ _ _ => pg_name (i := 2) sc_is_parts.nd rfl (Or.inl rfl)) (fun _ _ _ _ _ => pts_nil) (fun _ _ _ _ _ => (pe_c c_is_word hr (ha := (pa_cons (pv 2) pa_nil)))))) pa_nil)))))))) (pss_one (ps_ret pe_bl)) pss_nil)
      (pss_one (ps_ret (pe_callB (cr_all rfl) (by rfl) N.all (by decide +kernel) (pa_cons (pe_lock (pe_lc (own := [("wanted", 1)]) (g := gName 1) (tt := tYes) (te := tCB (fun xs H Q => ∃ a dx fs, xs = [.ref a, .ref CT] ∧ H a = some (.ins CT dx fs) ∧ Q (.bl true) H) (tCons (tVar 1) (tCons (tC (.ref CT)) tNil))) rfl sc_is_parts.nd (pi_values (pv 0)) (blkOk_by (N := N_is_parts) (sc := defScope s_is_parts) (by decide +kernel)) (fun _ _ _ _ _ => pg_name (i := 1) sc_is_parts.nd rfl (Or.inl rfl)) (fun _ _ _ _ _ => pts_nil) (fun _ _ _ _ _ => (pe_callB (C8.call_isC T.insC) (by rfl) N.isi (by decide +kernel) (pa_cons (pv 1) (pa_cons (pe_gv T.g) pa_nil)))))) pa_nil))))), ?_⟩
    have hlen := hkv.length
    refine ⟨_, rfl, _, _, _, _, true, rfl, .ty "dict", .base (.dK hd), kit_ty (by decide +kernel), _, rfl, iteF ?_⟩
    refine ⟨_, rfl, d, kvs, rfl, hd, _, _, rfl, rfl, _, rfl, ite2 (fun h1 => iteT ?_) (fun h1 => ?_)⟩
    · rw [decide_eq_true_eq] at h1
      rw [decide_eq_false (by omega)] at k
      exact k _ (Same.refl _)
    rw [decide_eq_true_eq] at h1
    rw [decide_eq_true (by omega)] at k
    refine ⟨d, _, hd, True.intro, fun od => ?_⟩
    have sl : SameL H (upd H d (.frz od (.dK kvs))) := sameL_upd hd rfl
    have hd1 : (upd H d (.frz od (.dK kvs))) d = some (.frz od (.dK kvs)) := upd_same
    refine ⟨_, rfl, d, od, rfl, .inl ⟨kvs, hd1, fun D hD => ?_⟩⟩
    have nDd : d ≠ D := ne_of_none hd1 hD
    refine lc_each walk_keys hD (by omega) (fun H2 s2 => s2 _ _ hd1) (fun i y _ => ∃ p, ps[i]? = some p ∧ y = .bl true) (fun i y H2 H3 l _ _ r => r) (fun i z H2 H3 hi s2 hl2 y Qy hy => ?_) (fun H2 acc s2 hacc hla hr2 => ?_)
    · obtain ⟨rfl, c, v, hc, rfl⟩ := y
      obtain ⟨x, k1, hx, rfl, ty⟩ := hkv.get hc
      have hwx := hw _ (List.mem_of_getElem? hx)
      have h8 : x.length ≤ 16777216 := by
        have := hwx
        unfold isWord wordB at this
        simp only [Bool.and_eq_true, decide_eq_true_eq] at this
        rw [len_tl]
        omega
      refine ⟨rfl, _, rfl, x, rfl, h8, fun H4 s4 => ?_⟩
      rw [hwx]
      exact hy _ _ s4 ⟨_, hx, rfl⟩
    have e : acc = (ps.map fun _ => true).map V.bl := by
      rw [List.map_map]
      exact eq_map_of (by rw [hla, hlen]) fun i y e => by
        obtain ⟨k1, h1, h2⟩ := hr2 i y e
        exact ⟨k1, h1, h2⟩
    have sb := lock_back hd s2
    refine ⟨s2 _ _ hd1, D, _, rfl, SqL.of (by rw [upd_ne nDd.symm, hacc, e]), _, rfl, ?_⟩
    rw [show ((ps.map fun _ => true).all id) = true by simp]
    refine ?_
    have hdb := sb _ _ hd
    generalize (upd H2 d (.dK kvs)) = H3 at *
    refine ⟨d, _, hdb, True.intro, fun od2 => ?_⟩
    have sl3 : SameL H (upd H3 d (.frz od2 (.dK kvs))) := SameL.trans (Fp.sL sb) (sameL_upd hdb rfl)
    have hd3 : (upd H3 d (.frz od2 (.dK kvs))) d = some (.frz od2 (.dK kvs)) := upd_same
    refine ⟨_, rfl, d, od2, kvs, rfl, hd3, fun D3 hD3 => ?_⟩
    have nD3 : d ≠ D3 := ne_of_none hd3 hD3
    refine lc_each walk_values hD3 (by omega) (fun H4 s4 => s4 _ _ hd3) (fun i y _ => ∃ p, ps[i]? = some p ∧ y = .bl true) (fun i y H2 H3 l _ _ r => r) (fun i z H4 H5 hi s4 hl4 y Qy hy => ?_) (fun H4 acc4 s4 hacc4 hla4 hr4 => ?_)
    · obtain ⟨rfl, c, hc⟩ := y
      obtain ⟨x, k1, hx, rfl, ty⟩ := hkv.get hc
      obtain ⟨a, dx1, b1, q1, us1, rfl, ha, _⟩ := (ty.sameL (SameL.trans sl3 (Fp.sL s4))).un
      exact ⟨rfl, _, rfl, a, dx1, _, rfl, ha, hy _ _ (Same.refl _) ⟨_, hx, rfl⟩⟩
    have e4 : acc4 = (ps.map fun _ => true).map V.bl := by
      rw [List.map_map]
      exact eq_map_of (by rw [hla4, hlen]) fun i y e => by
        obtain ⟨k1, h1, h2⟩ := hr4 i y e
        exact ⟨k1, h1, h2⟩
    refine ⟨s4 _ _ hd3, D3, _, rfl, SqL.of (by rw [upd_ne nD3.symm, hacc4, e4]), ?_⟩
    rw [show ((ps.map fun _ => true).all id) = true by simp]
    exact k _ (Same.trans sb (lock_back hdb s4))
end
end Fp
/-! W13: ascending_rows -/
namespace Fp
open PySem PySem.Spec PyProof.Rows L2 TL
/-- the kind that stands for the name x -/
def kOf {α : Type} (ps : List (Str × α)) (x : Str) : Option α := (ps.find? fun p => decide (p.1 = x)).map Prod.snd
theorem kOf_nil {α : Type} (x : Str) : kOf ([] : List (Str × α)) x = none := rfl
theorem kOf_pos {α : Type} {p : Str × α} {ps : List (Str × α)} {x : Str} (h : p.1 = x) : kOf (p :: ps) x = some p.2 := by
  unfold kOf
  rw [List.find?_cons_of_pos (by simpa using h)]
  rfl
theorem kOf_neg {α : Type} {p : Str × α} {ps : List (Str × α)} {x : Str} (h : ¬ p.1 = x) : kOf (p :: ps) x = kOf ps x := by
  unfold kOf
  rw [List.find?_cons_of_neg (by simpa using h)]
theorem kOf_none {α : Type} {x : Str} : ∀ {ps : List (Str × α)}, x ∉ ps.map Prod.fst → kOf ps x = none
  | [], _ => rfl
  | p :: ps, h => by
    rw [List.map_cons, List.mem_cons, not_or] at h
    rw [kOf_neg fun e => h.1 e.symm]
    exact kOf_none h.2
theorem kOf_mem {α : Type} {x : Str} {k : α} : ∀ {ps : List (Str × α)}, (ps.map Prod.fst).Nodup → (x, k) ∈ ps → kOf ps x = some k
  | p :: ps, h, m => by
    rw [List.map_cons, List.nodup_cons] at h
    rcases List.mem_cons.mp m with e | m
    · rw [kOf_pos (by rw [← e]), ← e]
    · have hx : x ∈ ps.map Prod.fst := List.mem_map.mpr ⟨(x, k), m, rfl⟩
      rw [kOf_neg fun e => h.1 (e ▸ hx)]
      exact kOf_mem h.2 m
theorem kOf_some {α : Type} {x : Str} {k : α} : ∀ {ps : List (Str × α)}, kOf ps x = some k → (x, k) ∈ ps
  | p :: ps, h => by
    by_cases e : p.1 = x
    · rw [kOf_pos e] at h
      have e2 := Option.some.inj h
      obtain ⟨p1, p2⟩ := p
      dsimp only at e e2
      subst e e2
      simp
    · rw [kOf_neg e] at h
      exact List.mem_cons_of_mem _ (kOf_some h)
theorem kvo_val {K : PySem.W.Frag} {CT : Addr} {H : Hp} (x : Str) : ∀ {kvs : List (Key × V)} {ps : List (Str × Kd)}, KvO K CT H kvs ps → (valV kvs (.inr x) = none ∧ kOf ps x = none) ∨ ∃ v k, valV kvs (.inr x) = some v ∧ kOf ps x = some k ∧ TyO K CT H v k
  | _, _, .nil => .inl ⟨rfl, rfl⟩
  | _, _, .cons (x := y) (v := v) (k := k) (kvs := kvs) (ps := ps) h t => by
    by_cases e : y = x
    · exact .inr ⟨v, k, valV_pos (p := (Sum.inr y, v)) (by rw [e]), kOf_pos (p := (y, k)) e, h⟩
    · have e2 : ¬ (Sum.inr y : Key) = .inr x := fun z => e (Sum.inr.inj z)
      rw [valV_neg (p := (Sum.inr y, v)) e2, kOf_neg (p := (y, k)) e]
      exact kvo_val x t
/-- the parts in another order of their names -/
def byNames (ps : List (Str × Kd)) (ys : List Str) : List (Str × Kd) := ys.map fun y => (y, (kOf ps y).getD (.mk [] Str.empty))
theorem byNames_fst (ps : List (Str × Kd)) (ys : List Str) : (byNames ps ys).map Prod.fst = ys := by
  unfold byNames
  rw [List.map_map]
  exact List.map_id ys
theorem byNames_perm {ps : List (Str × Kd)} {ys : List Str} (hn : (ps.map Prod.fst).Nodup) (h : ys.Perm (ps.map Prod.fst)) : (byNames ps ys).Perm ps := by
  refine (h.map _).trans ?_
  rw [List.map_map]
  have e : ps.map ((fun y => (y, (kOf ps y).getD (.mk [] Str.empty))) ∘ Prod.fst) = ps.map id := List.map_congr_left fun p hp => by
    show (p.1, (kOf ps p.1).getD _) = p
    rw [kOf_mem hn (show (p.1, p.2) ∈ ps from hp)]
    rfl
  rw [e, List.map_id]
section
variable {P : Program} {w : World} {K : PySem.W.Frag} {mg : Str → Option Value} {base : Heap}
abbrev s_ascending_rows : Stmt := top 9
abbrev N_ascending_rows : List Str := ["rows", "word"]
theorem sc_ascending_rows : FnScope N_ascending_rows ["rows"] (defScope s_ascending_rows) := ⟨rfl, rfl, rfl, by decide +kernel, rfl, by decide +kernel, by decide +kernel⟩
def sp_ascending_rows (K : PySem.W.Frag) (CT : Addr) : Sp := fun vs H Q _ => ∃ d kvs ps, vs = [.ref d] ∧ H d = some (.dK kvs) ∧ KvO K CT H kvs ps ∧ (ps.map Prod.fst).Nodup ∧ ps.length < 64 ∧
  ∀ e kvs' ps' H', Same H H' → H e = none → H' e = some (.dK kvs') → KvO K CT H' kvs' ps' → ps'.Perm ps → sortedS (ps'.map Prod.fst) = true → Q (.ref e) H'
theorem ok_ascending_rows {CT f : Addr} {fd : FuncData} (F : Fun K "ascending_rows" "ascending_rows" s_ascending_rows f fd) (N : Nm mg) : FnOk P w K mg base CX0 1 f fd ["rows"] (sp_ascending_rows K CT) := by
  refine F.ok sc_ascending_rows (fun vs H Q E h => ?_) (fun cdv A outer s H vs Q E hr h => ?_)
  · obtain ⟨d, kvs, ps, rfl, _⟩ := h
    rfl
  · obtain ⟨d, kvs, ps, rfl, hd, hkv, hnd, h64, k⟩ := h
    refine ⟨_, (pss_one (ps_ret (pe_dc (own := [("word", 1)]) (g := gName 1) (tt := tYes) rfl sc_ascending_rows.nd (pi_list (pe_callB cr_sortedS (by rfl) N.sorted (by decide +kernel) (pa_cons (pe_callTy (call_listD rfl) (by rfl) N.list (by decide +kernel) (pa_cons (pv 0) pa_nil)) pa_nil))) (blkOk_by (N := N_ascending_rows) (sc := defScope s_ascending_rows) (by decide +kernel)) (fun _ _ _ _ _ => pg_name (i := 1) sc_ascending_rows.nd rfl (Or.inl rfl)) (fun _ _ _ _ _ => pts_nil) (fun _ _ _ _ _ => (pv 1)) (fun _ _ _ _ _ => (pe_dget (hu_of hr) (pv 0) (pv 1) (fun _ _ => rfl)))))), ?_⟩
    refine ⟨_, rfl, d, kvs, rfl, .inl hd, fun p hp => ?_⟩
    rw [hkv.keys]
    have s1 := same_new (o := .lst ((ps.map Prod.fst).map V.str)) hp
    refine ⟨p, ps.map Prod.fst, rfl, SqL.of upd_same, by rw [List.length_map]; exact h64, fun ys q hperm hsort hq => ?_⟩
    have s2 := Same.trans s1 (same_new (o := .lst (ys.map V.str)) hq)
    have hq2 : (upd (upd H p (.lst ((ps.map Prod.fst).map V.str))) q (.lst (ys.map V.str))) q = some (.lst (ys.map V.str)) := upd_same
    generalize (upd (upd H p (.lst ((ps.map Prod.fst).map V.str))) q (.lst (ys.map V.str))) = H2 at *
    have hyl : ys.length = ps.length := by rw [hperm.length_eq, List.length_map]
    have hyn : ys.Nodup := hperm.nodup_iff.mpr hnd
    refine ⟨q, rfl, ⟨_, SqL.of hq2⟩, fun D hD => ?_⟩
    have wl : Walk (Itl K q) (ys.map V.str).length (fun H => SqL K H q (ys.map V.str)) (YAt (ys.map V.str)) := walk_list
    have hyl2 : (ys.map V.str).length = ys.length := List.length_map ..
    refine ⟨fun i m H => m = ys.length - i ∧ i ≤ ys.length ∧ Same H2 H ∧ ∃ acc, H D = some (.dK acc) ∧ KvO K CT H acc (byNames ps (ys.take i)), ⟨_, rfl, Nat.zero_le _, same_new hD, [], upd_same, .nil⟩, ?_⟩
    rintro i m H3 ⟨rfl, hi, s3, acc, hacc, hka⟩
    have hq3 := s3 _ _ hq2
    by_cases hlt : i < ys.length
    · refine .inr ⟨wl.goes i H3 (by omega) (SqL.of hq3), fun H' => i + 1 ≤ ys.length ∧ Same H2 H' ∧ ∃ acc, H' D = some (.dK acc) ∧ KvO K CT H' acc (byNames ps (ys.take (i + 1))), fun H' h' => ⟨ys.length - (i + 1), by omega, rfl, h'.1, h'.2.1, h'.2.2⟩, fun z H' yd => ?_⟩
      obtain ⟨rfl, hz⟩ := wl.yields i H3 z H' (by omega) (SqL.of hq3) yd
      rw [List.getElem?_map] at hz
      obtain ⟨y, hy, rfl⟩ := Option.map_eq_some_iff.mp hz
      have hym : y ∈ ps.map Prod.fst := hperm.mem_iff.mp (List.mem_of_getElem? hy)
      obtain ⟨⟨y1, k1⟩, hk1, e1⟩ := List.mem_map.mp hym
      rw [show y1 = y from e1] at hk1
      have hko := kOf_mem hnd hk1
      have etk : ys.take (i + 1) = ys.take i ++ [y] := by
        rw [List.take_add_one, hy]
        rfl
      have hnew : y ∉ ys.take i := fun z => by
        have h2 : (ys.take (i + 1)).Nodup := (List.take_sublist _ _).nodup hyn
        rw [etk, List.nodup_append] at h2
        exact h2.2.2 _ z _ (by simp) rfl
      obtain ⟨v, hv, ty⟩ : ∃ v, valV kvs (.inr y) = some v ∧ TyO K CT H v k1 := by
        rcases kvo_val y hkv with ⟨_, z⟩ | ⟨v, k2, h1, h2, h3⟩
        · rw [hko] at z; cases z
        · rw [hko] at h2
          cases h2
          exact ⟨v, h1, h3⟩
      have hd3 := s3 _ _ (s2 _ _ hd)
      refine ⟨rfl, _, rfl, _, rfl, _, rfl, d, v, rfl, by rw [← hv]; exact DGet.k (k := .inr y) hd3, acc, .inr y, rfl, hacc, szlt (by rw [hka.length]; unfold byNames; rw [List.length_map, List.length_take]; omega), by omega, same_put s3 hD, _, upd_same, ?_⟩
      have hno : valV acc (.inr y) = none := by
        rcases kvo_val y hka with ⟨z, _⟩ | ⟨v, k2, _, h2, _⟩
        · exact z
        · have := kOf_none (α := Kd) (x := y) (ps := byNames ps (ys.take i)) (by rw [byNames_fst]; exact hnew)
          rw [this] at h2
          cases h2
      have eb : byNames ps (ys.take (i + 1)) = byNames ps (ys.take i) ++ [(y, k1)] := by
        rw [etk]
        unfold byNames
        rw [List.map_append, List.map_cons, hko]
        rfl
      rw [putK_new v hno, eb]
      have sl := sameL_upd (o := HO.dK (acc ++ [(Sum.inr y, v)])) hacc rfl
      exact (hka.sameL sl).snoc ((ty.same (Same.trans s2 s3)).sameL sl)
    · refine .inl ⟨?_, ?_⟩
      · have : i = (ys.map V.str).length := by omega
        rw [this]
        exact wl.stops H3 (SqL.of hq3)
      · rw [List.take_of_length_le (by omega)] at hka
        have hDn : H D = none := Same.free s2 hD
        exact k D acc _ H3 (Same.trans s2 s3) hDn hacc hka (byNames_perm hnd hperm) (by rw [byNames_fst]; exact hsort)
end
end Fp
/-! W14: Library.__init__ -/
namespace Fp
open PySem PySem.Spec PyProof.Rows L2 TL
/-- the line of a part -/
def lineOf (p : Str × Kd) : Str := Str.empty ++ p.1 ++ Str.ofString " : " ++ txt p.2
/-- a library with these lines -/
def LibO (K : PySem.W.Frag) (CL : Addr) (H : Hp) (v : V) (ls : List Str) : Prop := ∃ a dx fs ln, v = .ref a ∧ H a = some (.ins CL dx fs) ∧ fs.lookup ("own_lines" : Str) = some (.ref ln) ∧ SqT K H ln (ls.map V.str)
theorem LibO.sameL {K : PySem.W.Frag} {CL : Addr} {H H' : Hp} {v : V} {ls : List Str} (s : SameL H H') (h : LibO K CL H v ls) : LibO K CL H' v ls := by
  obtain ⟨a, dx, fs, ln, h1, h2, h3, h4⟩ := h
  exact ⟨a, dx, fs, ln, h1, s _ _ rfl h2, h3, SqT.sameL s h4⟩
/-- what is written at an instance that is no kind leaves the kinds -/
theorem SqT.off {K : PySem.W.Frag} {H : Hp} {o C dx : Addr} {fs : List (Str × V)} {u : HO} (ho : H o = some (.ins C dx fs)) {a : Addr} {xs : List V} (h : SqT K H a xs) : SqT K (upd H o u) a xs := by
  rcases h with (h | ⟨q, h⟩) | h
  · exact .inl (.inl (by rw [upd_ne (ne_of h ho (by intro z; cases z))]; exact h))
  · exact .inl (.inr ⟨q, by rw [upd_ne (ne_of h ho (by intro z; cases z))]; exact h⟩)
  · exact .inr h
mutual
theorem TyO.off {K : PySem.W.Frag} {CT : Addr} {H : Hp} {o C dx : Addr} {fs : List (Str × V)} {u : HO} (ho : H o = some (.ins C dx fs)) (hn : fs.lookup ("own_args" : Str) = none) : ∀ {v : V} {k : Kd}, TyO K CT H v k → TyO K CT (upd H o u) v k
  | _, _, .mk h ha t hp => .mk (by
      rw [upd_ne fun z => ?_]
      · exact h
      · rw [z, ho] at h
        have e := Option.some.inj h
        injection e with _ _ e3
        rw [e3, tyF_args] at hn
        cases hn) (SqT.off ho ha) (TyOs.off ho hn t) (SqT.off ho hp)
theorem TyOs.off {K : PySem.W.Frag} {CT : Addr} {H : Hp} {o C dx : Addr} {fs : List (Str × V)} {u : HO} (ho : H o = some (.ins C dx fs)) (hn : fs.lookup ("own_args" : Str) = none) : ∀ {vs : List V} {ks : List Kd}, TyOs K CT H vs ks → TyOs K CT (upd H o u) vs ks
  | _, _, .nil => .nil
  | _, _, .cons h t => .cons (TyO.off ho hn h) (TyOs.off ho hn t)
end
theorem KvO.off {K : PySem.W.Frag} {CT : Addr} {H : Hp} {o C dx : Addr} {fs : List (Str × V)} {u : HO} (ho : H o = some (.ins C dx fs)) (hn : fs.lookup ("own_args" : Str) = none) : ∀ {kvs : List (Key × V)} {ps : List (Str × Kd)}, KvO K CT H kvs ps → KvO K CT (upd H o u) kvs ps
  | _, _, .nil => .nil
  | _, _, .cons h t => .cons (TyO.off ho hn h) (KvO.off ho hn t)
structure Lbf (K : PySem.W.Frag) (mg : Str → Option Value) (C : Addr) : Prop where
  cl : L2.Cls K C
  parts : NoAttr K C "own_parts"
  names : NoAttr K C "own_names"
  lines : NoAttr K C "own_lines"
  scope : NoAttr K C "own_scope"
  insC : C8.InsC K C
  g : Gv mg "Library" (.ref C)
section
variable {P : Program} {w : World} {K : PySem.W.Frag} {mg : Str → Option Value} {base : Heap}
abbrev s_Library_init : Stmt := inClass (top 39) 0
abbrev N_Library_init : List Str := ["self", "parts", "told", "name", "wanted"]
theorem sc_Library_init : FnScope N_Library_init ["self", "parts"] (defScope s_Library_init) := ⟨rfl, rfl, rfl, by decide +kernel, rfl, by decide +kernel, by decide +kernel⟩
/-- parts as they may be handed in -/
def PartsIn (K : PySem.W.Frag) (CT : Addr) (H : Hp) (v : V) (ps : List (Str × Kd)) : Prop := (v = .non ∧ ps = []) ∨ ∃ d kvs, v = .ref d ∧ H d = some (.dK kvs) ∧ KvO K CT H kvs ps
def PartsOk (ps : List (Str × Kd)) : Prop := (∀ p ∈ ps, isWord p.1 = true) ∧ (ps.map Prod.fst).Nodup ∧ ps.length ≤ 100000 ∧ ∀ p ∈ ps, wds p.2 = true ∧ plc p.2 ≤ 1000
def sp_Library_init (K : PySem.W.Frag) (CT CL CIL : Addr) : Sp := fun vs H Q E => ∃ (H0 : Hp) (o dx : Addr) (v : V) (ps : List (Str × Kd)), vs = [.ref o, v] ∧ Same H0 H ∧ H0 o = none ∧ H o = some (.ins CL dx []) ∧ PartsIn K CT H0 v ps ∧ PartsOk ps ∧
  (ps.length ≤ 8 → ∀ (H' : Hp) (ps' : List (Str × Kd)), Same H0 H' → ps'.Perm ps → sortedS (ps'.map Prod.fst) = true → LibO K CL H' (.ref o) (ps'.map lineOf) → Q .non H') ∧ (8 < ps.length → ∀ H', Same H0 H' → E (.ref CIL) none H')
theorem len_colon : (Str.ofString " : ").length = 3 := by decide +kernel
theorem len_empty : Str.empty.length = 0 := by decide +kernel
theorem word_len {x : Str} (h : isWord x = true) : x.length ≤ 8 := by
  unfold isWord wordB at h
  simp only [Bool.and_eq_true, decide_eq_true_eq] at h
  rw [len_tl]
  omega
theorem ok_Library_init {CT CL CIL f : Addr} {fd : FuncData} (F : FunD K "__init__" "Library.__init__" (defArgs s_Library_init) (defBody s_Library_init) (defScope s_Library_init) [.non] [] f fd) (N : Nm mg) (T : Tyf K mg CT) (L : Lbf K mg CL) (VL : ErrF K mg "InvalidLibrary" CIL)
    (c_is_parts : Cal P w K mg base CX0 2 "is_parts" (sp_is_parts K CT)) (c_ascending_rows : Cal P w K mg base CX0 1 "ascending_rows" (sp_ascending_rows K CT)) (c_str : StrC P w K mg base 1 CT (sp_Type_str K CT)) : FnOk P w K mg base (L2.CX P w) 3 f fd ["self", "parts"] (sp_Library_init K CT CL CIL) := by
  refine F.ok (CX := L2.CX P w) sc_Library_init (fun vs H Q E h => ?_) (fun cdv A outer s H vs Q E hr h => ?_)
  · obtain ⟨H0, o, dx, v, ps, rfl, _⟩ := h
    rfl
  · obtain ⟨H0, o, dx, v, ps, rfl, s0, n0, ho, hin, ⟨hwd, hnd, hsz, hkd⟩, kQ, kE⟩ := h
    refine ⟨_, (C8.pss_cut (ps_set (i := 2) sc_Library_init.nd rfl (Or.inl rfl) (pe_ifExp (pt_cmpR op_isN (pv 1) pe_non (nomark _)) pe_dnewK (pv 1)))
      (pss_cons (ps_if (pt_not (pt_val (pe_c c_is_parts hr (ha := (pa_cons (pv 2) pa_nil))))) (pss_one (ps_raise rfl (takes_of rfl rfl rfl rfl) (pmk_own PySem.F.excBase_ValueError VL.x VL.g VL.k (raises_own VL.b VL.t) rfl))) pss_nil)
      (pss_cons (ps_fld (pv 0) (pe_c c_ascending_rows hr (ha := (pa_cons (pv 2) pa_nil))) rfl)
      (pss_cons (ps_fld (pv 0) (pe_callTy call_tuple_of (by rfl) N.tuple (by decide +kernel) (pa_cons (pe_callTy (call_listD rfl) (by rfl) N.list (by decide +kernel) (pa_cons (pe_fld (pv 0) rfl) pa_nil)) pa_nil)) rfl)
      (pss_cons (ps_fld (pv 0) (pe_callTy call_tuple_of (by rfl) N.tuple (by decide +kernel) (pa_cons (pe_lock (pe_lc (own := [("name", 3), ("wanted", 4)]) (g := gTup K 2 (gCons (gName 3) (gCons (gName 4) gNil))) (tt := tYes) rfl sc_Library_init.nd (pi_items (pe_fld (pv 0) rfl)) (blkOk_by (N := N_Library_init) (sc := defScope s_Library_init) (by decide +kernel)) (fun _ _ _ _ _ => pg_tup (by rfl) (pgs_cons (pg_name (i := 3) sc_Library_init.nd rfl (Or.inl rfl)) (pgs_cons (pg_name (i := 4) sc_Library_init.nd rfl (Or.inl rfl)) pgs_nil))) (fun _ _ _ _ _ => pts_nil) (fun _ _ _ _ _ => (pe_joined (.cons (pe_fmt (pv 3)) (.cons pe_str (.cons (pe_fmtO (pv 4) c_str hr) .nil))))))) pa_nil)) rfl)
      (pss_one (ps_fld (pv 0) (pe_callTy call_tuple_of (by rfl) N.tuple (by decide +kernel) (pa_cons (pe_callB (cr_sortTx rfl) (by rfl) N.sorted (by decide +kernel) (pa_cons (pe_callTy (cr_setTx rfl) (by rfl) N.set (by decide +kernel) (pa_cons (pe_lock (pe_lc (own := [("wanted", 4)]) (g := gName 4) (tt := tYes) (te := tFld K (tVar 4) "own_text") rfl sc_Library_init.nd (pi_values (pe_fld (pv 0) rfl)) (blkOk_by (N := N_Library_init) (sc := defScope s_Library_init) (by decide +kernel)) (fun _ _ _ _ _ => pg_name (i := 4) sc_Library_init.nd rfl (Or.inl rfl)) (fun _ _ _ _ _ => pts_nil) (fun _ _ _ _ _ => (pe_fld (pv 4) rfl)))) pa_nil)) pa_nil)) pa_nil)) rfl))))))), ?_⟩
    refine ⟨fun σ H' => ∃ d kvs, σ = [some (.ref o), some v, some (.ref d), none, none] ∧ Same H0 H' ∧ H' o = some (.ins CL dx []) ∧ H' d = some (.dK kvs) ∧ KvO K CT H' kvs ps, ?_, ?_⟩
    · rcases hin with ⟨rfl, rfl⟩ | ⟨d, kvs, rfl, hd, hkv⟩
      · exact ⟨_, rfl, rfl, _, rfl, iteTo (decide_eq_true rfl) fun p hp => ⟨p, [], rfl, Same.trans s0 (same_new hp), by rw [upd_ne (ne_of_none ho hp)]; exact ho, upd_same, .nil⟩⟩
      · exact ⟨_, rfl, rfl, _, rfl, iteFo (decide_eq_false (by intro z; cases z)) ⟨_, rfl, d, kvs, rfl, s0, ho, s0 _ _ hd, hkv.same s0⟩⟩
    rintro σ H1 ⟨d, kvs, rfl, s1, ho1, hd1, hkv1⟩
    refine ⟨_, rfl, d, kvs, ps, rfl, hd1, hkv1, hwd, hsz, fun H2 s2 => ⟨_, rfl, ?_⟩⟩
    have s02 := Same.trans s1 s2
    by_cases h8 : ps.length ≤ 8
    · rw [decide_eq_true h8]
      refine iteF ⟨_, rfl, d, kvs, ps, rfl, s2 _ _ hd1, hkv1.same s2, hnd, by omega, fun d3 kvs3 ps3 H3 s3 hd30 hd3 hkv3 hperm hsort => ?_⟩
      have kQ' := kQ h8
      have s03 := Same.trans s02 s3
      have ho3 : H3 o = some (.ins CL dx []) := s3 _ _ (s2 _ _ ho1)
      have hd3o : d3 ≠ o := ne_of hd3 ho3 (by intro z; cases z)
      refine ⟨_, rfl, o, CL, dx, _, rfl, ho3, L.cl, L.parts, (by show 0 < 1000; decide), ?_⟩
      have s4 := same_put (o := .ins CL dx (putF "own_parts" (V.ref d3) [])) s03 n0
      have hkv4 := hkv3.off (u := .ins CL dx (putF "own_parts" (V.ref d3) [])) ho3 rfl
      have ho4 : (upd H3 o (.ins CL dx (putF "own_parts" (V.ref d3) []))) o = some (.ins CL dx (putF "own_parts" (V.ref d3) [])) := upd_same
      have hd4 : (upd H3 o (.ins CL dx (putF "own_parts" (V.ref d3) []))) d3 = some (.dK kvs3) := by rw [upd_ne hd3o]; exact hd3
      generalize (upd H3 o (.ins CL dx (putF "own_parts" (V.ref d3) []))) = H4 at *
      rw [putF_nil] at *
      refine ⟨_, rfl, o, CL, dx, _, _, rfl, ho4, L.cl, L.parts, lk_eq _ _ _, d3, kvs3, rfl, .inl hd4, fun p hp => ⟨p, _, rfl, .inl ⟨SqL.of upd_same, fun l hl => ?_⟩⟩⟩
      have s45 := Same.trans (same_new (o := .lst (kvs3.map fun kv => kV kv.1)) hp) (same_new (o := .tup (kvs3.map fun kv => kV kv.1)) hl)
      have ho5 := s45 _ _ ho4
      have hd5 := s45 _ _ hd4
      have hkv5 := hkv4.same s45
      have s5 := Same.trans s4 s45
      generalize (upd (upd H4 p (.lst (kvs3.map fun kv => kV kv.1))) l (.tup (kvs3.map fun kv => kV kv.1))) = H5 at *
      refine ⟨_, rfl, o, CL, dx, _, rfl, ho5, L.cl, L.names, (by show 1 < 1000; decide), ?_⟩
      rw [putF_ne _ _ _ (by decide +kernel), putF_nil]
      have hd5o : d3 ≠ o := ne_of hd5 ho5 (by intro z; cases z)
      have hkv6 := hkv5.off (u := .ins CL dx [("own_parts", V.ref d3), ("own_names", V.ref l)]) ho5 (by rw [lk_ne _ _ (by decide +kernel)]; rfl)
      have s6 := same_put (o := .ins CL dx [("own_parts", V.ref d3), ("own_names", V.ref l)]) s5 n0
      have ho6 : (upd H5 o (.ins CL dx [("own_parts", V.ref d3), ("own_names", V.ref l)])) o = some (.ins CL dx [("own_parts", V.ref d3), ("own_names", V.ref l)]) := upd_same
      have hd6 : (upd H5 o (.ins CL dx [("own_parts", V.ref d3), ("own_names", V.ref l)])) d3 = some (.dK kvs3) := by rw [upd_ne hd5o]; exact hd5
      generalize (upd H5 o (.ins CL dx [("own_parts", V.ref d3), ("own_names", V.ref l)])) = H6 at *
      have hl3 := hkv3.length
      have hps3 : ps3.length = ps.length := hperm.length_eq
      refine ⟨d3, _, hd6, True.intro, fun od => ?_⟩
      have sl6 : SameL H6 (upd H6 d3 (.frz od (.dK kvs3))) := sameL_upd hd6 rfl
      have hd6f : (upd H6 d3 (.frz od (.dK kvs3))) d3 = some (.frz od (.dK kvs3)) := upd_same
      have ho6f : (upd H6 d3 (.frz od (.dK kvs3))) o = some (.ins CL dx [("own_parts", V.ref d3), ("own_names", V.ref l)]) := by rw [upd_ne hd5o.symm]; exact ho6
      refine ⟨_, rfl, o, CL, dx, _, _, rfl, ho6f, L.cl, L.parts, lk_eq _ _ _, d3, od, kvs3, rfl, hd6f, fun D hD => ?_⟩
      have nD : d3 ≠ D := ne_of_none hd6f hD
      refine lc_each (g := gTup K 2 (gCons (gName 3) (gCons (gName 4) gNil))) (te := fun σ H Q => tJs [tFmt (tVar 3), tC (.str (Str.ofString " : ")), tFmtO CT (sp_Type_str K CT) (tVar 4)] Str.empty σ H fun out H1 => Q (.str out) H1) walk_items hD (by omega) (fun H7 s7 => s7 _ _ hd6f) (fun i y _ => ∃ p, ps3[i]? = some p ∧ y = .str (lineOf p)) (fun i y H2 H3 l _ _ r => r) (fun i z H7 H8 hi s7 hl7 y Qy hy => ?_) (fun H7 acc7 s7 hacc7 hla7 hr7 => ?_)
      · obtain ⟨Tt, yk, yv, rfl, hT, rfl, hyk, hyv⟩ := y
        dsimp only at hyk hyv
        obtain ⟨⟨c, v⟩, hcv, rfl⟩ := Option.map_eq_some_iff.mp hyk
        rw [hcv] at hyv
        cases hyv
        obtain ⟨x, k1, hx, rfl, ty⟩ := hkv6.get hcv
        have sT := same_new (o := .tup [V.str x, v]) hT
        have hxm : (x, k1) ∈ ps := hperm.mem_iff.mp (List.mem_of_getElem? hx)
        have hx8 := word_len (hwd _ hxm)
        have hk1 := hkd _ hxm
        have htl := txt_len hk1.1
        have ty8 := (ty.sameL (SameL.trans sl6 (Fp.sL s7))).same sT
        obtain ⟨a, dx1, b1, q1, us1, rfl, ha, _⟩ := ty8.un
        refine ⟨Tt, _, rfl, SqT.of upd_same, rfl, _, _, rfl, _, _, rfl, rfl, rfl, _, rfl, .inl ⟨_, rfl, szl (by dsimp only at hx8; omega), _, rfl, szl (by rw [len_app, len_empty]; dsimp only at hx8; omega), _, rfl, szl (by rw [len_app, len_app, len_empty, len_colon]; dsimp only at hx8; omega), _, rfl, a, dx1, _, rfl, ha, _, k1, rfl, ty8, _, rfl, _, rfl, szl (by rw [len_app, len_app, len_app, len_empty, len_colon]; dsimp only at hx8 hk1 htl; omega), hy _ _ sT ⟨_, hx, rfl⟩⟩⟩
      have e7 : acc7 = (ps3.map lineOf).map V.str := by
        rw [List.map_map]
        exact eq_map_of (by rw [hla7]; omega) fun i y e => by
          obtain ⟨k1, h1, h2⟩ := hr7 i y e
          exact ⟨k1, h1, h2⟩
      have sb := lock_back hd6 s7
      refine ⟨s7 _ _ hd6f, D, _, rfl, .inl ⟨SqL.of (by rw [upd_ne nD.symm]; exact hacc7), fun ln hln => ?_⟩⟩
      have ho7 := sb _ _ ho6
      have hd7 := sb _ _ hd6
      have hkv7 := hkv6.same sb
      have s7' := Same.trans s6 sb
      generalize (upd H7 d3 (.dK kvs3)) = H7' at *
      rw [e7]
      have sln := same_new (o := .tup ((ps3.map lineOf).map V.str)) hln
      have ho8 := sln _ _ ho7
      have hd8 := sln _ _ hd7
      have hkv8 := hkv7.same sln
      have s8 := Same.trans s7' sln
      have hln8 : (upd H7' ln (.tup ((ps3.map lineOf).map V.str))) ln = some (.tup ((ps3.map lineOf).map V.str)) := upd_same
      generalize (upd H7' ln (.tup ((ps3.map lineOf).map V.str))) = H8 at *
      refine ⟨_, rfl, o, CL, dx, _, rfl, ho8, L.cl, L.lines, (by show 2 < 1000; decide), ?_⟩
      rw [putF_ne _ _ _ (by decide +kernel), putF_ne _ _ _ (by decide +kernel), putF_nil]
      have hd8o : d3 ≠ o := ne_of hd8 ho8 (by intro z; cases z)
      have hlno : ln ≠ o := ne_of hln8 ho8 (by intro z; cases z)
      have hkv9 := hkv8.off (u := .ins CL dx [("own_parts", V.ref d3), ("own_names", V.ref l), ("own_lines", V.ref ln)]) ho8 (by rw [lk_ne _ _ (by decide +kernel), lk_ne _ _ (by decide +kernel)]; rfl)
      have s9 := same_put (o := .ins CL dx [("own_parts", V.ref d3), ("own_names", V.ref l), ("own_lines", V.ref ln)]) s8 n0
      have ho9 : (upd H8 o (.ins CL dx [("own_parts", V.ref d3), ("own_names", V.ref l), ("own_lines", V.ref ln)])) o = some (.ins CL dx [("own_parts", V.ref d3), ("own_names", V.ref l), ("own_lines", V.ref ln)]) := upd_same
      have hd9 : (upd H8 o (.ins CL dx [("own_parts", V.ref d3), ("own_names", V.ref l), ("own_lines", V.ref ln)])) d3 = some (.dK kvs3) := by rw [upd_ne hd8o]; exact hd8
      have hln9 : (upd H8 o (.ins CL dx [("own_parts", V.ref d3), ("own_names", V.ref l), ("own_lines", V.ref ln)])) ln = some (.tup ((ps3.map lineOf).map V.str)) := by rw [upd_ne hlno]; exact hln8
      generalize (upd H8 o (.ins CL dx [("own_parts", V.ref d3), ("own_names", V.ref l), ("own_lines", V.ref ln)])) = H9 at *
      refine ⟨d3, _, hd9, True.intro, fun od2 => ?_⟩
      have sl9 : SameL H9 (upd H9 d3 (.frz od2 (.dK kvs3))) := sameL_upd hd9 rfl
      have hd9f : (upd H9 d3 (.frz od2 (.dK kvs3))) d3 = some (.frz od2 (.dK kvs3)) := upd_same
      have hd9o : d3 ≠ o := ne_of hd9 ho9 (by intro z; cases z)
      have ho9f : (upd H9 d3 (.frz od2 (.dK kvs3))) o = some (.ins CL dx [("own_parts", V.ref d3), ("own_names", V.ref l), ("own_lines", V.ref ln)]) := by rw [upd_ne hd9o.symm]; exact ho9
      refine ⟨_, rfl, o, CL, dx, _, _, rfl, ho9f, L.cl, L.parts, lk_eq _ _ _, d3, od2, kvs3, rfl, hd9f, fun D2 hD2 => ?_⟩
      have nD2 : d3 ≠ D2 := ne_of_none hd9f hD2
      refine lc_each (te := tFld K (tVar 4) "own_text") walk_values hD2 (by omega) (fun H10 s10 => s10 _ _ hd9f) (fun i y _ => ∃ p, ps3[i]? = some p ∧ y = .str (txt p.2)) (fun i y H2 H3 l _ _ r => r) (fun i z H10 H11 hi s10 hl10 y Qy hy => ?_) (fun H10 acc10 s10 hacc10 hla10 hr10 => ?_)
      · obtain ⟨rfl, c, hc⟩ := y
        obtain ⟨x, k1, hx, rfl, ty⟩ := hkv9.get hc
        obtain ⟨a, dx1, b1, q1, us1, rfl, ha, _⟩ := (ty.sameL (SameL.trans sl9 (Fp.sL s10))).un
        exact ⟨rfl, _, rfl, a, CT, dx1, _, _, rfl, ha, T.cl, T.text, tyF_text _ _ _ _, hy _ _ (Same.refl _) ⟨_, hx, rfl⟩⟩
      have e10 : acc10 = (ps3.map fun p => txt p.2).map V.str := by
        rw [List.map_map]
        exact eq_map_of (by rw [hla10]; omega) fun i y e => by
          obtain ⟨k1, h1, h2⟩ := hr10 i y e
          exact ⟨k1, h1, h2⟩
      have sb10 := lock_back hd9 s10
      have hD10 : (upd H10 d3 (.dK kvs3)) D2 = some (.lst ((ps3.map fun p => txt p.2).map V.str)) := by rw [upd_ne nD2.symm, hacc10, e10]
      refine ⟨s10 _ _ hd9f, D2, _, rfl, SqL.of hD10, by rw [List.length_map]; omega, fun sa hsa => ⟨sa, _, rfl, upd_same, ?_, fun ys sp hperm2 hsort2 hsp => ⟨sp, _, rfl, .inl ⟨SqL.of upd_same, fun sc hsc => ?_⟩⟩⟩⟩
      · have := seen_len (ps3.map fun p => txt p.2).reverse
        rw [List.length_reverse, List.length_map] at this
        omega
      have sfin := Same.trans sb10 (Same.trans (same_new hsa) (Same.trans (same_new hsp) (same_new (o := .tup (ys.map V.str)) hsc)))
      have hof := sfin _ _ ho9
      have hlnf := sfin _ _ hln9
      refine ⟨_, rfl, o, CL, dx, _, rfl, hof, L.cl, L.scope, (by show 3 < 1000; decide), ?_⟩
      rw [putF_ne _ _ _ (by decide +kernel), putF_ne _ _ _ (by decide +kernel), putF_ne _ _ _ (by decide +kernel), putF_nil]
      have hlnof : ln ≠ o := ne_of hlnf hof (by intro z; cases z)
      refine kQ' _ ps3 (same_put (Same.trans s9 sfin) n0) hperm hsort ⟨o, dx, _, ln, rfl, upd_same, by rw [lk_ne _ _ (by decide +kernel), lk_ne _ _ (by decide +kernel), lk_eq], SqT.of ?_⟩
      rw [upd_ne hlnof]
      exact hlnf
    · rw [decide_eq_false h8]
      exact iteT (kE (by omega) _ s02)
end
end Fp
/-! M5: numbers, scopes, questions and their texts -/
namespace Fp
open PySem TL PyProof.Rows
/-! ### numbers -/
def isDig (c : Nat) : Bool := decide (48 ≤ c) && decide (c ≤ 57)
/-- a text that number_of takes -/
def numB (l : List Nat) : Bool := decide (1 ≤ l.length) && (decide (l.length ≤ 60) && (l.all isDig && (decide (l = [48]) || !decide (l.head? = some 48))))
def numOf (x : Str) : Option Nat := if numB (tl x) = true then some (NumText.digitsVal (tl x)) else none
theorem numL_back : ∀ (n : Nat) (l : List Nat), l.length = n → l.all isDig = true → l ≠ [] → (l = [48] ∨ l.head? ≠ some 48) → numL (NumText.digitsVal l) = l
  | 0, l, h, _, hne, _ => absurd (List.length_eq_zero_iff.mp h) hne
  | n + 1, l, h, hd, hne, hz => by
    have e := List.dropLast_concat_getLast hne
    generalize l.dropLast = p at e
    generalize l.getLast hne = c at e
    subst e
    rw [List.all_append, Bool.and_eq_true] at hd
    have hc : 48 ≤ c ∧ c ≤ 57 := by
      have := hd.2
      simp only [List.all_cons, List.all_nil, Bool.and_true, isDig, Bool.and_eq_true, decide_eq_true_eq] at this
      exact this
    rw [NumText.digitsVal_snoc]
    cases p with
    | nil =>
      have e0 : NumText.digitsVal [] = 0 := rfl
      rw [e0, Nat.zero_mul, Nat.zero_add, numL_lt (by omega), List.nil_append]
      congr 1
      omega
    | cons d p =>
      have hd0 : (d :: p).head? ≠ some 48 := by
        rcases hz with hz | hz
        · simp at hz
        · simpa using hz
      have hd1 := hd.1
      have hdd : 48 ≤ d ∧ d ≤ 57 := by
        have := hd1
        simp only [List.all_cons, isDig, Bool.and_eq_true, decide_eq_true_eq] at this
        exact this.1
      have hpos : 0 < NumText.digitsVal (d :: p) := NumText.digitsVal_pos (by
        have : d ≠ 48 := by simpa using hd0
        omega)
      have ih := numL_back n (d :: p) (by rw [List.length_append, List.length_singleton] at h; omega) hd1 (by simp) (.inr hd0)
      rw [numL_step (by omega)]
      have e1 : (NumText.digitsVal (d :: p) * 10 + (c - 48)) / 10 = NumText.digitsVal (d :: p) := by omega
      have e2 : (NumText.digitsVal (d :: p) * 10 + (c - 48)) % 10 = c - 48 := by omega
      rw [e1, e2, ih]
      congr 2
      omega
theorem digitsVal_lt : ∀ (l : List Nat), l.length ≤ 60 → l.all isDig = true → NumText.digitsVal l < 10 ^ 60 := by
  intro l hl hd
  have key : ∀ (n : Nat) (l : List Nat), l.length = n → l.all isDig = true → NumText.digitsVal l < 10 ^ n := by
    intro n
    induction n with
    | zero =>
      intro l h _
      rw [List.length_eq_zero_iff.mp h]
      decide
    | succ n ih =>
      intro l h hd
      have hne : l ≠ [] := by intro z; rw [z] at h; simp at h
      have e := List.dropLast_concat_getLast hne
      generalize l.dropLast = p at e
      generalize l.getLast hne = c at e
      subst e
      rw [List.all_append, Bool.and_eq_true] at hd
      have hc := hd.2
      simp only [List.all_cons, List.all_nil, Bool.and_true, isDig, Bool.and_eq_true, decide_eq_true_eq] at hc
      have := ih p (by rw [List.length_append, List.length_singleton] at h; omega) hd.1
      rw [NumText.digitsVal_snoc, Nat.pow_succ]
      omega
  exact Nat.lt_of_lt_of_le (key _ l rfl hd) (Nat.pow_le_pow_right (by decide) hl)
theorem numOf_back {x : Str} {n : Nat} (h : numOf x = some n) : numL n = tl x ∧ n < 10 ^ 60 := by
  unfold numOf at h
  split at h
  · rename_i hb
    cases h
    unfold numB at hb
    simp only [Bool.and_eq_true, decide_eq_true_eq, Bool.or_eq_true, Bool.not_eq_true', decide_eq_false_iff_not] at hb
    obtain ⟨h1, h2, h3, h4⟩ := hb
    have e := numL_back _ (tl x) rfl h3 (by intro z; rw [z] at h1; simp at h1) h4
    refine ⟨e, ?_⟩
    exact digitsVal_lt (tl x) h2 h3
  · cases h
theorem numL_head {n : Nat} : numL n = [48] ∨ (numL n).head? ≠ some 48 := by
  induction n using Nat.strongRecOn with
  | _ n ih =>
    by_cases h : n < 10
    · rw [numL_lt h]
      by_cases z : n = 0
      · exact .inl (by rw [z])
      · refine .inr ?_
        simp
        omega
    · rw [numL_step (by omega)]
      refine .inr ?_
      have hne := numL_ne (n / 10)
      rcases ih (n / 10) (by omega) with e | e
      · have := congrArg NumText.digitsVal e
        rw [numL_val] at this
        have e0 : NumText.digitsVal [48] = 0 := rfl
        omega
      · cases hl : numL (n / 10) with
        | nil => exact absurd hl hne
        | cons a r => rw [hl] at e; simpa using e
def S2 (l : List Nat) : Str := ⟨l.toArray⟩
theorem numOf_num {n : Nat} (h : n < 10 ^ 60) : numOf (S2 (numL n)) = some n := by
  unfold numOf
  have e : tl (S2 (numL n)) = numL n := rfl
  rw [e]
  have hb : numB (numL n) = true := by
    unfold numB
    simp only [Bool.and_eq_true, decide_eq_true_eq, Bool.or_eq_true, Bool.not_eq_true', decide_eq_false_iff_not]
    refine ⟨List.length_pos_iff.mpr (numL_ne n), numL_len (by decide) h, ?_, numL_head⟩
    rw [List.all_eq_true]
    intro c hc
    have := numL_digits n c hc
    simp [isDig, this.1, this.2]
  rw [if_pos hb, numL_val]
/-! ### the order of texts -/
def ltT (x y : Str) : Bool := decide (tl x < tl y)
def adjLt : List Str → Bool
  | x :: y :: r => ltT x y && adjLt (y :: r)
  | _ => true
/-! ### scopes and questions -/
abbrev Qn := List Str × Str
def scOk (sc : List Str) : Bool := decide (sc.length ≤ 140) && (adjLt sc && sc.all fun x => (parse x).isSome)
def isQ (q : Qn) : Bool := scOk q.1 && isWord q.2
def scTxt (sc : List Str) : Str := Txt.join (Str.ofString "; ") sc
def qTxt (q : Qn) : Str := (if scTxt q.1 = Str.ofString "" then Str.ofString "" else scTxt q.1 ++ Str.ofString " ") ++ Str.ofString "|- " ++ q.2
/-- what stands in the text, before it is asked whether that is a question -/
def qRaw (x : Str) : Option Qn := if (tl x).take 3 = [124, 45, 32] then some ([], ⟨((tl x).drop 3).toArray⟩) else
  match Txt.split x (Str.ofString " |- ") with
  | [a, b] => some (Txt.split a (Str.ofString "; "), b)
  | _ => none
def qTold (x : Str) : Option Qn := match qRaw x with
  | some q => if isQ q = true then some q else none
  | none => none
end Fp
/-! W15: numbers and questions, without is_scope -/
namespace Fp
open PySem PySem.Spec PyProof.Rows L2 TL
theorem dig_mem (c : Nat) : decide (c ∈ Digits.cps.toList) = isDig c := by
  have e : Digits.cps.toList = [48, 49, 50, 51, 52, 53, 54, 55, 56, 57] := by decide +kernel
  rw [e]
  unfold isDig
  by_cases h : 48 ≤ c ∧ c ≤ 57
  · rw [decide_eq_true h.1, decide_eq_true h.2]
    obtain ⟨h1, h2⟩ := h
    have : c = 48 ∨ c = 49 ∨ c = 50 ∨ c = 51 ∨ c = 52 ∨ c = 53 ∨ c = 54 ∨ c = 55 ∨ c = 56 ∨ c = 57 := by omega
    simpa using this
  · have e2 : (decide (48 ≤ c) && decide (c ≤ 57)) = false := by
      rw [Bool.eq_false_iff]
      intro z
      simp only [Bool.and_eq_true, decide_eq_true_eq] at z
      exact h z
    rw [e2, decide_eq_false_iff_not]
    simp only [List.mem_cons, List.not_mem_nil, or_false]
    omega
theorem one_S (c : Nat) : (⟨#[c]⟩ : Str) = S [c] := rfl
theorem zero_S : Str.ofString "0" = S [48] := by decide +kernel
section
variable {P : Program} {w : World} {K : PySem.W.Frag} {mg : Str → Option Value} {base : Heap}
/-! ### number_of -/
abbrev s_number_of : Stmt := top 54
abbrev N_number_of : List Str := ["word", "sign"]
theorem sc_number_of : FnScope N_number_of ["word"] (defScope s_number_of) := ⟨rfl, rfl, rfl, by decide +kernel, rfl, by decide +kernel, by decide +kernel⟩
def sp_number_of : Sp := fun vs H Q _ => ∃ x : Str, vs = [.str x] ∧ x.length ≤ 1000000 ∧ ∀ H', Same H H' → Q (match numOf x with | some n => .int (n : Int) | none => .non) H'
theorem ok_number_of {f : Addr} {fd : FuncData} (F : Fun K "number_of" "number_of" s_number_of f fd) (N : Nm mg) : FnOk P w K mg base CX0 1 f fd ["word"] sp_number_of := by
  refine F.ok sc_number_of (fun vs H Q E h => ?_) (fun cdv A outer s H vs Q E hr h => ?_)
  · obtain ⟨x, rfl, _⟩ := h
    rfl
  · obtain ⟨x, rfl, hx, k⟩ := h
    refine ⟨_, (pss_cons (ps_if (PW.pt (pw_or (pt_not (pt_chain op_le op_le pe_int (pe_callB call_len_str (by rfl) N.len (by decide +kernel) (pa_cons (pv 0) pa_nil)) (pe_gv N.MAX_DIGITS))) (pw_or1 (pt_not (pt_val (pe_callB (cr_all rfl) (by rfl) N.all (by decide +kernel) (pa_cons (pe_lc (own := [("sign", 1)]) (g := gName 1) (tt := tYes) rfl sc_number_of.nd (pi_str (pv 0)) (blkOk_by (N := N_number_of) (sc := defScope s_number_of) (by decide +kernel)) (fun _ _ _ _ _ => pg_name (i := 1) sc_number_of.nd rfl (Or.inl rfl)) (fun _ _ _ _ _ => pts_nil) (fun _ _ _ _ _ => (pe_cmpR op_in_sign (pv 1) (pe_gv N.DIGITS) rfl))) pa_nil))))))) (pss_one (ps_ret pe_non)) pss_nil)
      (pss_one (ps_ret (pe_ifExp (PW.pt (pw_or (pt_cmpR op_eq (pv 0) pe_str (nomark _)) (pw_or1 (pt_cmpR op_ne (pe_ix ix_str (pv 0) pe_int (fun _ _ => rfl)) pe_str (nomark _))))) (pe_callTy call_int_str (by rfl) N.int (by decide +kernel) (pa_cons (pv 0) pa_nil)) pe_non)))), ?_⟩
    have no : ∀ H', Same H H' → numB (tl x) = false → Q .non H' := fun H' s1 hb => by
      have e : numOf x = none := by unfold numOf; rw [hb]; rfl
      rw [e] at k
      exact k H' s1
    have hlx := len_tl x
    refine ⟨_, rfl, x, rfl, szl (by omega), _, _, rfl, rfl, _, rfl, ?_⟩
    by_cases h1 : 1 ≤ x.length
    case neg =>
      rw [decide_eq_false (by omega)]
      refine iteF ⟨_, rfl, iteT (no _ (Same.refl _) ?_)⟩
      unfold numB
      rw [decide_eq_false (by omega)]
      rfl
    rw [decide_eq_true (by omega)]
    refine iteT ⟨_, _, rfl, rfl, _, rfl, ?_⟩
    by_cases h2 : x.length ≤ 60
    case neg =>
      rw [decide_eq_false (by omega)]
      refine iteT (no _ (Same.refl _) ?_)
      unfold numB
      rw [decide_eq_false (p := (tl x).length ≤ 60) (by omega)]
      simp
    rw [decide_eq_true (by omega)]
    refine iteF ⟨_, rfl, x, rfl, fun D hD => ?_⟩
    refine lc_each walk_str hD (by show x.length ≤ 16777216; omega) (fun _ _ => True.intro) (fun i y _ => ∃ c, x.cps[i]? = some c ∧ y = .bl (isDig c)) (fun i y H H' l _ _ r => r) (fun i z H0 H' hi s1 hl y Qy hy => ?_) (fun H0 acc s1 hacc hlen hr2 => ?_)
    · obtain ⟨rfl, c, hc, rfl⟩ := y
      refine ⟨rfl, _, rfl, c, _, rfl, rfl, ?_⟩
      rw [dig_mem]
      exact hy _ _ (Same.refl _) ⟨c, hc, rfl⟩
    have e : acc = ((tl x).map isDig).map V.bl := by
      rw [List.map_map]
      refine eq_map_of (by rw [hlen]; simp [tl]) fun i y e => ?_
      obtain ⟨c, hc, hy⟩ := hr2 i y e
      exact ⟨c, by rw [tl, Array.getElem?_toList]; exact hc, hy⟩
    refine ⟨D, (tl x).map isDig, rfl, SqL.of (by rw [hacc, e]), _, rfl, ?_⟩
    have eall : ((tl x).map isDig).all id = (tl x).all isDig := by rw [List.all_map]; rfl
    rw [eall]
    cases hall : (tl x).all isDig with
    | false =>
      refine iteT (no _ s1 ?_)
      unfold numB
      rw [hall]
      simp
    | true =>
    refine iteF ⟨_, rfl, rfl, _, rfl, ?_⟩
    have hmain : numB (tl x) = (decide (tl x = [48]) || !decide ((tl x).head? = some 48)) := by
      unfold numB
      rw [hall, decide_eq_true (p := 1 ≤ (tl x).length) (by omega), decide_eq_true (p := (tl x).length ≤ 60) (by omega)]
      simp
    have hres : numB (tl x) = true → ∀ H', Same H H' → ∃ n, intText? x = some n ∧ Q (.int n) H' := fun hb H' s2 => by
      have e2 : numOf x = some (NumText.digitsVal (tl x)) := by unfold numOf; rw [if_pos hb]
      rw [e2] at k
      refine ⟨_, intText_digits (x := x) ?_ ?_ (by omega), k H' s2⟩
      · intro c hc
        have := List.all_eq_true.mp hall c hc
        simp only [isDig, Bool.and_eq_true, decide_eq_true_eq] at this
        exact this
      · intro z
        have : (tl x).length = 0 := by rw [show tl x = x.cps.toList from rfl, z]; rfl
        omega
    rw [zero_S, show V.str x = V.str (S (tl x)) by rw [show S (tl x) = x from mk_tl x], str_dec]
    cases h0 : decide (tl x = [48]) with
    | true =>
      rw [h0] at hmain
      obtain ⟨n, hn, q⟩ := hres hmain _ s1
      exact iteT (iteT ⟨_, rfl, x, n, rfl, hn, by omega, q⟩)
    | false =>
      rw [h0, Bool.false_or] at hmain
      obtain ⟨c, r, hcr⟩ : ∃ c r, tl x = c :: r := by
        cases hl0 : tl x with
        | nil => rw [hl0] at hlx; simp at hlx; omega
        | cons c r => exact ⟨c, r, rfl⟩
      have hat : atI x.cps.toList 0 = some c := by
        rw [show x.cps.toList = c :: r from hcr]
        exact atI_nat (j := 0) rfl
      refine iteF ⟨_, rfl, x, 0, c, rfl, rfl, szl (by omega), hat, rfl, _, rfl, ?_⟩
      rw [one_S, str_dec]
      have hh : decide ((tl x).head? = some 48) = decide ([c] = [48]) := by
        rw [hcr]
        by_cases z : c = 48
        · rw [z]; rfl
        · rw [decide_eq_false (by simpa using z), decide_eq_false (by simpa using z)]
      rw [hh] at hmain
      cases hc : decide ([c] = [48]) with
      | true =>
        rw [hc] at hmain
        exact iteF (no _ s1 hmain)
      | false =>
        rw [hc] at hmain
        obtain ⟨n, hn, q⟩ := hres hmain _ s1
        exact iteT ⟨_, rfl, x, n, rfl, hn, by omega, q⟩
end
end Fp
/-! W16: questions -/
namespace Fp
open PySem PySem.Spec PyProof.Rows L2 TL
def qD (q : Qn) : PyData := .tuple [.tuple (q.1.map .str), .str q.2]
theorem noLs_str : ∀ l : List Str, noLs (l.map PyData.str) = true
  | [] => rfl
  | x :: xs => by rw [List.map_cons, noLs, noLs_str xs]; rfl
theorem noL_q (q : Qn) : noL (qD q) = true := by
  unfold qD
  rw [noL, noLs, noL, noLs_str]
  rfl
theorem dpAll_str {K : PySem.W.Frag} {H : Hp} : ∀ {vs : List V} {l : List Str}, DpAll K H vs (l.map PyData.str) → vs = l.map V.str
  | [], [], _ => rfl
  | _ :: _, _ :: _, .cons h t => by
    cases h
    rw [List.map_cons, dpAll_str t]
theorem dpAll_str' {K : PySem.W.Frag} {H : Hp} : ∀ l : List Str, DpAll K H (l.map V.str) (l.map PyData.str)
  | [] => .nil
  | x :: xs => .cons (.str x) (dpAll_str' xs)
theorem qv_un {K : PySem.W.Frag} {H : Hp} {v : V} {q : Qn} (h : Dp K H v (qD q)) : ∃ a b, v = .ref a ∧ SqT K H a [.ref b, .str q.2] ∧ SqT K H b (q.1.map V.str) := by
  unfold qD at h
  cases h with
  | tup h1 h2 =>
    cases h2 with
    | cons h3 h4 =>
      cases h4 with
      | cons h5 h6 =>
        cases h6
        cases h5
        cases h3 with
        | tup h7 h8 =>
          rw [dpAll_str h8] at h7
          exact ⟨_, _, rfl, h1, h7⟩
theorem qv_mk {K : PySem.W.Frag} {H : Hp} {a b : Addr} {q : Qn} (h1 : SqT K H a [.ref b, .str q.2]) (h2 : SqT K H b (q.1.map V.str)) : Dp K H (.ref a) (qD q) := .tup h1 (.cons (.tup h2 (dpAll_str' _)) (.cons (.str _) .nil))
theorem scOk_len {sc : List Str} (h : scOk sc = true) : sc.length ≤ 140 ∧ ∀ x ∈ sc, x.length ≤ 210 := by
  unfold scOk at h
  simp only [Bool.and_eq_true, decide_eq_true_eq] at h
  refine ⟨h.1, fun x hx => ?_⟩
  have := List.all_eq_true.mp h.2.2 x hx
  obtain ⟨k, hk⟩ := Option.isSome_iff_exists.mp this
  have h1 := parse_small hk
  have h2 := txt_len h1.1
  rw [parse_sound hk] at h2
  omega
theorem sum_le {n : Nat} : ∀ {l : List Str}, (∀ x ∈ l, x.length ≤ n) → (l.map (·.length)).sum ≤ l.length * n
  | [], _ => by simp
  | x :: xs, h => by
    have h1 := h x (by simp)
    have h2 := sum_le (l := xs) fun y hy => h y (by simp [hy])
    simp only [List.map_cons, List.sum_cons, List.length_cons, Nat.add_mul] at h2 ⊢
    omega
theorem joinL_le (S : List Nat) : ∀ ps : List (List Nat), (joinL S ps).length ≤ (ps.map List.length).sum + ps.length * S.length
  | [] => by simp [joinL]
  | [p] => by simp [joinL]
  | p :: q :: r => by
    have h := joinL_le S (q :: r)
    show (p ++ (S ++ joinL S (q :: r))).length ≤ _
    rw [List.length_append, List.length_append, List.map_cons, List.sum_cons, List.length_cons, Nat.add_mul]
    omega
theorem sc_tl : tl (Str.ofString "; ") = [59, 32] := by decide +kernel
theorem scTxt_tl (sc : List Str) : tl (scTxt sc) = joinL [59, 32] (sc.map tl) := by
  unfold scTxt
  rw [join_eq, tl_join, sc_tl]
theorem scTxt_len {sc : List Str} (h : scOk sc = true) : (scTxt sc).length ≤ 30000 := by
  obtain ⟨h1, h2⟩ := scOk_len h
  have := joinL_le [59, 32] (sc.map tl)
  rw [← scTxt_tl, ← len_tl, List.length_map, List.map_map] at this
  have e : (sc.map (List.length ∘ tl)) = sc.map (·.length) := List.map_congr_left fun x _ => (len_tl x).symm
  rw [e] at this
  have h3 := sum_le h2
  have e2 : ([59, 32] : List Nat).length = 2 := rfl
  rw [e2] at this
  have h4 : sc.length * 210 ≤ 140 * 210 := Nat.mul_le_mul_right _ h1
  omega
section
variable {P : Program} {w : World} {K : PySem.W.Frag} {mg : Str → Option Value} {base : Heap}
def sp_is_scope (K : PySem.W.Frag) : Sp := fun vs H Q _ => ∃ (b : Addr) (sc : List Str), vs = [.ref b] ∧ SqT K H b (sc.map V.str) ∧ (∀ x ∈ sc, x.length ≤ 1000000) ∧ sc.length ≤ 2000000 ∧ ∀ H', Same H H' → Q (.bl (scOk sc)) H'
/-! ### is_question -/
abbrev s_is_question : Stmt := top 48
abbrev N_is_question : List Str := ["value"]
theorem sc_is_question : FnScope N_is_question ["value"] (defScope s_is_question) := ⟨rfl, rfl, rfl, by decide +kernel, rfl, by decide +kernel, by decide +kernel⟩
def QOk (q : Qn) : Prop := (∀ x ∈ q.1, x.length ≤ 1000000) ∧ q.1.length ≤ 2000000 ∧ q.2.length ≤ 1000000
def sp_is_question (K : PySem.W.Frag) : Sp := fun vs H Q _ => (vs = [.non] ∧ Q (.bl false) H) ∨ ∃ (v : V) (q : Qn), vs = [v] ∧ Dp K H v (qD q) ∧ QOk q ∧ ∀ H', Same H H' → Q (.bl (isQ q)) H'
theorem ok_is_question {f : Addr} {fd : FuncData} (F : Fun K "is_question" "is_question" s_is_question f fd) (N : Nm mg) (c_is_word : Cal P w K mg base CX0 1 "is_word" sp_is_word) (c_is_scope : Cal P w K mg base CX0 11 "is_scope" (sp_is_scope K)) : FnOk P w K mg base CX0 12 f fd ["value"] (sp_is_question K) := by
  refine F.ok sc_is_question (fun vs H Q E h => ?_) (fun cdv A outer s H vs Q E hr h => ?_)
  · rcases h with ⟨rfl, _⟩ | ⟨v, q, rfl, _⟩ <;> rfl
  · refine ⟨_, (pss_one (ps_ret (pe_and (pe_callB call_isi (by rfl) N.isi (by decide +kernel) (pa_cons (pv 0) (pa_cons (pe_bltn (v := .ty "tuple") (by rfl) N.tuple (by decide +kernel) rfl) pa_nil))) (pe_and (pe_cmpR op_eq (pe_callB call_len_seq (by rfl) N.len (by decide +kernel) (pa_cons (pv 0) pa_nil)) pe_int (nomark _)) (pe_and (pe_c c_is_scope hr (ha := (pa_cons (pe_ix ix_tup (pv 0) pe_int (fun _ _ => rfl)) pa_nil))) (pe_one (pe_c c_is_word hr (ha := (pa_cons (pe_ix ix_tup (pv 0) pe_int (fun _ _ => rfl)) pa_nil))))))))), ?_⟩
    rcases h with ⟨rfl, k⟩ | ⟨v, q, rfl, d, ⟨hl, hn, ha⟩, k⟩
    · exact ⟨_, rfl, _, _, _, _, false, rfl, .ty "tuple", .base .non, kit_ty (by decide +kernel), _, rfl, iteF k⟩
    · obtain ⟨a, b, rfl, q1, q2⟩ := qv_un d
      refine ⟨_, rfl, _, _, _, _, true, rfl, .ty "tuple", tyX_tup q1, kit_ty (by decide +kernel), _, rfl, iteT ?_⟩
      refine ⟨_, rfl, a, _, rfl, .inr q1, rfl, _, rfl, iteTo (by rw [dec_int]; rfl) ?_⟩
      refine ⟨_, rfl, a, _, 0, _, rfl, rfl, q1, rfl, b, q.1, rfl, q2, hl, hn, fun H1 s1 => ⟨_, rfl, ?_⟩⟩
      have e : isQ q = (scOk q.1 && isWord q.2) := rfl
      cases hsc : scOk q.1 with
      | false =>
        rw [e, hsc] at k
        exact iteF (k _ s1)
      | true =>
        rw [e, hsc] at k
        exact iteT ⟨_, rfl, a, _, 1, _, rfl, rfl, SqT.same s1 q1, rfl, q.2, rfl, by omega, fun H2 s2 => k _ (Same.trans s1 s2)⟩
/-! ### question_text -/
abbrev s_question_text : Stmt := top 56
abbrev N_question_text : List Str := ["question", "scope"]
theorem sc_question_text : FnScope N_question_text ["question"] (defScope s_question_text) := ⟨rfl, rfl, rfl, by decide +kernel, rfl, by decide +kernel, by decide +kernel⟩
def sp_question_text (K : PySem.W.Frag) : Sp := fun vs H Q _ => ∃ (v : V) (q : Qn), vs = [v] ∧ Dp K H v (qD q) ∧ isQ q = true ∧ ∀ H', Same H H' → Q (.str (qTxt q)) H'
theorem ok_question_text {f : Addr} {fd : FuncData} (F : Fun K "question_text" "question_text" s_question_text f fd) (N : Nm mg) : FnOk P w K mg base CX0 1 f fd ["question"] (sp_question_text K) := by
  refine F.ok sc_question_text (fun vs H Q E h => ?_) (fun cdv A outer s H vs Q E hr h => ?_)
  · obtain ⟨v, q, rfl, _⟩ := h
    rfl
  · obtain ⟨v, q, rfl, d, hq, k⟩ := h
    refine ⟨_, (pss_cons (ps_set (i := 1) sc_question_text.nd rfl (Or.inl rfl) (pe_join (pe_gv N.BETWEEN) (pe_callTy call_list_of (by rfl) N.list (by decide +kernel) (pa_cons (pe_ix ix_tup (pv 0) pe_int (fun _ _ => rfl)) pa_nil))))
      (pss_one (ps_ret (pe_op op_add_str (pe_op op_add_str (pe_ifExp (pt_cmpR op_ne (pv 1) pe_str (nomark _)) (pe_op op_add_str (pv 1) pe_str) pe_str) (pe_gv N.TURNSTILE)) (pe_ix ix_tup (pv 0) pe_int (fun _ _ => rfl)))))), ?_⟩
    obtain ⟨a, b, rfl, q1, q2⟩ := qv_un d
    have hq' := hq
    unfold isQ at hq'
    rw [Bool.and_eq_true] at hq'
    obtain ⟨h1, h2⟩ := scOk_len hq'.1
    have h3 := sum_le h2
    have h4 := scTxt_len hq'.1
    have h5 := word_len hq'.2
    have l2 : (Str.ofString "; ").length = 2 := by decide +kernel
    have l1 : (Str.ofString " ").length = 1 := by decide +kernel
    have l3 : (Str.ofString "|- ").length = 3 := by decide +kernel
    have l0 : (Str.ofString "").length = 0 := by decide +kernel
    have h6 : q.1.length * 210 ≤ 140 * 210 := Nat.mul_le_mul_right _ h1
    refine ⟨⟨_, rfl⟩, _, rfl, a, _, 0, _, rfl, rfl, q1, rfl, b, _, rfl, .inr q2, fun l hl => ⟨_, l, q.1, rfl, rfl, .inl (SqL.of upd_same), by rw [l2]; omega, ?_⟩⟩
    have s1 := same_new (o := .lst (q.1.map V.str)) hl
    rw [show Txt.join (Str.ofString "; ") q.1 = scTxt q.1 from rfl]
    unfold qTxt at k
    refine ⟨_, rfl, rfl, _, rfl, ?_⟩
    by_cases he : scTxt q.1 = Str.ofString ""
    · rw [if_pos he] at k
      refine iteFo (by rw [he, decide_eq_true rfl]; rfl) ⟨_, _, rfl, rfl, szl (by rw [l0, l3]; omega), _, rfl, a, _, 1, _, rfl, rfl, SqT.same s1 q1, rfl, _, _, rfl, rfl, szl (by rw [len_app, l0, l3]; omega), k _ s1⟩
    · rw [if_neg he] at k
      refine iteTo (by rw [decide_eq_false (fun z => he (V.str.inj z))]; rfl) ⟨_, rfl, _, _, rfl, rfl, szl (by rw [l1]; omega), _, _, rfl, rfl, szl (by rw [len_app, l1, l3]; omega), _, rfl, a, _, 1, _, rfl, rfl, SqT.same s1 q1, rfl, _, _, rfl, rfl, szl (by rw [len_app, len_app, l1, l3]; omega), k _ s1⟩
end
end Fp
/-! W17: question_told, write_question, read_question -/
namespace Fp
open PySem PySem.Spec PyProof.Rows L2 TL
theorem turn_tl : tl (Str.ofString "|- ") = [124, 45, 32] := by decide +kernel
theorem turn_S : Str.ofString "|- " = S [124, 45, 32] := by decide +kernel
theorem bar_eq : Str.ofString " " ++ Str.ofString "|- " = Str.ofString " |- " := by decide +kernel
theorem bar_tl : tl (Str.ofString " |- ") = [32, 124, 45, 32] := by decide +kernel
theorem bar_ok : (Str.ofString " |- ").cps.all (· < 256) = true := by decide +kernel
theorem sc_ok : (Str.ofString "; ").cps.all (· < 256) = true := by decide +kernel
theorem cut_head (x : Str) (n : Nat) : cutS x none (some (n : Int)) = S ((tl x).take n) := by
  unfold cutS
  rw [HT.sIx_none, HT.sIx_nat]
  show (⟨(((tl x).drop 0).take (min n x.length - 0)).toArray⟩ : Str) = _
  rw [List.drop_zero, Nat.sub_zero, len_tl]
  congr 2
  by_cases h : n ≤ (tl x).length
  · rw [Nat.min_eq_left h]
  · rw [Nat.min_eq_right (by omega), List.take_length, List.take_of_length_le (by omega)]
theorem cut_tail (x : Str) (n : Nat) : cutS x (some (n : Int)) none = S ((tl x).drop n) := by
  unfold cutS
  rw [HT.sIx_none, HT.sIx_nat]
  show (⟨(((tl x).drop (min n x.length)).take (x.length - min n x.length)).toArray⟩ : Str) = _
  rw [len_tl]
  congr 2
  by_cases h : n ≤ (tl x).length
  · rw [Nat.min_eq_left h, List.take_of_length_le (by rw [List.length_drop]; omega)]
  · rw [Nat.min_eq_right (by omega), List.drop_length, List.drop_of_length_le (by omega), List.take_nil]
section
variable {P : Program} {w : World} {K : PySem.W.Frag} {mg : Str → Option Value} {base : Heap}
abbrev s_question_told : Stmt := top 57
abbrev N_question_told : List Str := ["text", "question", "halves"]
theorem sc_question_told : FnScope N_question_told ["text"] (defScope s_question_told) := ⟨rfl, rfl, rfl, by decide +kernel, rfl, by decide +kernel, by decide +kernel⟩
def sp_question_told (K : PySem.W.Frag) : Sp := fun vs H Q _ => ∃ x : Str, vs = [.str x] ∧ x.length ≤ 1000000 ∧ (qTold x = none → ∀ H', Same H H' → Q .non H') ∧ ∀ q, qTold x = some q → ∀ v H', Same H H' → Dp K H' v (qD q) → Q v H'
theorem ok_question_told {f : Addr} {fd : FuncData} (F : Fun K "question_told" "question_told" s_question_told f fd) (N : Nm mg) (c_is_question : Cal P w K mg base CX0 12 "is_question" (sp_is_question K)) : FnOk P w K mg base CX0 13 f fd ["text"] (sp_question_told K) := by
  refine F.ok sc_question_told (fun vs H Q E h => ?_) (fun cdv A outer s H vs Q E hr h => ?_)
  · obtain ⟨x, rfl, _⟩ := h
    rfl
  · obtain ⟨x, rfl, hx, kN, kS⟩ := h
    refine ⟨_, (C8.pss_cut (ps_if (pt_cmpR op_eq (pe_slice sl_str (pv 0) po_none (po_some pe_int)) (pe_gv N.TURNSTILE) (nomark _)) (pss_one (ps_set (i := 1) sc_question_told.nd rfl (Or.inl rfl) (pe_tup (pa_cons (pe_tup pa_nil) (pa_cons (pe_slice sl_str (pv 0) (po_some pe_int) po_none) pa_nil))))) (pss_cons (ps_set (i := 2) sc_question_told.nd rfl (Or.inl rfl) (pe_split (pv 0) (pe_op op_add_str pe_str (pe_gv N.TURNSTILE))))
      (pss_one (ps_set (i := 1) sc_question_told.nd rfl (Or.inl rfl) (pe_ifExp (pt_cmpR op_eq (pe_callB call_len_seq (by rfl) N.len (by decide +kernel) (pa_cons (pv 2) pa_nil)) pe_int (nomark _)) (pe_tup (pa_cons (pe_callTy call_tuple_of (by rfl) N.tuple (by decide +kernel) (pa_cons (pe_split (pe_ix ix_list (pv 2) pe_int (fun _ _ => rfl)) (pe_gv N.BETWEEN)) pa_nil)) (pa_cons (pe_ix ix_list (pv 2) pe_int (fun _ _ => rfl)) pa_nil))) pe_non)))))
      (pss_one (ps_ret (pe_ifExp (pt_val (pe_c c_is_question hr (ha := (pa_cons (pv 1) pa_nil)))) (pv 1) pe_non)))), ?_⟩
    have hlx := len_tl x
    have nebar : tl (Str.ofString " |- ") ≠ [] := by rw [bar_tl]; simp
    have nesc : tl (Str.ofString "; ") ≠ [] := by rw [sc_tl]; simp
    refine ⟨fun σ H' => ∃ (v : V) (hv : Option V), σ = [some (.str x), some v, hv] ∧ Same H H' ∧ ((v = .non ∧ qRaw x = none) ∨ ∃ q, qRaw x = some q ∧ Dp K H' v (qD q) ∧ QOk q), ?_, ?_⟩
    · refine ⟨_, rfl, _, rfl, x, rfl, szl (by omega), rfl, _, rfl, ?_⟩
      rw [show (3 : Int) = ((3 : Nat) : Int) from rfl, cut_head, turn_S, str_dec]
      have hraw : qRaw x = if (tl x).take 3 = [124, 45, 32] then some ([], ⟨((tl x).drop 3).toArray⟩) else
          match Txt.split x (Str.ofString " |- ") with
          | [a, b] => some (Txt.split a (Str.ofString "; "), b)
          | _ => none := rfl
      by_cases h3 : (tl x).take 3 = [124, 45, 32]
      · rw [if_pos h3] at hraw
        rw [decide_eq_true h3]
        refine iteT ⟨Nat.zero_le _, fun p hp => ⟨_, rfl, _, rfl, x, rfl, szl (by omega), szl (by show 2 ≤ 16777216; decide), fun r hr0 => ?_⟩⟩
        have s1 := same_new (o := .tup []) hp
        rw [cut_tail]
        have s2 := same_new (o := .tup [V.ref p, V.str (S ((tl x).drop 3))]) hr0
        refine ⟨_, _, rfl, Same.trans s1 s2, .inr ⟨_, hraw, qv_mk (b := p) (SqT.of upd_same) (SqT.of (s2 _ _ upd_same)), ?_⟩⟩
        refine ⟨(fun y hy => by cases hy), Nat.zero_le _, ?_⟩
        show (S ((tl x).drop 3)).length ≤ 1000000
        rw [len_S, List.length_drop]
        omega
      · rw [if_neg h3] at hraw
        rw [decide_eq_false h3]
        refine iteF ⟨_, rfl, ⟨_, rfl⟩, _, _, rfl, rfl, by decide +kernel, ?_⟩
        refine ⟨x, Str.ofString " |- ", rfl, congrArg (fun z => [V.str z]) bar_eq, by decide +kernel, szl (by omega), fun p hp => ?_⟩
        have s1 := same_new (o := .lst ((Txt.split x (Str.ofString " |- ")).map V.str)) hp
        have hp1 : (upd H p (.lst ((Txt.split x (Str.ofString " |- ")).map V.str))) p = some (.lst ((Txt.split x (Str.ofString " |- ")).map V.str)) := upd_same
        generalize (upd H p (.lst ((Txt.split x (Str.ofString " |- ")).map V.str))) = H1 at *
        have hle : ∀ y ∈ Txt.split x (Str.ofString " |- "), y.length ≤ x.length := fun y hy => split_le nebar bar_ok hy
        refine ⟨_, rfl, p, _, rfl, .inl (SqL.of hp1), rfl, _, rfl, ?_⟩
        rw [dec_int, List.length_map]
        generalize Txt.split x (Str.ofString " |- ") = ps at *
        by_cases hl : ps.length = 2
        · obtain ⟨a, b, rfl⟩ : ∃ a b, ps = [a, b] := by
            match ps, hl with
            | [a, b], _ => exact ⟨a, b, rfl⟩
          have ha := hle a (by simp)
          have hb := hle b (by simp)
          refine iteTo (by rw [hl]; rfl) ⟨_, rfl, p, _, 0, _, rfl, rfl, SqL.of hp1, rfl, ⟨_, rfl⟩, a, _, rfl, rfl, by decide +kernel, szl (by omega), fun r hr0 => ⟨r, _, rfl, .inl ⟨SqL.of upd_same, fun t ht => ?_⟩⟩⟩
          have s2 := Same.trans (same_new (o := .lst ((Txt.split a (Str.ofString "; ")).map V.str)) hr0) (same_new (o := .tup ((Txt.split a (Str.ofString "; ")).map V.str)) ht)
          have ht2 : (upd (upd H1 r (.lst ((Txt.split a (Str.ofString "; ")).map V.str))) t (.tup ((Txt.split a (Str.ofString "; ")).map V.str))) t = some (.tup ((Txt.split a (Str.ofString "; ")).map V.str)) := upd_same
          generalize (upd (upd H1 r (.lst ((Txt.split a (Str.ofString "; ")).map V.str))) t (.tup ((Txt.split a (Str.ofString "; ")).map V.str))) = H2 at *
          refine ⟨_, rfl, p, _, 1, _, rfl, rfl, SqL.of (s2 _ _ hp1), rfl, szl (by show 2 ≤ 16777216; decide), fun u hu => ?_⟩
          have s3 := same_new (o := .tup [V.ref t, V.str b]) hu
          refine ⟨_, _, rfl, Same.trans s1 (Same.trans s2 s3), .inr ⟨_, hraw, qv_mk (b := t) (SqT.of upd_same) (SqT.of (s3 _ _ ht2)), ?_⟩⟩
          have hn := split_num (x := a) nesc sc_ok
          exact ⟨fun y hy => by have := split_le nesc sc_ok hy; omega, by show (Txt.split a (Str.ofString "; ")).length ≤ 2000000; omega, by show b.length ≤ 1000000; omega⟩
        · refine iteFo ?_ ⟨_, _, rfl, s1, .inl ⟨rfl, ?_⟩⟩
          · have : ¬ ((ps.length : Int) = 2) := by omega
            simpa using this
          · rw [hraw]
            match ps, hl with
            | [], _ => rfl
            | [a], _ => rfl
            | [a, b], h => exact absurd rfl h
            | a :: b :: c :: r, _ => rfl
    · rintro σ H1 ⟨v, hv, rfl, s1, h⟩
      rcases h with ⟨rfl, hn⟩ | ⟨q, hq, d, qok⟩
      · refine ⟨_, rfl, .inl ⟨rfl, _, rfl, iteF (kN ?_ _ s1)⟩⟩
        unfold qTold
        rw [hn]
      · have ht : qTold x = if isQ q = true then some q else none := by unfold qTold; rw [hq]
        refine ⟨_, rfl, .inr ⟨v, q, rfl, d, qok, fun H2 s2 => ⟨_, rfl, ?_⟩⟩⟩
        cases hi : isQ q with
        | true =>
          rw [if_pos hi] at ht
          exact iteT ⟨_, rfl, kS q ht v _ (Same.trans s1 s2) (Dp.same s2 d)⟩
        | false =>
          rw [hi] at ht
          exact iteF (kN ht _ (Same.trans s1 s2))
/-! ### write_question -/
abbrev s_write_question : Stmt := top 58
abbrev N_write_question : List Str := ["question"]
theorem sc_write_question : FnScope N_write_question ["question"] (defScope s_write_question) := ⟨rfl, rfl, rfl, by decide +kernel, rfl, by decide +kernel, by decide +kernel⟩
theorem isQ_ok {q : Qn} (h : isQ q = true) : QOk q := by
  unfold isQ at h
  rw [Bool.and_eq_true] at h
  obtain ⟨h1, h2⟩ := scOk_len h.1
  have h3 := word_len h.2
  exact ⟨fun x hx => by have := h2 x hx; omega, by omega, by omega⟩
theorem ok_write_question {f : Addr} {fd : FuncData} (F : Fun K "write_question" "write_question" s_write_question f fd) (N : Nm mg) (c_is_question : Cal P w K mg base CX0 12 "is_question" (sp_is_question K)) (c_question_text : Cal P w K mg base CX0 1 "question_text" (sp_question_text K)) : FnOk P w K mg base CX0 13 f fd ["question"] (sp_question_text K) := by
  refine F.ok sc_write_question (fun vs H Q E h => ?_) (fun cdv A outer s H vs Q E hr h => ?_)
  · obtain ⟨v, q, rfl, _⟩ := h
    rfl
  · obtain ⟨v, q, rfl, d, hq, k⟩ := h
    refine ⟨_, (pss_cons (ps_if (pt_not (pt_val (pe_c c_is_question hr (ha := (pa_cons (pv 0) pa_nil))))) pss_never pss_nil)
      (pss_one (ps_ret (pe_c c_question_text hr (ha := (pa_cons (pv 0) pa_nil)))))), ?_⟩
    refine ⟨_, rfl, .inr ⟨v, q, rfl, d, isQ_ok hq, fun H1 s1 => ⟨_, rfl, ?_⟩⟩⟩
    rw [hq]
    exact iteF ⟨_, rfl, v, q, rfl, Dp.same s1 d, hq, fun H2 s2 => k _ (Same.trans s1 s2)⟩
/-! ### read_question -/
abbrev s_read_question : Stmt := top 59
abbrev N_read_question : List Str := ["text", "question"]
theorem sc_read_question : FnScope N_read_question ["text"] (defScope s_read_question) := ⟨rfl, rfl, rfl, by decide +kernel, rfl, by decide +kernel, by decide +kernel⟩
def sp_read_question (K : PySem.W.Frag) (CP : Addr) : Sp := fun vs H Q E => ∃ x : Str, vs = [.str x] ∧ x.length ≤ 1000000 ∧ (qTold x = none → PeQ CP H .non E) ∧ ∀ q, qTold x = some q → ∀ v H', Same H H' → Dp K H' v (qD q) → Q v H'
theorem ok_read_question {CP f : Addr} {fd : FuncData} (F : Fun K "read_question" "read_question" s_read_question f fd) (N : Nm mg) (VP : PEf P w K mg base CP) (c_question_told : Cal P w K mg base CX0 13 "question_told" (sp_question_told K)) : FnOk P w K mg base (L2.CX P w) 14 f fd ["text"] (sp_read_question K CP) := by
  refine F.okX sc_read_question (fun vs H Q E h => ?_) (fun cdv A outer s H vs Q E hr h => ?_)
  · obtain ⟨x, rfl, _⟩ := h
    rfl
  · obtain ⟨x, rfl, hx, kN, kS⟩ := h
    refine ⟨_, (pss_cons (ps_set (i := 1) sc_read_question.nd rfl (Or.inl rfl) (pe_ifExp (pt_val (pe_callB call_isi (by rfl) N.isi (by decide +kernel) (pa_cons (pv 0) (pa_cons (pe_bltn (v := .ty "str") (by rfl) N.str (by decide +kernel) rfl) pa_nil)))) (pe_c c_question_told hr (ha := (pa_cons (pv 0) pa_nil))) pe_non))
      (pss_cons (ps_if (pt_cmpR op_isN (pv 1) pe_non (nomark _)) (pss_one (ps_raise rfl (takes_of rfl rfl rfl rfl) (pmk_pe VP hr pe_non))) pss_nil)
      (pss_one (ps_ret (pv 1))))), ?_⟩
    refine ⟨_, rfl, _, _, _, _, true, rfl, .ty "str", .base (.str x), kit_ty (by decide +kernel), _, rfl, iteT ?_⟩
    refine ⟨_, rfl, x, rfl, hx, fun hn H1 s1 => ?_, fun q hq v H1 s1 d => ?_⟩
    · exact ⟨_, rfl, rfl, _, rfl, iteTo (decide_eq_true rfl) (pe_body fun d H2 s2 hd => kN hn d H2 (Same.trans s1 s2) hd)⟩
    · have hv : v ≠ .non := by
        obtain ⟨a, b, rfl, _⟩ := qv_un d
        intro z
        cases z
      exact ⟨_, rfl, rfl, _, rfl, iteFo (decide_eq_false hv) ⟨_, rfl, kS q hq v H1 s1 d⟩⟩
end
end Fp
/-! M6: lines told one by one, their keys ascending -/
namespace Fp
open PySem TL PyProof.Rows
def linesOf (x : Str) : List Str := if x = Str.ofString "none" then [] else Txt.split x (Str.ofString "\n")
section
variable {κ α : Type} (tell : Str → Option (κ × α)) (lt : κ → κ → Bool)
def okAfter : Option κ → κ → Bool
  | none, _ => true
  | some k0, k => lt k0 k
/-- the pairs, or the first line that is wrong -/
def runP : List Str → Nat → Option κ → Nat ⊕ List (κ × α)
  | [], _, _ => .inr []
  | l :: ls, i, last => match tell l with
    | none => .inl i
    | some p => if okAfter lt last p.1 = true then (match runP ls (i + 1) (some p.1) with | .inl j => .inl j | .inr r => .inr (p :: r)) else .inl i
end
section
variable {κ α : Type} {tell : Str → Option (κ × α)} {lt : κ → κ → Bool}
theorem runP_none {l : Str} {ls : List Str} {i : Nat} {last : Option κ} (h : tell l = none) : runP tell lt (l :: ls) i last = .inl i := by
  unfold runP
  rw [h]
theorem runP_bad {l : Str} {ls : List Str} {i : Nat} {last : Option κ} {p : κ × α} (h : tell l = some p) (h2 : okAfter lt last p.1 = false) : runP tell lt (l :: ls) i last = .inl i := by
  unfold runP
  rw [h]
  dsimp only
  rw [h2]
  rfl
theorem runP_go {l : Str} {ls : List Str} {i : Nat} {last : Option κ} {p : κ × α} (h : tell l = some p) (h2 : okAfter lt last p.1 = true) : runP tell lt (l :: ls) i last = match runP tell lt ls (i + 1) (some p.1) with | .inl j => .inl j | .inr r => .inr (p :: r) := by
  rw [runP, h]
  dsimp only
  rw [if_pos h2]
/-- what is read stands line by line -/
theorem runP_each : ∀ {ls : List Str} {i : Nat} {last : Option κ} {r : List (κ × α)}, runP tell lt ls i last = .inr r → ls.map tell = r.map some
  | [], i, last, r, h => by cases h; rfl
  | l :: ls, i, last, r, h => by
    cases e : tell l with
    | none => rw [runP_none e] at h; cases h
    | some p =>
      cases e2 : okAfter lt last p.1 with
      | false => rw [runP_bad e e2] at h; cases h
      | true =>
        rw [runP_go e e2] at h
        cases e3 : runP tell lt ls (i + 1) (some p.1) with
        | inl j => rw [e3] at h; cases h
        | inr r' =>
          rw [e3] at h
          cases h
          rw [List.map_cons, List.map_cons, e, runP_each e3]
theorem runP_asc (tr : ∀ a b c, lt a b = true → lt b c = true → lt a c = true) : ∀ {ls : List Str} {i : Nat} {last : Option κ} {r : List (κ × α)}, runP tell lt ls i last = .inr r →
    (r.map Prod.fst).Pairwise (fun a b => lt a b = true) ∧ ∀ p ∈ r, okAfter lt last p.1 = true
  | [], i, last, r, h => by cases h; exact ⟨.nil, fun p hp => by cases hp⟩
  | l :: ls, i, last, r, h => by
    cases e : tell l with
    | none => rw [runP_none e] at h; cases h
    | some p =>
      cases e2 : okAfter lt last p.1 with
      | false => rw [runP_bad e e2] at h; cases h
      | true =>
        rw [runP_go e e2] at h
        cases e3 : runP tell lt ls (i + 1) (some p.1) with
        | inl j => rw [e3] at h; cases h
        | inr r' =>
          rw [e3] at h
          cases h
          obtain ⟨h1, h2⟩ := runP_asc tr e3
          refine ⟨?_, fun q hq => ?_⟩
          · rw [List.map_cons, List.pairwise_cons]
            refine ⟨fun k hk => ?_, h1⟩
            obtain ⟨q, hq, rfl⟩ := List.mem_map.mp hk
            exact h2 q hq
          · rcases List.mem_cons.mp hq with rfl | hq
            · exact e2
            · cases last with
              | none => rfl
              | some k0 => exact tr _ _ _ e2 (h2 q hq)
/-- what is told in ascending order is read -/
theorem runP_ok : ∀ {ls : List Str} {i : Nat} {last : Option κ} {r : List (κ × α)}, ls.map tell = r.map some → (r.map Prod.fst).Pairwise (fun a b => lt a b = true) → (∀ p, r.head? = some p → okAfter lt last p.1 = true) → runP tell lt ls i last = .inr r
  | [], i, last, r, h, _, _ => by
    cases r with
    | nil => rfl
    | cons p r => simp at h
  | l :: ls, i, last, r, h, hp, h0 => by
    cases r with
    | nil => simp at h
    | cons p r =>
      rw [List.map_cons, List.map_cons] at h
      injection h with h1 h2
      rw [runP_go h1 (h0 p rfl)]
      rw [List.map_cons, List.pairwise_cons] at hp
      rw [runP_ok (ls := ls) (r := r) (last := some p.1) h2 hp.2 fun q hq => hp.1 q.1 (List.mem_map.mpr ⟨q, by
        cases r with
        | nil => simp at hq
        | cons a r => simp at hq; rw [hq]; simp, rfl⟩)]
/-- the lines ahead of the first wrong one are read -/
theorem runP_ahead : ∀ {ls : List Str} {i j : Nat} {last : Option κ}, runP tell lt ls i last = .inl j → i ≤ j ∧ j < i + ls.length ∧ ∃ r, runP tell lt (ls.take (j - i)) i last = .inr r
  | [], i, j, last, h => by cases h
  | l :: ls, i, j, last, h => by
    cases e : tell l with
    | none =>
      rw [runP_none e] at h
      cases h
      exact ⟨Nat.le_refl _, by rw [List.length_cons]; omega, [], by rw [Nat.sub_self]; rfl⟩
    | some p =>
      cases e2 : okAfter lt last p.1 with
      | false =>
        rw [runP_bad e e2] at h
        cases h
        exact ⟨Nat.le_refl _, by rw [List.length_cons]; omega, [], by rw [Nat.sub_self]; rfl⟩
      | true =>
        rw [runP_go e e2] at h
        cases e3 : runP tell lt ls (i + 1) (some p.1) with
        | inr r' => rw [e3] at h; cases h
        | inl j' =>
          rw [e3] at h
          cases h
          obtain ⟨h1, h2, r, h3⟩ := runP_ahead e3
          refine ⟨by omega, by rw [List.length_cons]; omega, p :: r, ?_⟩
          have ej : j - i = (j - (i + 1)) + 1 := by omega
          rw [ej, List.take_succ_cons, runP_go e e2, h3]
end
/-! ### the order of texts -/
theorem ltT_trans (a b c : Str) (h1 : ltT a b = true) (h2 : ltT b c = true) : ltT a c = true := by
  unfold ltT at *
  rw [decide_eq_true_eq] at *
  exact List.lt_trans h1 h2
theorem ltT_irr (a : Str) : ltT a a = false := by
  unfold ltT
  rw [decide_eq_false_iff_not]
  exact List.lt_irrefl _
theorem ltT_not {a b : Str} : decide (tl b ≤ tl a) = !ltT a b := by
  unfold ltT
  by_cases h : tl a < tl b
  · rw [decide_eq_true h, decide_eq_false (fun z => absurd h (List.not_lt.mpr z))]
    rfl
  · rw [decide_eq_false h, decide_eq_true (List.not_lt.mp h)]
    rfl
theorem asc_nodup {l : List Str} (h : l.Pairwise (fun a b => ltT a b = true)) : l.Nodup := List.Pairwise.imp (fun {a b} hab e => by rw [e, ltT_irr] at hab; cases hab) h
end Fp
/-! W18: lines_of, line_told, pairs_told of parts -/
namespace Fp
open PySem PySem.Spec PyProof.Rows L2 TL
theorem nl_tl : tl (Str.ofString "\n") = [10] := by decide +kernel
theorem nl_ok : (Str.ofString "\n").cps.all (· < 256) = true := by decide +kernel
section
variable {P : Program} {w : World} {K : PySem.W.Frag} {mg : Str → Option Value} {base : Heap}
/-! ### lines_of -/
abbrev s_lines_of : Stmt := top 55
abbrev N_lines_of : List Str := ["text"]
theorem sc_lines_of : FnScope N_lines_of ["text"] (defScope s_lines_of) := ⟨rfl, rfl, rfl, by decide +kernel, rfl, by decide +kernel, by decide +kernel⟩
def sp_lines_of : Sp := fun vs H Q _ => ∃ x : Str, vs = [.str x] ∧ x.length ≤ 1000000 ∧ ∀ p H', Same H H' → H p = none → H' p = some (.lst ((linesOf x).map V.str)) → Q (.ref p) H'
theorem ok_lines_of {f : Addr} {fd : FuncData} (F : Fun K "lines_of" "lines_of" s_lines_of f fd) (N : Nm mg) : FnOk P w K mg base CX0 1 f fd ["text"] sp_lines_of := by
  refine F.ok sc_lines_of (fun vs H Q E h => ?_) (fun cdv A outer s H vs Q E hr h => ?_)
  · obtain ⟨x, rfl, _⟩ := h
    rfl
  · obtain ⟨x, rfl, hx, k⟩ := h
    refine ⟨_, (pss_cons (ps_if (pt_not (pt_val (pe_callB call_isi (by rfl) N.isi (by decide +kernel) (pa_cons (pv 0) (pa_cons (pe_bltn (v := .ty "str") (by rfl) N.str (by decide +kernel) rfl) pa_nil))))) pss_never pss_nil)
      (pss_one (ps_ret (pe_ifExp (pt_cmpR op_ne (pv 0) (pe_gv N.NONE) (nomark _)) (pe_split (pv 0) pe_str) (pe_lst pa_nil))))), ?_⟩
    refine ⟨_, rfl, _, _, _, _, true, rfl, .ty "str", .base (.str x), kit_ty (by decide +kernel), _, rfl, iteF ⟨_, rfl, rfl, _, rfl, ?_⟩⟩
    by_cases he : x = Str.ofString "none"
    · have e : linesOf x = [] := by unfold linesOf; rw [if_pos he]
      rw [e] at k
      exact iteFo (by rw [he, decide_eq_true rfl]; rfl) ⟨Nat.zero_le _, fun p hp => k p _ (same_new hp) hp upd_same⟩
    · have e : linesOf x = Txt.split x (Str.ofString "\n") := by unfold linesOf; rw [if_neg he]
      rw [e] at k
      exact iteTo (by rw [decide_eq_false (fun z => he (V.str.inj z))]; rfl) ⟨_, rfl, ⟨_, rfl⟩, x, _, rfl, rfl, by decide +kernel, szl (by omega), fun p hp => k p _ (same_new hp) hp upd_same⟩
/-! ### line_told -/
abbrev s_line_told : Stmt := top 66
abbrev N_line_told : List Str := ["line"]
theorem sc_line_told : FnScope N_line_told ["line"] (defScope s_line_told) := ⟨rfl, rfl, rfl, by decide +kernel, rfl, by decide +kernel, by decide +kernel⟩
theorem ok_line_told {CT f : Addr} {fd : FuncData} (F : Fun K "line_told" "line_told" s_line_told f fd) (c_part : Cal P w K mg base CX0 12 "part_of_line" (sp_part_of_line K CT)) : FnOk P w K mg base CX0 13 f fd ["line"] (sp_part_of_line K CT) := by
  refine F.ok sc_line_told (fun vs H Q E h => ?_) (fun cdv A outer s H vs Q E hr h => ?_)
  · obtain ⟨x, rfl, _⟩ := h
    rfl
  · obtain ⟨x, rfl, hx, kN, kS⟩ := h
    refine ⟨_, (pss_one (ps_ret (pe_c c_part hr (ha := (pa_cons (pv 0) pa_nil))))), ?_⟩
    exact ⟨_, rfl, x, rfl, hx, kN, kS⟩
/-! ### pairs_told, of parts -/
abbrev s_pairs_told : Stmt := top 63
abbrev N_pairs_told : List Str := ["text", "told", "found", "last", "at", "line", "pair"]
theorem sc_pairs_told : FnScope N_pairs_told ["text", "told"] (defScope s_pairs_told) := ⟨rfl, rfl, rfl, by decide +kernel, rfl, by decide +kernel, by decide +kernel⟩
theorem linesOf_le {x : Str} : (∀ y ∈ linesOf x, y.length ≤ x.length) ∧ (linesOf x).length ≤ x.length + 1 := by
  unfold linesOf
  have ne : tl (Str.ofString "\n") ≠ [] := by rw [nl_tl]; simp
  split
  · exact ⟨(fun y hy => by cases hy), Nat.zero_le _⟩
  · exact ⟨fun y hy => split_le ne nl_ok hy, split_num ne nl_ok⟩
def runParts (x : Str) : Nat ⊕ List (Str × Kd) := runP partOf ltT (linesOf x) 0 none
def sp_pairs_parts (K : PySem.W.Frag) (CT CP ft : Addr) : Sp := fun vs H Q E => ∃ x : Str, vs = [.str x, .ref ft] ∧ x.length ≤ 1000000 ∧ (∀ j, runParts x = .inl j → PeQ CP H (.int (j : Nat)) E) ∧ ∀ r, runParts x = .inr r → ∀ d kvs H', Same H H' → H' d = some (.dK kvs) → KvO K CT H' kvs r → Q (.ref d) H'
/-- the last key as a value -/
def lastV : Option Str → V
  | none => .non
  | some x => .str x
theorem drop_step {α : Type} {ls : List α} {i : Nat} {l : α} (h : ls[i]? = some l) : ls.drop i = l :: ls.drop (i + 1) := by
  obtain ⟨h1, h2⟩ := List.getElem?_eq_some_iff.mp h
  rw [List.drop_eq_getElem_cons h1, h2]
theorem ok_pairs_parts {CT CP f ft : Addr} {fd fdt : FuncData} (F : Fun K "pairs_told" "pairs_told" s_pairs_told f fd) (N : Nm mg) (VP : PEf P w K mg base CP) (c_lines_of : Cal P w K mg base CX0 1 "lines_of" sp_lines_of)
    (Ft : FnOk P w K mg base CX0 13 ft fdt ["line"] (sp_part_of_line K CT)) (kt : PySem.W.keepIn K (.ref ft) = true) (bt : Binds K fdt ["line"] []) : FnOk P w K mg base (L2.CX P w) 14 f fd ["text", "told"] (sp_pairs_parts K CT CP ft) := by
  refine F.okX sc_pairs_told (fun vs H Q E h => ?_) (fun cdv A outer s H vs Q E hr h => ?_)
  · obtain ⟨x, rfl, _⟩ := h
    rfl
  · obtain ⟨x, rfl, hx, kE, kS⟩ := h
    refine ⟨_, (pss_cons (ps_set (i := 2) sc_pairs_told.nd rfl (Or.inl rfl) pe_dnewK)
      (pss_cons (ps_set (i := 3) sc_pairs_told.nd rfl (Or.inl rfl) pe_non)
      (pss_cons (ps_for (passes_of rfl) rfl (pi_enum (by rfl) N.enum (pa_cons (pe_c c_lines_of hr (ha := (pa_cons (pv 0) pa_nil))) pa_nil)) (pg_tup (by rfl) (pgs_cons (pg_name (i := 4) sc_pairs_told.nd rfl (Or.inl rfl)) (pgs_cons (pg_name (i := 5) sc_pairs_told.nd rfl (Or.inl rfl)) pgs_nil))) (pss_cons (ps_set (i := 6) sc_pairs_told.nd rfl (Or.inl rfl) (pe_callL (x := "told") (i := 1) Ft (hr.mono (by decide)) rfl (by first | exact Or.inl rfl | exact Or.inr rfl) kt bt .nil pass0 (pa_cons (pv 5) pa_nil)))
      (pss_cons (ps_if (PW.pt (pw_or (pt_cmpR op_isN (pv 6) pe_non (nomark _)) (pw_or1 (PW.pt (pw_and (pt_cmpR op_notN (pv 3) pe_non (nomark _)) (pw_and1 (pt_cmpR op_le_str (pe_ix ix_tup (pv 6) pe_int (fun _ _ => rfl)) (pv 3) (nomark _)))))))) (pss_one (ps_raise rfl (takes_of rfl rfl rfl rfl) (pmk_pe VP hr (pv 4)))) pss_nil)
      (pss_cons (ps_set (i := 3) sc_pairs_told.nd rfl (Or.inl rfl) (pe_ix ix_tup (pv 6) pe_int (fun _ _ => rfl)))
      (pss_one (ps_asg (pe_ix ix_tup (pv 6) pe_int (fun _ _ => rfl)) (pg_sub (pv 2) (pv 3) (set_dict (hu_of hr)))))))))
      (pss_one (ps_ret (pv 2)))))), ?_⟩
    intro D hD
    have sD := same_new (o := .dK []) hD
    refine ⟨_, rfl, x, rfl, hx, fun p H1 s1 hpD hp1 => ?_⟩
    have hD1 : H1 D = some (.dK []) := s1 _ _ upd_same
    have npD : p ≠ D := fun z => by rw [z, hD1] at hp1; cases hp1
    obtain ⟨hll, hln⟩ := linesOf_le (x := x)
    generalize hls : linesOf x = ls at *
    have hrun0 : runParts x = runP partOf ltT ls 0 none := by unfold runParts; rw [hls]
    refine ⟨p, _, rfl, SqL.of hp1, ?_⟩
    refine for_it walk_enum (fun i σ H2 => ∃ (last : Option Str) (acc : List (Str × Kd)) (kvs : List (Key × V)) (s4 s5 s6 : Option V), σ = [some (.str x), some (.ref ft), some (.ref D), some (lastV last), s4, s5, s6] ∧ Same H H2 ∧ SameB D H1 H2 ∧ H2 D = some (.dK kvs) ∧ KvO K CT H2 kvs acc ∧
        (∀ q ∈ acc, ∃ k0, last = some k0 ∧ (q.1 = k0 ∨ ltT q.1 k0 = true)) ∧ acc.length ≤ i ∧ runParts x = match runP partOf ltT (ls.drop i) i last with | .inl j => .inl j | .inr r => .inr (acc ++ r))
      ⟨none, [], [], _, _, _, rfl, Same.trans sD s1, fun b o _ e => e, hD1, .nil, (fun q hq => by cases hq), Nat.le_refl _, ?_⟩ (fun i σ H2 hi ⟨last, acc, kvs, s4, s5, s6, _, _, sb, _⟩ => SqL.of (sb _ _ npD hp1)) (fun i z σ H2 H3 hi ⟨last, acc, kvs, s4, s5, s6, hσ, sH, sb, hd, hkv, hlast, hla, hrun⟩ y => ?_) (fun σ H2 ⟨last, acc, kvs, s4, s5, s6, hσ, sH, sb, hd, hkv, hlast, hla, hrun⟩ => ?_)
    · rw [hrun0, List.drop_zero]
      cases runP partOf ltT ls 0 none <;> rfl
    · subst hσ
      obtain ⟨T, yk, yv, rfl, hT, rfl, hyk, hyv⟩ := y
      dsimp only at hyk hyv
      cases hyk
      rw [List.getElem?_map] at hyv
      obtain ⟨l, hl, rfl⟩ := Option.map_eq_some_iff.mp hyv
      rw [drop_step hl] at hrun
      have hlen := hll _ (List.mem_of_getElem? hl)
      have sT := same_new (o := .tup [V.int (i : Nat), V.str l]) hT
      have hT3 : (upd H2 T (.tup [V.int (i : Nat), V.str l])) T = some (.tup [V.int (i : Nat), V.str l]) := upd_same
      have hil : i < ls.length := by rw [List.length_map] at hi; exact hi
      generalize (upd H2 T (.tup [V.int (i : Nat), V.str l])) = H3 at *
      refine ⟨T, _, rfl, SqT.of hT3, rfl, _, _, rfl, _, _, rfl, rfl, ?_⟩
      refine ⟨rfl, _, rfl, l, rfl, by omega, fun hn H4 s4' => ?_, fun a k hk q v H4 s4' hq ty => ?_⟩
      · rw [runP_none hn] at hrun
        exact ⟨_, rfl, rfl, _, rfl, iteTo (decide_eq_true rfl) ⟨_, rfl, pe_body fun d H5 s5' hd5 => kE i hrun d H5 (Same.trans sH (Same.trans sT (Same.trans s4' s5'))) hd5⟩⟩
      · have sH4 := Same.trans sH (Same.trans sT s4')
        refine ⟨_, rfl, rfl, _, rfl, iteFo (decide_eq_false (by intro z; cases z)) ⟨_, rfl, rfl, _, rfl, ?_⟩⟩
        have hnew : ∀ (hok : okAfter ltT last a = true), a ∉ acc.map Prod.fst := fun hok hm => by
          obtain ⟨q', hq', e⟩ := List.mem_map.mp hm
          obtain ⟨k0, rfl, h⟩ := hlast q' hq'
          have h2 : ltT k0 a = true := hok
          rcases h with h | h
          · rw [← h, e, ltT_irr] at h2; cases h2
          · have := ltT_trans _ _ _ h h2
            rw [e, ltT_irr] at this
            cases this
        -- what is done where the key is right
        have go : ∀ (hok : okAfter ltT last a = true), ∃ H' : Hp, DPut H4 D (.str a) v H' ∧ (∃ (last' : Option Str) (acc' : List (Str × Kd)) (kvs' : List (Key × V)) (s4 s5 s6 : Option V), [some (V.str x), some (.ref ft), some (.ref D), some (.str a), some (.int (i : Nat)), some (.str l), some (.ref q)] = [some (.str x), some (.ref ft), some (.ref D), some (lastV last'), s4, s5, s6] ∧ Same H H' ∧ SameB D H1 H' ∧ H' D = some (.dK kvs') ∧ KvO K CT H' kvs' acc' ∧
            (∀ q ∈ acc', ∃ k0, last' = some k0 ∧ (q.1 = k0 ∨ ltT q.1 k0 = true)) ∧ acc'.length ≤ i + 1 ∧ runParts x = match runP partOf ltT (ls.drop (i + 1)) (i + 1) last' with | .inl j => .inl j | .inr r => .inr (acc' ++ r)) := fun hok => by
          have hd4 : H4 D = some (.dK kvs) := s4' _ _ (sT _ _ hd)
          have hkv4 := hkv.same (Same.trans sT s4')
          have hno : valV kvs (.inr a) = none := by
            rcases kvo_val a hkv4 with ⟨z, _⟩ | ⟨v', k', _, h2, _⟩
            · exact z
            · rw [kOf_none (hnew hok)] at h2; cases h2
          refine ⟨upd H4 D (.dK (kvs ++ [(.inr a, v)])), .inl ⟨kvs, .inr a, hd4, rfl, szlt (by rw [hkv4.length]; omega), by rw [putK_new v hno]⟩, some a, acc ++ [(a, k)], _, _, _, _, rfl, same_put sH4 hD, ?_, upd_same, ?_, ?_, ?_, ?_⟩
          · exact SameB.trans (SameB.trans sb (sB (Same.trans sT s4'))) sameB_upd
          · exact (hkv4.sameL (sameL_upd hd4 rfl)).snoc (ty.sameL (sameL_upd hd4 rfl))
          · intro q' hq'
            refine ⟨a, rfl, ?_⟩
            rcases List.mem_append.mp hq' with hq' | hq'
            · obtain ⟨k0, rfl, h⟩ := hlast q' hq'
              have h2 : ltT k0 a = true := hok
              rcases h with h | h
              · rw [h]; exact .inr h2
              · exact .inr (ltT_trans _ _ _ h h2)
            · rw [List.mem_singleton.mp hq']; exact .inl rfl
          · rw [List.length_append]; show acc.length + 1 ≤ i + 1; omega
          · rw [hrun, runP_go hk hok]
            cases runP partOf ltT (ls.drop (i + 1)) (i + 1) (some a) with
            | inl j => rfl
            | inr r => show Sum.inr (acc ++ (a, k) :: r) = Sum.inr (acc ++ [(a, k)] ++ r); rw [List.append_assoc]; rfl
        have fin : okAfter ltT last a = true → _ := fun hok => go hok
        cases last with
        | none =>
          obtain ⟨H5, hput, hinv⟩ := go rfl
          exact iteFo (by rw [show lastV none = V.non from rfl, decide_eq_true rfl]; rfl) ⟨_, rfl, q, _, 0, _, rfl, rfl, SqT.of hq, rfl, _, rfl, q, _, 1, _, rfl, rfl, SqT.of hq, rfl, _, rfl, _, rfl, D, H5, rfl, hput, hinv⟩
        | some k0 =>
          refine iteTo (by rw [decide_eq_false (fun z => by cases z)]; rfl) ⟨_, rfl, q, _, 0, _, rfl, rfl, SqT.of hq, rfl, _, rfl, a, k0, rfl, rfl, _, rfl, ?_⟩
          show if (!decide (tl k0 < tl a)) = true then _ else _
          cases hok : ltT k0 a with
          | false =>
            have e1 : (!decide (tl k0 < tl a)) = true := by have := hok; unfold ltT at this; rw [this]; rfl
            rw [runP_bad hk (show okAfter ltT (some k0) a = false from hok)] at hrun
            exact iteTo e1 ⟨_, rfl, pe_body fun d H5 s5' hd5 => kE i hrun d H5 (Same.trans sH4 s5') hd5⟩
          | true =>
            have e1 : (!decide (tl k0 < tl a)) = false := by have := hok; unfold ltT at this; rw [this]; rfl
            obtain ⟨H5, hput, hinv⟩ := go hok
            exact iteFo e1 ⟨_, rfl, q, _, 0, _, rfl, rfl, SqT.of hq, rfl, _, rfl, q, _, 1, _, rfl, rfl, SqT.of hq, rfl, _, rfl, _, rfl, D, H5, rfl, hput, hinv⟩
    · subst hσ
      rw [List.length_map, List.drop_length] at hrun
      have e : runParts x = .inr acc := by rw [hrun]; show Sum.inr (acc ++ []) = _; rw [List.append_nil]
      exact ⟨_, rfl, kS acc e D kvs H2 sH hd hkv⟩
end
end Fp
/-! W19: read_library, write_library, Library.__eq__ -/
namespace Fp
open PySem PySem.Spec PyProof.Rows L2 TL
theorem partOf_ok {x : Str} {a : Str} {k : Kd} (h : partOf x = some (a, k)) : isWord a = true ∧ wds k = true ∧ plc k ≤ 15 ∧ ordK k ≤ 4 ∧ x = lineOf (a, k) := by
  unfold partOf at h
  have ne : tl (Str.ofString " : ") ≠ [] := by rw [colon_tl]; simp
  have hb := (split_back (x := x) ne colon_ok).1
  generalize Txt.split x (Str.ofString " : ") = ps at h hb
  split at h
  · rename_i a' b'
    split at h
    · rename_i hw
      split at h
      · rename_i k' hk
        cases h
        obtain ⟨h1, h2, h3⟩ := parse_small hk
        have hs := parse_sound hk
        refine ⟨hw, h1, h2, h3, ?_⟩
        refine ext_tl ?_
        unfold lineOf
        rw [tl_app, tl_app, tl_app, hs, ← hb, colon_tl]
        have e0 : tl Str.empty = [] := rfl
        rw [e0]
        simp [joinL]
      · cases h
    · cases h
  · cases h
theorem runParts_ok {x : Str} {r : List (Str × Kd)} (hx : x.length ≤ 90000) (h : runParts x = .inr r) : PartsOk r := by
  unfold runParts at h
  have he := runP_each h
  obtain ⟨ha, _⟩ := runP_asc ltT_trans h
  have hm : ∀ p ∈ r, ∃ l, partOf l = some p := fun p hp => by
    have : some p ∈ (linesOf x).map partOf := by rw [he]; exact List.mem_map.mpr ⟨p, hp, rfl⟩
    obtain ⟨l, _, hl⟩ := List.mem_map.mp this
    exact ⟨l, hl⟩
  have hl : r.length = (linesOf x).length := by
    have := congrArg List.length he
    rw [List.length_map, List.length_map] at this
    exact this.symm
  refine ⟨fun p hp => ?_, asc_nodup ha, by rw [hl]; have := (linesOf_le (x := x)).2; omega, fun p hp => ?_⟩
  · obtain ⟨l, h1⟩ := hm p hp
    exact (partOf_ok h1).1
  · obtain ⟨l, h1⟩ := hm p hp
    have := partOf_ok h1
    exact ⟨this.2.1, by have := this.2.2.1; omega⟩
/-! sorted names stand still -/
theorem ltCps_ltT (x y : Str) : ltCps x.cps.toList y.cps.toList = ltT x y := by
  unfold ltT
  exact ltCps_eq _ _
theorem sortedS_pair : ∀ {l : List Str}, sortedS l = true → l.Pairwise (fun a b => ltT b a = false)
  | [], _ => .nil
  | [x], _ => List.pairwise_singleton _ _
  | x :: y :: r, h => by
    have h' : (!ltCps y.cps.toList x.cps.toList && risingS y r) = true := h
    rw [Bool.and_eq_true, Bool.not_eq_true', ltCps_ltT] at h'
    have ih := sortedS_pair (l := y :: r) h'.2
    refine List.pairwise_cons.mpr ⟨fun z hz => ?_, ih⟩
    rcases List.mem_cons.mp hz with rfl | hz
    · exact h'.1
    · have h2 := (List.pairwise_cons.mp ih).1 z hz
      cases e : ltT z x with
      | false => rfl
      | true =>
        exfalso
        -- z < x, and x <= y, and y <= z
        unfold ltT at e h2 h'
        rw [decide_eq_true_eq] at e
        rw [decide_eq_false_iff_not] at h2
        have h3 := h'.1
        rw [decide_eq_false_iff_not] at h3
        exact h3 (List.lt_of_le_of_lt (List.not_lt.mp h2) e)
theorem ltT_tri {a b : Str} (h1 : ltT a b = false) (h2 : ltT b a = false) : a = b := by
  unfold ltT at h1 h2
  rw [decide_eq_false_iff_not] at h1 h2
  exact ext_tl (List.le_antisymm (List.not_lt.mp h2) (List.not_lt.mp h1))
theorem asc_of_sorted {l : List Str} (h : sortedS l = true) (n : l.Nodup) : l.Pairwise (fun a b => ltT a b = true) := by
  have h1 := sortedS_pair h
  refine List.Pairwise.imp₂ (fun {a b} hab hne => ?_) h1 n
  cases e : ltT a b with
  | true => rfl
  | false => exact absurd (ltT_tri e hab) hne
theorem asc_unique : ∀ {l m : List Str}, l.Pairwise (fun a b => ltT a b = true) → m.Pairwise (fun a b => ltT a b = true) → l.Perm m → l = m
  | [], m, _, _, p => (List.nil_perm.mp p).symm
  | x :: l, m, h1, h2, p => by
    cases m with
    | nil => exact absurd p.symm (by simp)
    | cons y m =>
      obtain ⟨a1, a2⟩ := List.pairwise_cons.mp h1
      obtain ⟨b1, b2⟩ := List.pairwise_cons.mp h2
      have e : x = y := by
        have hx : x ∈ y :: m := p.mem_iff.mp (by simp)
        have hy : y ∈ x :: l := p.mem_iff.mpr (by simp)
        rcases List.mem_cons.mp hx with e | hx
        · exact e
        rcases List.mem_cons.mp hy with e | hy
        · exact e.symm
        have h3 := ltT_trans _ _ _ (a1 y hy) (b1 x hx)
        rw [ltT_irr] at h3
        cases h3
      subst e
      rw [asc_unique a2 b2 (List.perm_cons x |>.mp p)]
theorem perm_of_names {α : Type} {ps ps' : List (Str × α)} (p : ps'.Perm ps) (h : ps'.map Prod.fst = ps.map Prod.fst) (n : (ps.map Prod.fst).Nodup) : ps' = ps := by
  apply List.ext_getElem?
  intro i
  have hi := congrArg (fun l => l[i]?) h
  simp only [List.getElem?_map] at hi
  cases e : ps'[i]? with
  | none =>
    rw [e] at hi
    cases e2 : ps[i]? with
    | none => rfl
    | some q => rw [e2] at hi; simp at hi
  | some q =>
    rw [e] at hi
    cases e2 : ps[i]? with
    | none => rw [e2] at hi; simp at hi
    | some q2 =>
      rw [e2] at hi
      have hk : q.1 = q2.1 := by simpa using hi
      have m1 : q ∈ ps := p.mem_iff.mp (List.mem_of_getElem? e)
      have m2 : q2 ∈ ps := List.mem_of_getElem? e2
      have k1 := kOf_mem n (show (q.1, q.2) ∈ ps from m1)
      have k2 := kOf_mem n (show (q2.1, q2.2) ∈ ps from m2)
      rw [hk, k2] at k1
      have := Option.some.inj k1
      obtain ⟨q1, q2'⟩ := q
      obtain ⟨r1, r2⟩ := q2
      dsimp only at hk this
      rw [hk, this]
/-- parts whose names ascend stand in a library as they are -/
theorem sorted_same {α : Type} {ps ps' : List (Str × α)} (p : ps'.Perm ps) (h : sortedS (ps'.map Prod.fst) = true) (a : (ps.map Prod.fst).Pairwise (fun a b => ltT a b = true)) : ps' = ps := by
  have n := asc_nodup a
  have n' : (ps'.map Prod.fst).Nodup := (p.map _).nodup_iff.mpr n
  exact perm_of_names p (asc_unique (asc_of_sorted h n') a (p.map _)) n
section
variable {P : Program} {w : World} {K : PySem.W.Frag} {mg : Str → Option Value} {base : Heap}
abbrev s_read_library : Stmt := top 67
abbrev N_read_library : List Str := ["text"]
theorem sc_read_library : FnScope N_read_library ["text"] (defScope s_read_library) := ⟨rfl, rfl, rfl, by decide +kernel, rfl, by decide +kernel, by decide +kernel⟩
def sp_read_library (K : PySem.W.Frag) (CL CIL CP : Addr) : Sp := fun vs H Q E => ∃ x : Str, vs = [.str x] ∧ x.length ≤ 90000 ∧ (∀ j, runParts x = .inl j → PeQ CP H (.int (j : Nat)) E) ∧ ∀ r, runParts x = .inr r → (r.length ≤ 8 → ∀ v H', Same H H' → LibO K CL H' v (r.map lineOf) → Q v H') ∧ (8 < r.length → ∀ H', Same H H' → E (.ref CIL) none H')
theorem ok_read_library {CT CL CIL CP f ft : Addr} {fd : FuncData} (F : Fun K "read_library" "read_library" s_read_library f fd) (gt : mg "line_told" = some (.ref ft))
    (c_pairs : Cal P w K mg base (L2.CX P w) 14 "pairs_told" (sp_pairs_parts K CT CP ft)) (c_make : MkC P w K mg base (L2.CX P w) 3 "Library" CL (sp_Library_init K CT CL CIL) []) : FnOk P w K mg base (L2.CX P w) 15 f fd ["text"] (sp_read_library K CL CIL CP) := by
  refine F.okX sc_read_library (fun vs H Q E h => ?_) (fun cdv A outer s H vs Q E hr h => ?_)
  · obtain ⟨x, rfl, _⟩ := h
    rfl
  · obtain ⟨x, rfl, hx, kE, kS⟩ := h
    refine ⟨_, (pss_one (ps_ret (pe_mkx c_make hr (passes_call (takes_of rfl rfl rfl rfl) (fun _ _ _ _ h => h)) (ha := (pa_cons (pe_cx c_pairs hr (fun σ => passAt (takes_of rfl rfl rfl rfl) σ) (ha := (pa_cons (pv 0) (pa_cons (pe_gv (v := .ref ft) ⟨_, gt, rfl⟩) pa_nil)))) pa_nil))))), ?_⟩
    refine ⟨_, rfl, x, rfl, by omega, kE, fun r hr0 d kvs H1 s1 hd hkv o dx ho hdx hne => ?_⟩
    obtain ⟨k8, k9⟩ := kS r hr0
    have ha : (r.map Prod.fst).Pairwise (fun a b => ltT a b = true) := (runP_asc ltT_trans (show runP partOf ltT (linesOf x) 0 none = .inr r from hr0)).1
    refine ⟨H1, o, dx, _, r, rfl, same_upd (same_new hdx) (by rw [upd_ne hne.symm]; exact ho), ho, upd_same, .inr ⟨d, kvs, rfl, hd, hkv⟩, runParts_ok hx hr0, fun h8 H2 ps' s2 hp hs hL => ⟨rfl, ?_⟩, fun h8 H2 s2 => k9 h8 _ (Same.trans s1 s2)⟩
    rw [sorted_same hp hs ha] at hL
    exact k8 h8 _ _ (Same.trans s1 s2) hL
/-! ### write_library -/
abbrev s_require_library : Stmt := top 40
abbrev N_require_library : List Str := ["value"]
theorem sc_require_library : FnScope N_require_library ["value"] (defScope s_require_library) := ⟨rfl, rfl, rfl, by decide +kernel, rfl, by decide +kernel, by decide +kernel⟩
def sp_require_library (K : PySem.W.Frag) (CL : Addr) : Sp := fun vs H Q _ => ∃ a dx fs, vs = [.ref a] ∧ H a = some (.ins CL dx fs) ∧ Q .non H
theorem ok_require_library {CL f : Addr} {fd : FuncData} (F : Fun K "require_library" "require_library" s_require_library f fd) (N : Nm mg) (L : Lbf K mg CL) : FnOk P w K mg base CX0 1 f fd ["value"] (sp_require_library K CL) := by
  refine F.ok sc_require_library (fun vs H Q E h => ?_) (fun cdv A outer s H vs Q E hr h => ?_)
  · obtain ⟨a, dx, fs, rfl, _⟩ := h
    rfl
  · obtain ⟨a, dx, fs, rfl, ha, k⟩ := h
    refine ⟨_, (pss_one (ps_if (pt_not (pt_val (pe_callB (C8.call_isC L.insC) (by rfl) N.isi (by decide +kernel) (pa_cons (pv 0) (pa_cons (pe_gv L.g) pa_nil))))) pss_never pss_nil)), ?_⟩
    exact ⟨_, rfl, a, dx, fs, rfl, ha, _, rfl, iteF k⟩
def libTxt (ls : List Str) : Str := if ls = [] then Str.ofString "none" else Txt.join (Str.ofString "\n") ls
abbrev s_write_library : Stmt := top 65
abbrev N_write_library : List Str := ["library"]
theorem sc_write_library : FnScope N_write_library ["library"] (defScope s_write_library) := ⟨rfl, rfl, rfl, by decide +kernel, rfl, by decide +kernel, by decide +kernel⟩
def sp_write_library (K : PySem.W.Frag) (CL : Addr) : Sp := fun vs H Q _ => ∃ v ls, vs = [v] ∧ LibO K CL H v ls ∧ (ls.map (·.length)).sum + ls.length ≤ 1000000 ∧ ∀ H', Same H H' → Q (.str (libTxt ls)) H'
theorem ok_write_library {CL f : Addr} {fd : FuncData} (F : Fun K "write_library" "write_library" s_write_library f fd) (N : Nm mg) (L : Lbf K mg CL) (c_req : Cal P w K mg base CX0 1 "require_library" (sp_require_library K CL)) : FnOk P w K mg base CX0 2 f fd ["library"] (sp_write_library K CL) := by
  refine F.ok sc_write_library (fun vs H Q E h => ?_) (fun cdv A outer s H vs Q E hr h => ?_)
  · obtain ⟨v, ls, rfl, _⟩ := h
    rfl
  · obtain ⟨v, ls, rfl, ⟨a, dx, fs, ln, rfl, ha, hf, hln⟩, hz, k⟩ := h
    refine ⟨_, (pss_cons (ps_expr (pe_c c_req hr (ha := (pa_cons (pv 0) pa_nil))))
      (pss_one (ps_ret (pe_ifExp (pt_cmpR (op_neNil hr.units0) (pe_fld (pv 0) rfl) (pe_tup pa_nil) (nomark _)) (pe_join pe_str (pe_callTy call_list_of (by rfl) N.list (by decide +kernel) (pa_cons (pe_fld (pv 0) rfl) pa_nil))) (pe_gv N.NONE))))), ?_⟩
    refine ⟨_, rfl, a, dx, fs, rfl, ha, _, rfl, a, CL, dx, _, _, rfl, ha, L.cl, L.lines, hf, Nat.zero_le _, fun t ht => ?_⟩
    have s1 := same_new (o := .tup []) ht
    refine ⟨ln, t, _, rfl, rfl, .inr ⟨SqT.same s1 hln, SqT.of upd_same⟩, _, rfl, ?_⟩
    have l1 : (Str.ofString "\n").length = 1 := by decide +kernel
    unfold libTxt at k
    cases ls with
    | nil => exact iteF (k _ s1)
    | cons x xs =>
      rw [if_neg (by simp)] at k
      refine iteT ⟨⟨_, rfl⟩, _, rfl, a, CL, dx, _, _, rfl, s1 _ _ ha, L.cl, L.lines, hf, ln, _, rfl, .inr (SqT.same s1 hln), fun l hl => ⟨_, l, x :: xs, rfl, rfl, .inl (SqL.of upd_same), by rw [l1]; omega, k _ (Same.trans s1 (same_new hl))⟩⟩
end
end Fp
/-! R5: list(zip(t, u)) of two tuples -/
namespace Fp
open PySem PySem.Spec PyProof.Rows L2
open PySem.Sem (wp)
abbrev ZipO (TI TO : Addr) (st : Value) (f : Bool) : Obj := { cls := .type "zip", data := .fields #[st, .bool f, .bool false, .ref TI, .ref TO] }
section
variable {prog : Program} {w : World} {A : Around} {E : Value → Shared → Prop} {s : Shared}
/-- while the last pair is held, the zip's own is not free -/
theorem zout_free {z TI TO a : Addr} {f : Bool} {oa : Obj} {Q : Bool → Shared → Prop} (hz : s.heap.get? z = some (ZipO TI TO (rawInt a) f)) (ha : s.heap.get? a = some oa)
    (hQ : ∀ h₁, h₁.get? z = some (ZipO TI TO (rawInt a) true) → Heap.SameBut z s.heap h₁ → Q false { s with heap := h₁ }) : wpAny (model prog w) A (Builtin.SmallTypes.ownedTupleIsFree (.ref z)) Q E s := by
  unfold Builtin.SmallTypes.ownedTupleIsFree
  refine wpAny_bind (wpAny_field hz rfl (x := rawInt a) rfl ?_)
  show wpAny _ _ (loadIfAlive ((a : Int).toNat) >>= _) _ _ _
  rw [Int.toNat_natCast]
  refine wpAny_bind (PySem.W.kdx_alive ha ?_)
  simp only [Option.isNone_some, Bool.false_eq_true, if_false]
  refine wpAny_bind (wpAny_field hz rfl (x := .bool f) rfl ?_)
  cases f with
  | true =>
    rw [if_neg (show ¬ ((Value.bool true != Value.bool true) = true) from Bool.false_ne_true)]
    exact wpAny_pure (hQ s.heap hz (Heap.SameBut.refl _ _))
  | false =>
    rw [if_pos (show (Value.bool false != Value.bool true) = true from rfl)]
    exact wpAny_bind (wpAny_setField_rec hz (by simp) fun h₁ hz₁ hs₁ => wpAny_pure (hQ h₁ hz₁ hs₁))
/-- the next pair while the last one is still held -/
theorem zout_item {z TI TO i1 i2 l1 l2 a : Addr} {f : Bool} {oa : Obj} {k1 k2 : Nat} {xs ys : Array Value} {x y : Value} {Q : Value → Shared → Prop} (D : ZipApart z TI TO i1 i2 l1 l2)
    (hz : s.heap.get? z = some (ZipO TI TO (rawInt a) f)) (ha : s.heap.get? a = some oa) (hTI : IsPair s.heap TI (.ref i1) (.ref i2))
    (h1 : s.heap.IsTupleIter i1 l1 k1) (h2 : s.heap.IsTupleIter i2 l2 k2) (hl1 : s.heap.IsTuple l1 xs) (hl2 : s.heap.IsTuple l2 ys) (hx : xs[k1]? = some x) (hy : ys[k2]? = some y)
    (hQ : ∀ h', h'.get? z = some (ZipO TI TO (rawInt a) true) → h'.IsTupleIter i1 l1 (k1 + 1) → h'.IsTupleIter i2 l2 (k2 + 1) → IsPair h' s.heap.objs.size x y → h'.objs.size = s.heap.objs.size + 1 →
      (∀ c o, c ≠ z → c ≠ i1 → c ≠ i2 → s.heap.get? c = some o → h'.get? c = some o) → Q (.ref s.heap.objs.size) { s with heap := h' }) :
    wpAny (model prog w) A (Builtin.«zip.__next__» ⟨[.ref z], []⟩) (fun fin s' => ∃ v, fin = .done (.ret v) ∧ Q v s') E s := by
  show wpAny _ _ (field (.ref z) 2 >>= _) _ _ _
  refine wpAny_bind (wpAny_field hz rfl (x := .bool false) rfl ?_)
  show wpAny _ _ (field (.ref z) 3 >>= _) _ _ _
  refine wpAny_bind (wpAny_field hz rfl (x := .ref TI) rfl (wpAny_bind (wpAny_seqItems hTI rfl ?_)))
  show wpAny _ _ (Builtin.SmallTypes.ownedTupleIsFree (.ref z) >>= _) _ _ _
  refine wpAny_bind (zout_free hz ha fun h₁ hz₁ hs₁ => ?_)
  simp only [Bool.false_eq_true, if_false]
  rw [← Array.forIn_toList]
  simp only [List.forIn_cons, List.forIn_nil]
  refine wpAny_bind (wpAny_bind (wpAny_bind (wpAny_holding ?_)))
  show wpAny _ _ (Builtin.SmallTypes.nextOf (.ref i1) >>= _) _ _ _
  refine wpAny_bind (RZ.nextOf_tuple_item (h1.extBut hs₁.extBut D.i1z) (hl1.extBut hs₁.extBut D.l1z) hx fun h₂ h1₂ hs₂ => wpAny_pure ?_)
  dsimp only
  refine wpAny_pure ?_
  dsimp only
  refine wpAny_bind (wpAny_bind (wpAny_holding ?_))
  show wpAny _ _ (Builtin.SmallTypes.nextOf (.ref i2) >>= _) _ _ _
  refine wpAny_bind (RZ.nextOf_tuple_item ((h2.extBut hs₁.extBut D.i2z).extBut hs₂.extBut D.i12.symm) ((hl2.extBut hs₁.extBut D.l2z).extBut hs₂.extBut D.l2i1) hy fun h₃ h2₃ hs₃ => wpAny_pure ?_)
  dsimp only
  refine wpAny_pure (wpAny_pure ?_)
  dsimp only
  refine wpAny_bind (wpAny_newTuple ?_ (by show 2 ≤ sizeLine; decide))
  have hsz : h₃.objs.size = s.heap.objs.size := by rw [hs₃.1, hs₂.1, hs₁.1]
  have hz₃ := hs₃.extBut _ _ D.i2z.symm (hs₂.extBut _ _ D.i1z.symm hz₁)
  have h1₃ := h1₂.extBut hs₃.extBut D.i12
  refine wpAny_pure ⟨_, rfl, ?_⟩
  show Q (.ref h₃.objs.size) _
  rw [hsz]
  refine hQ _ (Heap.get?_push_of_some _ hz₃) (h1₃.at fun o e => Heap.get?_push_of_some _ e) (h2₃.at fun o e => Heap.get?_push_of_some _ e) ?_ ?_ fun c o c1 c2 c3 e => Heap.get?_push_of_some _ (hs₃.extBut _ _ c3 (hs₂.extBut _ _ c2 (hs₁.extBut _ _ c1 e)))
  · rw [← hsz]; exact Heap.get?_push_size _ rfl
  · rw [Heap.size_push, hsz]
/-- the end, while the last pair is held -/
theorem zout_end {z TI TO i1 i2 l1 l2 a : Addr} {f : Bool} {oa : Obj} {k1 k2 : Nat} {xs ys : Array Value} {Q : Fin → Shared → Prop} (hh : A.handled = none) (D : ZipApart z TI TO i1 i2 l1 l2)
    (hz : s.heap.get? z = some (ZipO TI TO (rawInt a) f)) (ha : s.heap.get? a = some oa) (hTI : IsPair s.heap TI (.ref i1) (.ref i2))
    (h1 : s.heap.IsTupleIter i1 l1 k1) (h2 : s.heap.IsTupleIter i2 l2 k2) (hl1 : s.heap.IsTuple l1 xs) (hl2 : s.heap.IsTuple l2 ys) (hend : xs[k1]? = none ∨ ys[k2]? = none)
    (hE : ∀ h' e, (∀ c o, c ≠ z → c ≠ i1 → c ≠ i2 → s.heap.get? c = some o → h'.get? c = some o) → (∃ o, h'.get? e = some o ∧ o.cls = .type "StopIteration") → E (.ref e) { s with heap := h' }) :
    wpAny (model prog w) A (Builtin.«zip.__next__» ⟨[.ref z], []⟩) Q E s := by
  show wpAny _ _ (field (.ref z) 2 >>= _) _ _ _
  refine wpAny_bind (wpAny_field hz rfl (x := .bool false) rfl ?_)
  show wpAny _ _ (field (.ref z) 3 >>= _) _ _ _
  refine wpAny_bind (wpAny_field hz rfl (x := .ref TI) rfl (wpAny_bind (wpAny_seqItems hTI rfl ?_)))
  show wpAny _ _ (Builtin.SmallTypes.ownedTupleIsFree (.ref z) >>= _) _ _ _
  refine wpAny_bind (zout_free hz ha fun h₁ hz₁ hs₁ => ?_)
  simp only [Bool.false_eq_true, if_false]
  rw [← Array.forIn_toList]
  simp only [List.forIn_cons, List.forIn_nil]
  refine wpAny_bind (wpAny_bind (wpAny_bind (wpAny_holding ?_)))
  show wpAny _ _ (Builtin.SmallTypes.nextOf (.ref i1) >>= _) _ _ _
  cases hx : xs[k1]? with
  | none =>
    exact wpAny_bind (RZ.nextOf_tuple_end hh (h1.extBut hs₁.extBut D.i1z) (hl1.extBut hs₁.extBut D.l1z) hx fun h₂ e hs₂ he => hE h₂ e (fun c o c1 c2 c3 x => hs₂ _ _ c2 (hs₁.extBut _ _ c1 x)) he)
  | some x =>
    have hy : ys[k2]? = none := by rcases hend with h | h; rw [hx] at h; cases h; exact h
    refine wpAny_bind (RZ.nextOf_tuple_item (h1.extBut hs₁.extBut D.i1z) (hl1.extBut hs₁.extBut D.l1z) hx fun h₂ h1₂ hs₂ => wpAny_pure ?_)
    dsimp only
    refine wpAny_pure ?_
    dsimp only
    refine wpAny_bind (wpAny_bind (wpAny_holding ?_))
    show wpAny _ _ (Builtin.SmallTypes.nextOf (.ref i2) >>= _) _ _ _
    exact wpAny_bind (RZ.nextOf_tuple_end hh ((h2.extBut hs₁.extBut D.i2z).extBut hs₂.extBut D.i12.symm) ((hl2.extBut hs₁.extBut D.l2z).extBut hs₂.extBut D.l2i1) hy fun h₃ e hs₃ he => hE h₃ e (fun c o c1 c2 c3 x => hs₃ _ _ c3 (hs₂.extBut _ _ c2 (hs₁.extBut _ _ c1 x))) he)
/-! ### the loop of list.extend -/
/-- the zip at its k-th turn -/
structure ZS (h : Heap) (z TI TO i1 i2 l1 l2 : Addr) (xs ys : Array Value) (k : Nat) : Prop where
  st : IsZip h z TI TO .none ∧ IsPair h TO .none .none ∨ ∃ (a : Addr) (f : Bool) (oa : Obj), h.get? z = some (ZipO TI TO (rawInt a) f) ∧ h.get? a = some oa
  TI : IsPair h TI (.ref i1) (.ref i2)
  a : h.IsTupleIter i1 l1 k
  b : h.IsTupleIter i2 l2 k
  l : h.IsTuple l1 xs
  m : h.IsTuple l2 ys
theorem ZS.keep {h h' : Heap} {z TI TO i1 i2 l1 l2 S : Addr} {xs ys : Array Value} {k : Nat} (x : ZS h z TI TO i1 i2 l1 l2 xs ys k) (hS : S ∉ [z, TI, TO, i1, i2, l1, l2]) (hl : ∃ o, h'.get? S = some o) (hk : ∀ b o, b ≠ S → h.get? b = some o → h'.get? b = some o) : ZS h' z TI TO i1 i2 l1 l2 xs ys k := by
  simp only [List.mem_cons, List.not_mem_nil, or_false, not_or] at hS
  obtain ⟨s1, s2, s3, s4, s5, s6, s7⟩ := hS
  refine ⟨?_, hk _ _ (Ne.symm s2) x.TI, x.a.at fun o e => hk _ o (Ne.symm s4) e, x.b.at fun o e => hk _ o (Ne.symm s5) e, ?_, ?_⟩
  · rcases x.st with ⟨h1, h2⟩ | ⟨a, f, oa, h1, h2⟩
    · exact .inl ⟨hk _ _ (Ne.symm s1) h1, hk _ _ (Ne.symm s3) h2⟩
    · refine .inr ⟨a, f, ?_⟩
      by_cases e : a = S
      · obtain ⟨o, hl⟩ := hl
        exact ⟨o, hk _ _ (Ne.symm s1) h1, (congrArg h'.get? e).trans hl⟩
      · exact ⟨oa, hk _ _ (Ne.symm s1) h1, hk _ _ e h2⟩
  · obtain ⟨o, ho, r⟩ := x.l
    exact ⟨o, hk _ _ (Ne.symm s6) ho, r⟩
  · obtain ⟨o, ho, r⟩ := x.m
    exact ⟨o, hk _ _ (Ne.symm s7) ho, r⟩
theorem zs_item {z TI TO i1 i2 l1 l2 : Addr} {xs ys : Array Value} {k : Nat} {x y : Value} {Q : Option Value → Shared → Prop} (D : ZipApart z TI TO i1 i2 l1 l2) (hT : TI ≠ z ∧ TI ≠ i1 ∧ TI ≠ i2 ∧ TI ≠ TO) (hl : l1 ≠ z ∧ l1 ≠ i1 ∧ l1 ≠ i2 ∧ l1 ≠ TO ∧ l2 ≠ z ∧ l2 ≠ i1 ∧ l2 ≠ i2 ∧ l2 ≠ TO) (Z : ZS s.heap z TI TO i1 i2 l1 l2 xs ys k) (hx : xs[k]? = some x) (hy : ys[k]? = some y)
    (hQ : ∀ h', ZS h' z TI TO i1 i2 l1 l2 xs ys (k + 1) → IsPair h' s.heap.objs.size x y → h'.objs.size = s.heap.objs.size + 1 → (∀ c o, c ≠ z → c ≠ TO → c ≠ i1 → c ≠ i2 → s.heap.get? c = some o → h'.get? c = some o) → Q (some (.ref s.heap.objs.size)) { s with heap := h' }) :
    wpAny (model prog w) A (pyNext (.ref z)) Q E s := by
  have tup : ∀ {h' : Heap} {l : Addr} {vs : Array Value}, s.heap.IsTuple l vs → (l ≠ z ∧ l ≠ TO ∧ l ≠ i1 ∧ l ≠ i2) → (∀ c o, c ≠ z → c ≠ TO → c ≠ i1 → c ≠ i2 → s.heap.get? c = some o → h'.get? c = some o) → h'.IsTuple l vs := fun {h' l vs} t n k => by
    obtain ⟨o, ho, r⟩ := t
    exact ⟨o, k _ _ n.1 n.2.1 n.2.2.1 n.2.2.2 ho, r⟩
  rcases Z.st with ⟨hz, hTO⟩ | ⟨a, f, oa, hz, ha⟩
  · refine RZ.pyNext_zipT_item D hz Z.TI hTO Z.a Z.b Z.l Z.m hx hy fun h' a1 a2 a3 a4 a5 a6 a7 => ?_
    exact hQ h' ⟨.inr ⟨_, false, _, a1, a5⟩, a7 _ _ hT.1 hT.2.2.2 hT.2.1 hT.2.2.1 Z.TI, a3, a4, tup Z.l ⟨hl.1, hl.2.2.2.1, hl.2.1, hl.2.2.1⟩ a7, tup Z.m ⟨hl.2.2.2.2.1, hl.2.2.2.2.2.2.2, hl.2.2.2.2.2.1, hl.2.2.2.2.2.2.1⟩ a7⟩ a5 a6 a7
  · have hTy : s.TypeIs (.ref z) "zip" := ⟨_, hz, rfl⟩
    unfold pyNext
    refine wpAny_bind (wpAny_attempt (wpAny_callSpecial?_slot (name := Str.ofString "__next__") hTy PySem.F.slot_zip_next (wpAny_call_entry PySem.F.slot_zip_next hTy PySem.F.entry_zip_next
      (zout_item D hz ha Z.TI Z.a Z.b Z.l Z.m hx hy fun h' a1 a3 a4 a5 a6 a7 => wpAny_pure ?_) (PySem.F.args_zip_next_1 _))))
    have a7' : ∀ c o, c ≠ z → c ≠ TO → c ≠ i1 → c ≠ i2 → s.heap.get? c = some o → h'.get? c = some o := fun c o c1 _ c3 c4 e => a7 c o c1 c3 c4 e
    refine hQ h' ⟨.inr ?_, a7 _ _ hT.1 hT.2.1 hT.2.2.1 Z.TI, a3, a4, tup Z.l ⟨hl.1, hl.2.2.2.1, hl.2.1, hl.2.2.1⟩ a7', tup Z.m ⟨hl.2.2.2.2.1, hl.2.2.2.2.2.2.2, hl.2.2.2.2.2.1, hl.2.2.2.2.2.2.1⟩ a7'⟩ a5 a6 a7'
    -- what was handed out is still there
    by_cases e1 : a = z
    · exact ⟨a, true, _, a1, (congrArg h'.get? e1).trans a1⟩
    by_cases e3 : a = i1
    · obtain ⟨o, ho, _⟩ := a3
      exact ⟨a, true, o, a1, e3 ▸ ho⟩
    by_cases e4 : a = i2
    · obtain ⟨o, ho, _⟩ := a4
      exact ⟨a, true, o, a1, e4 ▸ ho⟩
    exact ⟨a, true, oa, a1, a7 a _ e1 e3 e4 ha⟩
theorem zs_end {z TI TO i1 i2 l1 l2 : Addr} {xs ys : Array Value} {k : Nat} {Q : Option Value → Shared → Prop} (hh : A.handled = none) (D : ZipApart z TI TO i1 i2 l1 l2) (Z : ZS s.heap z TI TO i1 i2 l1 l2 xs ys k) (hend : xs[k]? = none ∨ ys[k]? = none)
    (hQ : ∀ h', (∀ c o, c ≠ z → c ≠ TO → c ≠ i1 → c ≠ i2 → s.heap.get? c = some o → h'.get? c = some o) → Q none { s with heap := h' }) : wpAny (model prog w) A (pyNext (.ref z)) Q E s := by
  rcases Z.st with ⟨hz, hTO⟩ | ⟨a, f, oa, hz, ha⟩
  · exact RZ.pyNext_zipT_end hh D hz Z.TI hTO Z.a Z.b Z.l Z.m hend hQ
  · have hTy : s.TypeIs (.ref z) "zip" := ⟨_, hz, rfl⟩
    unfold pyNext
    refine wpAny_bind (wpAny_attempt (wpAny_callSpecial?_slot (name := Str.ofString "__next__") hTy PySem.F.slot_zip_next (wpAny_call_entry PySem.F.slot_zip_next hTy PySem.F.entry_zip_next
      (zout_end hh D hz ha Z.TI Z.a Z.b Z.l Z.m hend fun h' e hk he => ?_) (PySem.F.args_zip_next_1 _))))
    obtain ⟨o, ho, hc⟩ := he
    refine wpAny_bind (wpAny_isInstance (T := "StopIteration") (b := true) ⟨o, ho, hc⟩ isSubtype_stop ?_)
    exact wpAny_pure (hQ _ fun c o c1 _ c3 c4 e => hk c o c1 c3 c4 e)
end
section
variable {prog : Program} {w : World} {A : Around} {s : Shared} {R : Result → Shared → Prop}
/-- the pairs that were laid -/
def Prs2 (h : Heap) (lo : Nat) (xs ys : Array Value) (as : List Addr) : Prop := as.Pairwise (fun a b => a < b) ∧ ∀ (i : Nat) (t : Addr), as[i]? = some t → lo ≤ t ∧ ∃ x y, xs[i]? = some x ∧ ys[i]? = some y ∧ IsPair h t x y
theorem zl_loop {z TI TO i1 i2 l1 l2 S lo : Addr} {xs ys : Array Value} {n : Nat} (hh : A.handled = none) (D : ZipApart z TI TO i1 i2 l1 l2) (hS : S ∉ [z, TI, TO, i1, i2, l1, l2]) (hn : n = min xs.size ys.size) (hz : n ≤ sizeLine) (res : Value) (hlo : z < lo ∧ TO < lo ∧ i1 < lo ∧ i2 < lo ∧ S < lo) {h₁ : Heap}
    (hR : ∀ h' tk acc c as, (∀ b o, b ≠ S → b ≠ z → b ≠ TO → b ≠ i1 → b ≠ i2 → h₁.get? b = some o → h'.get? b = some o) → h'.get? S = some { cls := .type "list", dict := none, data := .seq acc c, slots := #[] } → as.length = n → Prs2 h' lo xs ys as →
      acc.toList = as.map Value.ref → R (.ok (.ret res)) { s with heap := h', toks := tk }) :
    ∀ (k i : Nat) (h : Heap) (tk c : Nat) (acc : Array Value) (as : List Addr), n - i = k → i ≤ n → ZS h z TI TO i1 i2 l1 l2 xs ys i → (∀ b o, b ≠ S → b ≠ z → b ≠ TO → b ≠ i1 → b ≠ i2 → h₁.get? b = some o → h.get? b = some o) →
      h.get? S = some { cls := .type "list", dict := none, data := .seq acc c, slots := #[] } → acc.toList = as.map Value.ref → as.length = i → Prs2 h lo xs ys as → lo ≤ h.objs.size →
      codeAny (model prog w) A (.builtin "list.extend.loop" ⟨[.ref S, .ref z, res], []⟩) R { s with heap := h, toks := tk } := by
  have hS' := hS
  simp only [List.mem_cons, List.not_mem_nil, or_false, not_or] at hS'
  obtain ⟨s1, s2, s3, s4, s5, s6, s7⟩ := hS'
  intro k
  induction k with
  | zero =>
    intro i h tk c acc as hk hi Z hkeep hSl hacc hal hP hls
    have hin : i = n := by omega
    refine codeAny_builtin PySem.F.entry_extend_loop ?_
    rw [Around.under_plainId PySem.F.plain_extend_loop _]
    show wpAny _ A.in1 (pyNext (.ref z) >>= _) _ _ _
    have hend : xs[i]? = none ∨ ys[i]? = none := by
      by_cases e : xs.size ≤ ys.size
      · exact .inl (Array.getElem?_eq_none (by omega))
      · exact .inr (Array.getElem?_eq_none (by omega))
    refine wpAny_bind (zs_end (s := { s with heap := h, toks := tk }) (A := A.in1) hh D Z hend fun h' he => ?_)
    refine wpAny_pure (hR h' tk acc c as (fun b o b1 b2 b3 b4 b5 e => he b o b2 b3 b4 b5 (hkeep b o b1 b2 b3 b4 b5 e)) (he S _ s1 s3 s4 s5 hSl) (by omega) ⟨hP.1, fun j t hj => ?_⟩ hacc)
    obtain ⟨a1, x, y, a2, a3, a4⟩ := hP.2 j t hj
    exact ⟨a1, x, y, a2, a3, he t _ (Nat.ne_of_gt (Nat.lt_of_lt_of_le hlo.1 a1)) (Nat.ne_of_gt (Nat.lt_of_lt_of_le hlo.2.1 a1)) (Nat.ne_of_gt (Nat.lt_of_lt_of_le hlo.2.2.1 a1)) (Nat.ne_of_gt (Nat.lt_of_lt_of_le hlo.2.2.2.1 a1)) a4⟩
  | succ k ih =>
    intro i h tk c acc as hk hi Z hkeep hSl hacc hal hP hls
    have hlt : i < n := by omega
    obtain ⟨x, hx⟩ : ∃ x, xs[i]? = some x := ⟨xs[i]'(by omega), Array.getElem?_eq_getElem (by omega)⟩
    obtain ⟨y, hy⟩ : ∃ y, ys[i]? = some y := ⟨ys[i]'(by omega), Array.getElem?_eq_getElem (by omega)⟩
    have hsz : acc.size = i := by rw [← Array.length_toList, hacc, List.length_map, hal]
    refine codeAny_builtin PySem.F.entry_extend_loop ?_
    rw [Around.under_plainId PySem.F.plain_extend_loop _]
    show wpAny _ A.in1 (pyNext (.ref z) >>= _) _ _ _
    refine wpAny_bind (zs_item (s := { s with heap := h, toks := tk }) D ⟨D.TIz, D.TIi1, D.TIi2, D.TITO⟩ ⟨D.l1z, D.l1i1, D.l1i2, D.l1TO, D.l2z, D.l2i1, D.l2i2, D.l2TO⟩ Z hx hy fun h' Z' hT hz' hkp => ?_)
    dsimp only at hT hz' hkp ⊢
    have hSl' := hkp S _ s1 s3 s4 s5 hSl
    have up : ∀ b o, b ≠ S → h'.get? b = some o → (h'.update S (Obj.mapSeq (·.push (Value.ref h.objs.size)))).get? b = some o := fun b o hb e => (Heap.get?_update_other _ _ (Ne.symm hb)).trans e
    show wpAny _ A.in1 (updateSeq S (·.push (Value.ref h.objs.size)) >>= _) _ _ _
    have nS := Heap.get?_update_self (Obj.mapSeq (·.push (Value.ref h.objs.size))) hSl' rfl
    refine wpAny_bind (wpAny_updateSeq hSl' rfl (wpAny_pure ⟨plainId_quiet PySem.F.plain_extend_loop _, ih (i + 1) _ tk _ (acc.push (Value.ref h.objs.size)) (as ++ [h.objs.size]) (by omega) hlt (Z'.keep hS ⟨_, nS⟩ up)
      (fun b o b1 b2 b3 b4 b5 e => up b o b1 (hkp b o b2 b3 b4 b5 (hkeep b o b1 b2 b3 b4 b5 e))) nS (by rw [Array.toList_push, hacc, List.map_append]; rfl) (by rw [List.length_append, hal]; rfl) ?_ ?_⟩) (by rw [hsz]; omega) ?_)
    · refine ⟨List.pairwise_append.mpr ⟨hP.1, List.pairwise_singleton _ _, fun a ha b hb => ?_⟩, ?_⟩
      · rw [List.mem_singleton.mp hb]
        obtain ⟨j, hj⟩ := List.mem_iff_getElem?.mp ha
        obtain ⟨_, _, _, _, _, e⟩ := hP.2 j a hj
        exact Heap.lt_size e
      intro j t hj
      rcases Nat.lt_trichotomy j as.length with e1 | e1 | e1
      · rw [List.getElem?_append_left e1] at hj
        obtain ⟨a1, x', y', a2, a3, a4⟩ := hP.2 j t hj
        exact ⟨a1, x', y', a2, a3, up t _ (Nat.ne_of_gt (Nat.lt_of_lt_of_le hlo.2.2.2.2 a1)) (hkp t _ (Nat.ne_of_gt (Nat.lt_of_lt_of_le hlo.1 a1)) (Nat.ne_of_gt (Nat.lt_of_lt_of_le hlo.2.1 a1)) (Nat.ne_of_gt (Nat.lt_of_lt_of_le hlo.2.2.1 a1)) (Nat.ne_of_gt (Nat.lt_of_lt_of_le hlo.2.2.2.1 a1)) a4)⟩
      · subst e1
        have et : h.objs.size = t := by simpa using hj
        subst et
        exact ⟨hls, x, y, by rw [hal]; exact hx, by rw [hal]; exact hy, up _ _ (Nat.ne_of_gt (Nat.lt_of_lt_of_le hlo.2.2.2.2 hls)) hT⟩
      · rw [List.getElem?_eq_none (by rw [List.length_append, List.length_singleton]; omega)] at hj
        cases hj
    · have e := up _ _ (Nat.ne_of_gt (Nat.lt_of_lt_of_le hlo.2.2.2.2 hls)) hT
      exact Nat.le_of_lt (Nat.lt_of_le_of_lt hls (Heap.lt_size e))
    · rw [Array.size_push, hsz]; omega
end
end Fp
/-! R6: list(zip(t, u)): the call and its rule -/
namespace Fp
open PySem PySem.Spec PyProof.Rows L2
theorem zl_len : typeLookup (.type "zip") "__len__" = pure none := by rw [typeLookup_type, builtinLookup_eq_fast]; kernel_rfl
theorem zl_lenhint : typeLookup (.type "zip") "__length_hint__" = pure none := by rw [typeLookup_type, builtinLookup_eq_fast]; kernel_rfl
section
variable {prog : Program} {w : World} {A : Around} {E : Value → Shared → Prop} {s : Shared} {r : Addr}
theorem zl_hint (hT : s.TypeIs (.ref r) "zip") {Q : Bool → Shared → Prop} (h : Q true s) : wpAny (model prog w) A (Builtin.List.listLengthHint (.ref r)) Q E s := by
  unfold Builtin.List.listLengthHint
  refine wpAny_bind (wpAny_specialOf hT zl_len ?_)
  dsimp only
  exact wpAny_bind (wpAny_specialOf hT zl_lenhint (wpAny_pure h))
end
section
variable {prog : Program} {w : World} {A : Around} {E : Value → Shared → Prop} {s : Shared} {z TI TO i1 i2 l1 l2 : Addr} {xs ys : Array Value} {n : Nat}
theorem ZS.up {h h' : Heap} {xs ys : Array Value} {k : Nat} (x : ZS h z TI TO i1 i2 l1 l2 xs ys k) (hk : ∀ b o, h.get? b = some o → h'.get? b = some o) : ZS h' z TI TO i1 i2 l1 l2 xs ys k := by
  refine ⟨?_, hk _ _ x.TI, x.a.at fun o e => hk _ o e, x.b.at fun o e => hk _ o e, ?_, ?_⟩
  · rcases x.st with ⟨h1, h2⟩ | ⟨a, f, oa, h1, h2⟩
    · exact .inl ⟨hk _ _ h1, hk _ _ h2⟩
    · exact .inr ⟨a, f, oa, hk _ _ h1, hk _ _ h2⟩
  · obtain ⟨o, ho, r⟩ := x.l
    exact ⟨o, hk _ _ ho, r⟩
  · obtain ⟨o, ho, r⟩ := x.m
    exact ⟨o, hk _ _ ho, r⟩
theorem zl_extend {R : Result → Shared → Prop} (hh : A.handled = none) (D : ZipApart z TI TO i1 i2 l1 l2) (S lo : Addr) (hS : S ∉ [z, TI, TO, i1, i2, l1, l2]) (hn : n = min xs.size ys.size) (hz : n ≤ sizeLine) (res : Value) (hlo : z < lo ∧ TO < lo ∧ i1 < lo ∧ i2 < lo ∧ S < lo) (hls : lo ≤ s.heap.objs.size)
    (Z : ZS s.heap z TI TO i1 i2 l1 l2 xs ys 0) (c₀ : Nat) (hSl : s.heap.get? S = some { cls := .type "list", data := .seq #[] c₀ })
    (hR : ∀ h' tk acc c as, (∀ b o, b ≠ S → b ≠ z → b ≠ TO → b ≠ i1 → b ≠ i2 → s.heap.get? b = some o → h'.get? b = some o) → h'.get? S = some { cls := .type "list", dict := none, data := .seq acc c, slots := #[] } → as.length = n → Prs2 h' lo xs ys as →
      acc.toList = as.map Value.ref → R (.ok (.ret res)) { s with heap := h', toks := tk }) :
    wpAny (model prog w) A.in1 (Builtin.List.listExtendWith (.ref S) (.ref z) res)
      (fun fin s' => match fin with | .done f => R (.ok f) s' | .again c' => c'.quiet = true ∧ codeAny (model prog w) A c' R s') (fun e s' => R (.error e) s') s := by
  have hT : s.TypeIs (.ref z) "zip" := by
    rcases Z.st with ⟨h1, _⟩ | ⟨a, f, oa, h1, _⟩
    · exact ⟨_, h1, rfl⟩
    · exact ⟨_, h1, rfl⟩
  have hzip : ∃ f0 f, s.heap.get? z = some (ZipO TI TO f0 f) := by
    rcases Z.st with ⟨h1, _⟩ | ⟨a, f, oa, h1, _⟩
    · exact ⟨_, _, h1⟩
    · exact ⟨_, _, h1⟩
  have nz : S ≠ z := fun e => hS (by rw [e]; simp)
  have key : ∀ (h : Heap) (c₁ tk : Nat), (∀ b o, b ≠ S → s.heap.get? b = some o → h.get? b = some o) → h.get? S = some { cls := .type "list", data := .seq #[] c₁ } → h.objs.size = s.heap.objs.size →
      codeAny (model prog w) A (.builtin "list.extend.loop" ⟨[.ref S, .ref z, res], []⟩) R { s with heap := h, toks := tk } := fun h c₁ tk hk hS₁ hsz =>
    zl_loop (s := s) (h₁ := s.heap) hh D hS hn hz res hlo hR n 0 h tk c₁ #[] [] (Nat.sub_zero _) (Nat.zero_le _) (Z.keep hS ⟨_, hS₁⟩ hk) (fun b o b1 _ _ _ _ e => hk b o b1 e) hS₁ rfl rfl ⟨.nil, fun j t hj => by simp at hj⟩ (by rw [hsz]; exact hls)
  unfold Builtin.List.listExtendWith
  refine wpAny_bind (wpAny_typeOf (T := "zip") hT ?_)
  have h1 : Builtin.List.listSameRef (.ref S) (.ref z) = false := by simp [Builtin.List.listSameRef, nz]
  have h2 : (Value.type "zip" == Value.type "list") = false := by decide
  have h3 : (Value.type "zip" == Value.type "tuple") = false := by decide
  simp only [h1, h2, h3, Bool.or_false, Bool.false_eq_true, if_false]
  obtain ⟨f0, f, hzo⟩ := hzip
  have hit : ∀ {Q : Value → Shared → Prop} {E : Value → Shared → Prop}, Q (.ref z) s → wpAny (model prog w) A.in1 (pyIter (.ref z)) Q E s := fun {Q E} h => by
    refine wpAny_pyIter_slot hT PySem.F.slot_zip_iter (wpAny_call_entry PySem.F.slot_zip_iter hT PySem.F.entry_zip_iter ?_ (PySem.F.args_zip_iter_1 _))
    show wpAny _ _ (ret (.ref z)) _ _ s
    exact wpAny_pure ⟨_, rfl, "zip", _, hT, PySem.F.slot_zip_next.lookup, h⟩
  refine wpAny_bind (hit (wpAny_bind (wpAny_holding (zl_hint hT ?_))))
  refine wpAny_ite_split (fun _ => ?_) (fun hab => by simp at hab)
  refine wpAny_bind (wpAny_rule ?_)
  refine wpAny_bind ?_
  show wpAny _ _ (updateSeq S (·.push .none) >>= fun _ => updateSeq S (·.pop)) _ _ _
  refine wpAny_bind (wpAny_updateSeq hSl rfl ?_)
  have hS₂ := Heap.get?_update_self (Obj.mapSeq (·.push Value.none)) hSl rfl
  refine wpAny_updateSeq (hz := by seq_fits) hS₂ rfl ?_
  have hS₃ := Heap.get?_update_self (Obj.mapSeq (·.pop)) hS₂ rfl
  refine wpAny_pure ⟨plainId_quiet PySem.F.plain_extend_loop _, key _ _ _ (fun b o hb e => ?_) hS₃ ?_⟩
  · exact (Heap.get?_update_other _ _ (Ne.symm hb)).trans ((Heap.get?_update_other _ _ (Ne.symm hb)).trans e)
  · rw [Heap.size_update, Heap.size_update]
theorem zl_init {R : Result → Shared → Prop} (hh : A.handled = none) (D : ZipApart z TI TO i1 i2 l1 l2) (S lo : Addr) (hS : S ∉ [z, TI, TO, i1, i2, l1, l2]) (hn : n = min xs.size ys.size) (hz : n ≤ sizeLine) (hlo : z < lo ∧ TO < lo ∧ i1 < lo ∧ i2 < lo ∧ S < lo) (hls : lo ≤ s.heap.objs.size)
    (Z : ZS s.heap z TI TO i1 i2 l1 l2 xs ys 0) (hSl : s.heap.get? S = some { cls := .type "list", data := .seq #[] })
    (hR : ∀ h' tk acc c as, (∀ b o, b ≠ S → b ≠ z → b ≠ TO → b ≠ i1 → b ≠ i2 → s.heap.get? b = some o → h'.get? b = some o) → h'.get? S = some { cls := .type "list", dict := none, data := .seq acc c, slots := #[] } → as.length = n → Prs2 h' lo xs ys as →
      acc.toList = as.map Value.ref → R (.ok (.ret .none)) { s with heap := h', toks := tk }) :
    wpAny (model prog w) A.in1 (Builtin.«list.__init__» ⟨[.ref S, .ref z], []⟩)
      (fun fin s' => match fin with | .done f => R (.ok f) s' | .again c' => c'.quiet = true ∧ codeAny (model prog w) A c' R s') (fun e s' => R (.error e) s') s := by
  show wpAny _ _ (do let old ← Builtin.List.listItems (.ref S); Builtin.List.listUpdate (.ref S) (fun _ => #[]); letGo old.toList.reverse; Builtin.List.listExtendWith (.ref S) (.ref z) .none) _ _ s
  refine wpAny_bind ?_
  unfold Builtin.List.listItems
  refine wpAny_bind (wpAny_seqItems hSl rfl (wpAny_pure ?_))
  show wpAny _ _ (updateSeq S (fun _ => #[]) >>= fun _ => letGo (#[] : Array Value).toList.reverse >>= fun _ => Builtin.List.listExtendWith (.ref S) (.ref z) .none) _ _ s
  refine wpAny_bind (wpAny_updateSeq hSl rfl ?_)
  have hS₂ := Heap.get?_update_self (Obj.mapSeq (fun _ => (#[] : Array Value))) hSl rfl
  have oth : ∀ b o, b ≠ S → s.heap.get? b = some o → (s.heap.update S (Obj.mapSeq (fun _ => (#[] : Array Value)))).get? b = some o :=
    fun b o hb e => (Heap.get?_update_other _ _ (Ne.symm hb)).trans e
  refine wpAny_bind (wpAny_letGo ?_)
  exact zl_extend hh D S lo hS hn hz .none hlo (by rw [Heap.size_update]; exact hls) (Z.keep hS ⟨_, hS₂⟩ oth) _ hS₂ fun h' tk acc c as hk hS' hl hP hacc => hR h' tk acc c as (fun b o b1 b2 b3 b4 b5 e => hk b o b1 b2 b3 b4 b5 (oth b o b1 e)) hS' hl hP hacc
theorem zl_call {Q : Value → Shared → Prop} (hh : A.handled = none) (D : ZipApart z TI TO i1 i2 l1 l2) (hb : ∀ b ∈ [z, TI, TO, i1, i2, l1, l2], b < s.heap.objs.size) (hn : n = min xs.size ys.size) (hz : n ≤ sizeLine)
    (Z : ZS s.heap z TI TO i1 i2 l1 l2 xs ys 0)
    (hQ : ∀ h' tk acc c as, (∀ b o, b ≠ z → b ≠ TO → b ≠ i1 → b ≠ i2 → s.heap.get? b = some o → h'.get? b = some o) → h'.get? s.heap.objs.size = some { cls := .type "list", dict := none, data := .seq acc c, slots := #[] } → as.length = n → Prs2 h' (s.heap.objs.size + 1) xs ys as →
      acc.toList = as.map Value.ref → Q (.ref s.heap.objs.size) { s with heap := h', toks := tk }) :
    wpAny (model prog w) A (call (.type "list") [.ref z]) Q E s := by
  refine callType_codes (Q₁ := fun obj s₁ => obj = .ref s.heap.objs.size ∧ s₁ = { s with heap := s.heap.push { cls := .type "list", data := .seq #[] } }) PySem.F.called_list (PySem.F.typeCall_list_1 _) PySem.F.entry_list_init
    (code_list_new _ ⟨rfl, rfl⟩) fun obj s₁ h₁ => ?_
  obtain ⟨rfl, rfl⟩ := h₁
  have hS : (s.heap.push { cls := .type "list", data := .seq #[] }).get? s.heap.objs.size = some { cls := .type "list", data := .seq #[] } := Heap.get?_push_size _ rfl
  have nS : s.heap.objs.size ∉ [z, TI, TO, i1, i2, l1, l2] := fun m => Nat.lt_irrefl _ (hb _ m)
  have l1' : ∀ b ∈ [z, TI, TO, i1, i2, l1, l2], b < s.heap.objs.size + 1 := fun b hm => Nat.lt_succ_of_lt (hb b hm)
  refine ⟨⟨_, hS, rfl⟩, PySem.F.args_list_init_2 _ _, zl_init (A := A.in1) hh D _ (s.heap.objs.size + 1) nS hn hz ⟨l1' _ (by simp), l1' _ (by simp), l1' _ (by simp), l1' _ (by simp), Nat.lt_succ_self _⟩ (by rw [Heap.size_push]; exact Nat.le_refl _) (Z.up fun b o e => Heap.get?_push_of_some _ e) hS fun h' tk acc c as hk hS' hl hP hacc => ?_⟩
  exact ⟨rfl, hQ h' tk acc c as (fun b o b2 b3 b4 b5 e => hk b o (Nat.ne_of_lt (Heap.lt_size e)) b2 b3 b4 b5 (Heap.get?_push_of_some _ e)) hS' hl hP hacc⟩
end
/-! ### many objects laid at once -/
def addAll : Hp → List (Addr × HO) → Hp
  | H, [] => H
  | H, p :: r => upd (addAll H r) p.1 p.2
theorem addAll_at {H : Hp} : ∀ {N : List (Addr × HO)} {b : Addr} {u : HO}, addAll H N b = some u → (b, u) ∈ N ∨ ((∀ p ∈ N, p.1 ≠ b) ∧ H b = some u)
  | [], b, u, e => .inr ⟨(fun p hp => by cases hp), e⟩
  | p :: r, b, u, e => by
    by_cases h : b = p.1
    · have e' : upd (addAll H r) p.1 p.2 b = some u := e
      rw [h, upd_same] at e'
      have := Option.some.inj e'
      exact .inl (by rw [h, ← this]; simp)
    · have e' : upd (addAll H r) p.1 p.2 b = some u := e
      rw [upd_ne h] at e'
      rcases addAll_at e' with m | ⟨m, q⟩
      · exact .inl (List.mem_cons_of_mem _ m)
      · refine .inr ⟨fun q hq => ?_, q⟩
        rcases List.mem_cons.mp hq with rfl | hq
        · exact fun z => h z.symm
        · exact m q hq
theorem addAll_off {H : Hp} : ∀ {N : List (Addr × HO)} {b : Addr}, (∀ p ∈ N, p.1 ≠ b) → addAll H N b = H b
  | [], b, _ => rfl
  | p :: r, b, h => by
    show upd (addAll H r) p.1 p.2 b = _
    rw [upd_ne (Ne.symm (h p (by simp))), addAll_off fun q hq => h q (List.mem_cons_of_mem _ hq)]
theorem addAll_in {H : Hp} : ∀ {N : List (Addr × HO)} {p : Addr × HO}, (N.map Prod.fst).Nodup → p ∈ N → addAll H N p.1 = some p.2
  | q :: r, p, n, m => by
    rw [List.map_cons, List.nodup_cons] at n
    show upd (addAll H r) q.1 q.2 p.1 = _
    rcases List.mem_cons.mp m with rfl | m
    · exact upd_same
    · rw [upd_ne fun z : p.1 = q.1 => n.1 (by rw [← z]; exact List.mem_map.mpr ⟨p, m, rfl⟩)]
      exact addAll_in n.2 m
theorem laid_many {X : Cx} {pins : List (Addr × Obj)} {σ : L2.St} {H : Hp} {s : Shared} {h' : Heap} {tk : Nat} (I : Inv X pins σ H s) (hk : ∀ b o, s.heap.get? b = some o → h'.get? b = some o) (N : List (Addr × HO)) (hN : ∀ p ∈ N, s.heap.objs.size ≤ p.1 ∧ ObjOk X.prog X.w (addAll H N) h' p.1 p.2) :
    Inv X pins σ (addAll H N) { s with heap := h', toks := tk } ∧ Same H (addAll H N) := by
  have new : ∀ p ∈ N, H p.1 = none := fun p hp => I.hok.fresh (hN p hp).1
  have kp : ∀ b u, H b = some u → addAll H N b = some u := fun b u e => by
    rw [addAll_off fun p hp z => by rw [← z, new p hp] at e; cases e]
    exact e
  refine ⟨?_, kp⟩
  refine I.call' (ch := []) rfl ⟨fun b o q _ _ _ => hk b o q, fun b o q _ _ _ => ⟨o.slots, hk b o q⟩, fun b o q m _ => ?_, fun b o q _ => ⟨o, hk b o q⟩, fun b xs q => kp b _ q, fun b o u q => kp b _ q, fun b ps q => ⟨#[], by rw [kp b _ q]; simp⟩⟩ (fun b u q => ?_) I.bare fun b z => by simp at z
  · rw [addAll_off fun p hp z => ?_]
    · exact m
    · have := (hN p hp).1
      rw [z] at this
      exact absurd (Heap.lt_size q) (Nat.not_lt.mpr this)
  · rcases addAll_at q with m | ⟨_, q⟩
    · exact (hN _ m).2
    · exact (I.hok b u q).stay (fun d v _ y => hk d v y) (fun d y => kp d _ y) fun d xs y => kp d _ y
/-! ### the rule -/
theorem vals_getV : ∀ {xs : List V} {us : List Value} {i : Nat} {u : Value}, Vals xs us → us[i]? = some u → ∃ x, xs[i]? = some x ∧ RelV x u
  | [], _, i, u, .nil, e => by simp at e
  | _ :: _, _, 0, u, .cons r t, e => by
    have e' := Option.some.inj e
    subst e'
    exact ⟨_, rfl, r⟩
  | _ :: _, _, i + 1, u, .cons r t, e => vals_getV (i := i) t e
/-- list(zip(t, u)), t and u tuples -/
def tListZip (K : PySem.W.Frag) (ta : TA) : TE := fun σ H Q => ta σ H fun vs H1 => ∃ (a b : Addr) (xs ys : List V), vs = [.ref a, .ref b] ∧ SqT K H1 a xs ∧ SqT K H1 b ys ∧ ∀ (p : Addr) (as : List Addr) (H' : Hp), Same H1 H' → H1 p = none → H' p = some (.lst (as.map V.ref)) → as.length = min xs.length ys.length →
  (∀ (i : Nat) (t : Addr), as[i]? = some t → ∃ x y, xs[i]? = some x ∧ ys[i]? = some y ∧ H' t = some (.tup [x, y])) → Q (.ref p) H'
theorem pe_listZip {X : Cx} {e e2 : Expr} {ta : TA} {p p2 pos pos2 : Pos} (hc : X.calm = true) (hg : Gl X "list") (hm : X.mg "list" = none) (hgz : Gl X "zip") (hmz : X.mg "zip" = none) (ha : PA X [e, e2] ta)
    (hs : starEach [e, e2] X.env = (false, eval e X.env) :: starEach [e2] X.env := by rfl) (hpl : (backTo pos2 (starEach [e2] X.env)).any (·.1) = false := by rfl)
    (hs1 : starEach [.Call (.Name "zip" p2) [e, e2] [] pos2] X.env = (false, eval (.Call (.Name "zip" p2) [e, e2] [] pos2) X.env) :: starEach [] X.env := by rfl) :
    PE X (.Call (.Name "list" p) [.Call (.Name "zip" p2) [e, e2] [] pos2] [] pos) (tListZip X.K ta) := by
  refine ⟨fun pins s σ H Q I hq => ?_⟩
  refine wpAny_Call_Name_kw (ld_blt I hg hm (by decide +kernel : bootBuiltins "list" = some (.type "list")) ?_)
  refine PyProof.Rows.callWith_type1 ?_ hs1 rfl
  rw [hs1]
  show wpAny _ _ (spliced ((false, eval (.Call (.Name "zip" p2) [e, e2] [] pos2) X.env) :: backTo pos (starEach [] X.env))) _ _ s
  refine Calls.spliced_cons ?_
  refine Call_ (ld_blt I hgz hmz PyProof.Rows.boot_zip (PyProof.Rows.callWith_type1 (thn (ha.run pos2 pins s σ H _ I hq) fun us s1 ⟨vs, H1, I1, r1, q1⟩ => ?_) hs hpl))
  obtain ⟨a, b, xs, ys, rfl, hqx, hqy, q⟩ := q1
  cases r1 with
  | cons r rr =>
  cases rr with
  | cons r' rr =>
  cases rr
  cases r
  cases r'
  obtain ⟨its, rv, p1, hz1⟩ := I1.tuple hqx
  obtain ⟨its2, rv2, p2', hz2⟩ := I1.tuple hqy
  obtain ⟨o1, ho1, _⟩ := id p1
  obtain ⟨o2, ho2, _⟩ := id p2'
  have la := Heap.lt_size ho1
  have lb := Heap.lt_size ho2
  refine RZ.call_zipT (show s1.heap.IsTuple a its.toArray from p1) (show s1.heap.IsTuple b its2.toArray from p2') fun h' hz hTI hTO h1 h2 hsz hk => ?_
  refine Calls.spliced_nil ?_
  have D := PySem.W.ktu_apart s1.heap.objs.size a b la lb
  have tk : ∀ {l : Addr} {vs : Array Value}, s1.heap.IsTuple l vs → h'.IsTuple l vs := fun {l vs} t => by
    obtain ⟨o, ho, r⟩ := t
    exact ⟨o, hk _ _ ho, r⟩
  have Z : ZS h' (s1.heap.objs.size + 4) (s1.heap.objs.size + 2) (s1.heap.objs.size + 3) s1.heap.objs.size (s1.heap.objs.size + 1) a b its.toArray its2.toArray 0 := ⟨.inl ⟨hz, hTO⟩, hTI, h1, h2, tk p1, tk p2'⟩
  have lx := rv.length
  have ly := rv2.length
  have hall : ∀ c ∈ [s1.heap.objs.size + 4, s1.heap.objs.size + 2, s1.heap.objs.size + 3, s1.heap.objs.size, s1.heap.objs.size + 1, a, b], c < h'.objs.size := fun c hc' => by
    rw [hsz]
    simp only [List.mem_cons, List.not_mem_nil, or_false] at hc'
    rcases hc' with rfl | rfl | rfl | rfl | rfl | rfl | rfl
    · exact Nat.add_lt_add_left (by decide) _
    · exact Nat.add_lt_add_left (by decide) _
    · exact Nat.add_lt_add_left (by decide) _
    · exact Nat.lt_add_of_pos_right (by decide)
    · exact Nat.add_lt_add_left (by decide) _
    · exact Nat.lt_of_lt_of_le la (Nat.le_add_right _ _)
    · exact Nat.lt_of_lt_of_le lb (Nat.le_add_right _ _)
  refine zl_call (s := { s1 with heap := h' }) (I.ok.hd hc) D hall rfl (by simp; omega) Z fun h2' tk2 acc c as hk2 hS hlen hP hacc => ?_
  have hkk : ∀ b o, s1.heap.get? b = some o → h2'.get? b = some o := fun b o e => by
    have lt := Heap.lt_size e
    refine hk2 b o ?_ ?_ ?_ ?_ (hk b o e)
    · exact Nat.ne_of_lt (Nat.lt_of_lt_of_le lt (Nat.le_add_right _ _))
    · exact Nat.ne_of_lt (Nat.lt_of_lt_of_le lt (Nat.le_add_right _ _))
    · exact Nat.ne_of_lt lt
    · exact Nat.ne_of_lt (Nat.lt_of_lt_of_le lt (Nat.le_add_right _ _))
  -- the pairs as they are told
  have hpair : ∀ (i : Nat) (t : Addr), as[i]? = some t → ∃ x y u v, xs[i]? = some x ∧ ys[i]? = some y ∧ RelV x u ∧ RelV y v ∧ IsPair h2' t u v := fun i t hi => by
    obtain ⟨_, u, v, e1, e2, e3⟩ := hP.2 i t hi
    obtain ⟨x, hx, rx⟩ := vals_getV rv (by simpa using e1)
    obtain ⟨y, hy, ry⟩ := vals_getV rv2 (by simpa using e2)
    exact ⟨x, y, u, v, hx, hy, rx, ry, e3⟩
  have hlow : ∀ t ∈ as, h'.objs.size + 1 ≤ t := fun t ht => by
    obtain ⟨i, hi⟩ := List.mem_iff_getElem?.mp ht
    exact (hP.2 i t hi).1
  have hzl : (xs.zip ys).length = as.length := by rw [List.length_zip, hlen]; simp; omega
  obtain ⟨N, hN⟩ : ∃ N : List (Addr × HO), N = (h'.objs.size, HO.lst (as.map V.ref)) :: ((as.zip (xs.zip ys)).map fun q => (q.1, HO.tup [q.2.1, q.2.2])) := ⟨_, rfl⟩
  have hfst : ((as.zip (xs.zip ys)).map fun q => (q.1, HO.tup [q.2.1, q.2.2])).map Prod.fst = as := by
    rw [List.map_map]
    show (as.zip (xs.zip ys)).map Prod.fst = as
    exact List.map_fst_zip (by omega)
  have hnd : (N.map Prod.fst).Nodup := by
    rw [hN, List.map_cons, hfst, List.nodup_cons]
    refine ⟨fun hm' => ?_, List.Pairwise.imp (fun {a b} (h : a < b) => Nat.ne_of_lt h) hP.1⟩
    exact absurd (hlow _ hm') (Nat.not_succ_le_self _)
  have hmem : ∀ (i : Nat) (t : Addr) (x y : V), as[i]? = some t → xs[i]? = some x → ys[i]? = some y → (t, HO.tup [x, y]) ∈ N := fun i t x y e1 e2 e3 => by
    rw [hN]
    refine List.mem_cons_of_mem _ (List.mem_map.mpr ⟨(t, (x, y)), ?_, rfl⟩)
    refine List.mem_of_getElem? (i := i) ?_
    rw [List.getElem?_zip_eq_some]
    exact ⟨e1, by rw [List.getElem?_zip_eq_some]; exact ⟨e2, e3⟩⟩
  have lsz : as.length ≤ sizeLine := by rw [hlen]; simp; omega
  obtain ⟨J, sJ⟩ := laid_many (tk := tk2) I1 hkk N (fun q hq' => by
    rw [hN] at hq'
    rcases List.mem_cons.mp hq' with rfl | hq'
    · refine ⟨by rw [hsz]; exact Nat.le_add_right _ _, by rw [List.length_map]; exact lsz, acc.toList, c, by rw [hacc]; exact LiI.vals_refs as, ?_⟩
      rw [Array.toArray_toList]
      exact hS
    · obtain ⟨⟨t, x, y⟩, hz', rfl⟩ := List.mem_map.mp hq'
      obtain ⟨i, hi⟩ := List.mem_iff_getElem?.mp hz'
      rw [List.getElem?_zip_eq_some] at hi
      obtain ⟨e1, e2⟩ := hi
      rw [List.getElem?_zip_eq_some] at e2
      obtain ⟨x', y', u, v, hx', hy', rx, ry, hpr⟩ := hpair i t e1
      have ex : x' = x := by have := hx'.symm.trans e2.1; exact Option.some.inj this
      have ey : y' = y := by have := hy'.symm.trans e2.2; exact Option.some.inj this
      subst ex ey
      refine ⟨?_, by show 2 ≤ sizeLine; decide, [u, v], .cons rx (.cons ry .nil), ⟨_, hpr, rfl, _, rfl⟩⟩
      have := hlow t (List.mem_of_getElem? e1)
      exact Nat.le_trans (by rw [hsz]; exact Nat.le_trans (Nat.le_add_right _ 5) (Nat.le_add_right _ 1)) this)
  have hp' : addAll H1 N h'.objs.size = some (.lst (as.map V.ref)) := addAll_in hnd (p := (h'.objs.size, HO.lst (as.map V.ref))) (by rw [hN]; simp)
  refine ⟨.ref h'.objs.size, addAll H1 N, J, rfl, q _ as _ sJ (I1.hok.fresh (by rw [hsz]; exact Nat.le_add_right _ _)) hp' (by rw [hlen]; simp; omega) fun i t hi => ?_⟩
  obtain ⟨x, y, u, v, hx, hy, _, _, _⟩ := hpair i t hi
  exact ⟨x, y, hx, hy, addAll_in hnd (p := (t, HO.tup [x, y])) (hmem i t x y hi hx hy)⟩
end Fp
/-! W20: is_scope -/
namespace Fp
open PySem PySem.Spec PyProof.Rows L2 TL
theorem rSlA_any {K : PySem.W.Frag} {b : Addr} {xs : List V} {lo hi : Option Int} {H : Hp} {Q : VK} (h : SqT K H b xs) (n : ∀ t H3, Same H H3 → SqT K H3 t (cutV xs lo hi) → Q (.ref t) H3) : rSlA K (.ref b) lo hi H Q := by
  refine ⟨b, xs, rfl, h, fun hw => n b H (Same.refl _) ?_, fun _ p hp => n p _ (same_new hp) (SqT.of upd_same)⟩
  unfold cutV
  rw [hw.1, hw.2, List.drop_zero, Nat.sub_zero, List.take_length]
  exact h
theorem cutV_tail (xs : List V) : cutV xs (some 1) none = xs.drop 1 := by
  unfold cutV HT.sIx
  show (xs.drop (min 1 xs.length)).take (xs.length - min 1 xs.length) = xs.drop 1
  cases xs with
  | nil => rfl
  | cons x xs =>
    rw [List.length_cons, Nat.min_eq_left (by omega), List.take_of_length_le (by rw [List.length_drop, List.length_cons]; omega)]
/-- neighbours -/
theorem adj_zip : ∀ sc : List Str, ((sc.zip (sc.drop 1)).map fun p => ltT p.1 p.2).all id = adjLt sc
  | [] => rfl
  | [x] => rfl
  | x :: y :: r => by
    have ih := adj_zip (y :: r)
    show (ltT x y && (((y :: r).zip r).map fun p => ltT p.1 p.2).all id) = (ltT x y && adjLt (y :: r))
    rw [← ih]
    rfl
section
variable {P : Program} {w : World} {K : PySem.W.Frag} {mg : Str → Option Value} {base : Heap}
abbrev s_is_scope : Stmt := top 47
abbrev N_is_scope : List Str := ["value", "text", "one", "other"]
theorem sc_is_scope : FnScope N_is_scope ["value"] (defScope s_is_scope) := ⟨rfl, rfl, rfl, by decide +kernel, rfl, by decide +kernel, by decide +kernel⟩
theorem ok_is_scope {CT f : Addr} {fd : FuncData} (F : Fun K "is_scope" "is_scope" s_is_scope f fd) (N : Nm mg) (c_type_of_text : Cal P w K mg base CX0 10 "type_of_text" (sp_type_of_text K CT)) : FnOk P w K mg base CX0 11 f fd ["value"] (sp_is_scope K) := by
  refine F.ok sc_is_scope (fun vs H Q E h => ?_) (fun cdv A outer s H vs Q E hr h => ?_)
  · obtain ⟨b, sc, rfl, _⟩ := h
    rfl
  · obtain ⟨b, sc, rfl, hb, hl, hn, k⟩ := h
    refine ⟨_, (pss_cons (ps_if (PW.pt (pw_or (pt_not (pt_val (pe_callB call_isi (by rfl) N.isi (by decide +kernel) (pa_cons (pv 0) (pa_cons (pe_bltn (v := .ty "tuple") (by rfl) N.tuple (by decide +kernel) rfl) pa_nil))))) (pw_or (pt_cmpR op_gt (pe_callB call_len_seq (by rfl) N.len (by decide +kernel) (pa_cons (pv 0) pa_nil)) (pe_gv N.MAX_SCOPE) (nomark _)) (pw_or1 (pt_not (pt_val (pe_callB (cr_all rfl) (by rfl) N.all (by decide +kernel) (pa_cons (pe_lc (own := [("text", 1)]) (g := gName 1) (tt := tYes) (te := tCB (rIsi K) (tCons (tVar 1) (tCons (tC (.ty "str")) tNil))) rfl sc_is_scope.nd (pi_tup (pv 0)) (blkOk_by (N := N_is_scope) (sc := defScope s_is_scope) (by decide +kernel)) (fun _ _ _ _ _ => pg_name (i := 1) sc_is_scope.nd rfl (Or.inl rfl)) (fun _ _ _ _ _ => pts_nil) (fun _ _ _ _ _ => (pe_callB call_isi (by rfl) N.isi (by decide +kernel) (pa_cons (pv 1) (pa_cons (pe_bltn (v := .ty "str") (by rfl) N.str (by decide +kernel) rfl) pa_nil))))) pa_nil)))))))) (pss_one (ps_ret pe_bl)) pss_nil)
      (pss_cons (ps_if (pt_not (pt_val (pe_callB (cr_all rfl) (by rfl) N.all (by decide +kernel) (pa_cons (pe_lc (own := [("one", 2), ("other", 3)]) (g := gTup K 2 (gCons (gName 2) (gCons (gName 3) gNil))) (tt := tYes) rfl sc_is_scope.nd (pi_list (pe_listZip rfl (by rfl) N.list (by rfl) N.zip (pa_cons (pv 0) (pa_cons (pe_slice sl_tupA (pv 0) (po_some pe_int) po_none) pa_nil)))) (blkOk_by (N := N_is_scope) (sc := defScope s_is_scope) (by decide +kernel)) (fun _ _ _ _ _ => pg_tup (by rfl) (pgs_cons (pg_name (i := 2) sc_is_scope.nd rfl (Or.inl rfl)) (pgs_cons (pg_name (i := 3) sc_is_scope.nd rfl (Or.inl rfl)) pgs_nil))) (fun _ _ _ _ _ => pts_nil) (fun _ _ _ _ _ => (pe_cmpR op_lt_str (pv 2) (pv 3) (nomark _)))) pa_nil)))) (pss_one (ps_ret pe_bl)) pss_nil)
      (pss_one (ps_ret (pe_callB (cr_all rfl) (by rfl) N.all (by decide +kernel) (pa_cons (pe_lc (own := [("text", 1)]) (g := gName 1) (tt := tYes) rfl sc_is_scope.nd (pi_tup (pv 0)) (blkOk_by (N := N_is_scope) (sc := defScope s_is_scope) (by decide +kernel)) (fun _ _ _ _ _ => pg_name (i := 1) sc_is_scope.nd rfl (Or.inl rfl)) (fun _ _ _ _ _ => pts_nil) (fun _ _ _ _ _ => (pe_cmpR op_notN (pe_c c_type_of_text hr (ha := (pa_cons (pv 1) pa_nil))) pe_non (nomark _)))) pa_nil)))))), ?_⟩
    have hml : (sc.map V.str).length = sc.length := List.length_map ..
    refine ⟨_, rfl, _, _, _, _, true, rfl, .ty "tuple", tyX_tup hb, kit_ty (by decide +kernel), _, rfl, iteF ?_⟩
    refine ⟨_, rfl, b, _, rfl, .inr hb, _, _, rfl, rfl, _, rfl, ?_⟩
    rw [List.length_map]
    by_cases h140 : sc.length ≤ 140
    case neg =>
      rw [decide_eq_true (by omega)]
      have e : scOk sc = false := by unfold scOk; rw [decide_eq_false h140]; rfl
      rw [e] at k
      exact iteT (iteT (k _ (Same.refl _)))
    rw [decide_eq_false (by omega)]
    refine iteF ⟨_, rfl, b, rfl, ⟨_, hb⟩, fun D hD => ?_⟩
    refine lc_each walk_tup hD (by omega) (fun H2 s2 => SqT.same s2 hb) (fun i y _ => ∃ x, sc[i]? = some x ∧ y = .bl true) (fun i y H2 H3 l _ _ r => r) (fun i z H2 H3 hi s2 hl2 y Qy hy => ?_) (fun H2 acc s2 hacc hla hr2 => ?_)
    · obtain ⟨rfl, hz⟩ := y
      rw [List.getElem?_map] at hz
      obtain ⟨x, hx, rfl⟩ := Option.map_eq_some_iff.mp hz
      exact ⟨rfl, _, rfl, _, _, _, _, true, rfl, .ty "str", .base (.str x), kit_ty (by decide +kernel), hy _ _ (Same.refl _) ⟨x, hx, rfl⟩⟩
    have e : acc = (sc.map fun _ => true).map V.bl := by
      rw [List.map_map]
      exact eq_map_of (by rw [hla, hml]) fun i y e => by
        obtain ⟨k1, h1, h2⟩ := hr2 i y e
        exact ⟨k1, h1, h2⟩
    refine ⟨D, _, rfl, SqL.of (by rw [hacc, e]), _, rfl, ?_⟩
    rw [show ((sc.map fun _ => true).all id) = true by simp]
    have hb2 := SqT.same s2 hb
    refine iteF ⟨_, rfl, _, rfl, 1, rfl, ?_⟩
    dsimp only [tNoPart]
    refine rSlA_any hb2 fun t H3 s3 ht => ?_
    rw [cutV_tail] at ht
    have hb3 := SqT.same s3 hb2
    have s03 := Same.trans s2 s3
    refine ⟨b, t, _, _, rfl, hb3, ht, fun p as H4 s4 hp hp4 hal hpr => ?_⟩
    have hb4 := SqT.same s4 hb3
    have hal2 : as.length = min sc.length (sc.drop 1).length := by rw [hal, List.length_map, List.length_drop, List.length_map, List.length_drop]
    have hmr : (as.map V.ref).length = as.length := List.length_map ..
    refine ⟨p, rfl, ⟨_, SqL.of hp4⟩, fun D4 hD4 => ?_⟩
    refine lc_each (g := gTup K 2 (gCons (gName 2) (gCons (gName 3) gNil))) (te := tOp (fun x y H Q => ∃ i j, x = .str i ∧ y = .str j ∧ Q (.bl (decide (i.cps.toList < j.cps.toList))) H) (tVar 2) (tVar 3)) walk_list hD4 (by omega) (fun H5 s5 => SqL.of (s5 _ _ hp4)) (fun i y _ => ∃ q, (sc.zip (sc.drop 1))[i]? = some q ∧ y = .bl (ltT q.1 q.2)) (fun i y H2 H3 l _ _ r => r) (fun i z H5 H6 hi s5 hl5 y Qy hy => ?_) (fun H5 acc5 s5 hacc5 hla5 hr5 => ?_)
    · obtain ⟨rfl, hz⟩ := y
      rw [List.getElem?_map] at hz
      obtain ⟨T, hT, rfl⟩ := Option.map_eq_some_iff.mp hz
      obtain ⟨x, y, hx, hy', hTt⟩ := hpr i T hT
      rw [List.getElem?_map] at hx
      obtain ⟨x', hx', rfl⟩ := Option.map_eq_some_iff.mp hx
      rw [← List.map_drop, List.getElem?_map] at hy'
      obtain ⟨y', hy'', rfl⟩ := Option.map_eq_some_iff.mp hy'
      refine ⟨T, _, rfl, SqT.of (s5 _ _ hTt), rfl, _, _, rfl, _, _, rfl, rfl, rfl, _, rfl, _, rfl, x', y', rfl, rfl, hy _ _ (Same.refl _) ⟨(x', y'), ?_, rfl⟩⟩
      rw [List.getElem?_zip_eq_some]
      exact ⟨hx', hy''⟩
    have e5 : acc5 = ((sc.zip (sc.drop 1)).map fun q => ltT q.1 q.2).map V.bl := by
      rw [List.map_map]
      refine eq_map_of (by rw [hla5, hmr, hal2, List.length_zip]) fun i y e => ?_
      obtain ⟨q, h1, h2⟩ := hr5 i y e
      exact ⟨q, h1, h2⟩
    refine ⟨D4, _, rfl, SqL.of (by rw [hacc5, e5]), _, rfl, ?_⟩
    rw [adj_zip]
    have s05 := Same.trans s03 (Same.trans s4 s5)
    cases hadj : adjLt sc with
    | false =>
      have e : scOk sc = false := by unfold scOk; rw [hadj]; simp
      rw [e] at k
      exact iteT (k _ s05)
    | true =>
    have hb5 := SqT.same s5 hb4
    refine iteF ⟨_, rfl, b, rfl, ⟨_, hb5⟩, fun D6 hD6 => ?_⟩
    refine lc_each walk_tup hD6 (by omega) (fun H7 s7 => SqT.same s7 hb5) (fun i y _ => ∃ x, sc[i]? = some x ∧ y = .bl (parse x).isSome) (fun i y H2 H3 l _ _ r => r) (fun i z H7 H8 hi s7 hl7 y Qy hy => ?_) (fun H7 acc7 s7 hacc7 hla7 hr7 => ?_)
    · obtain ⟨rfl, hz⟩ := y
      rw [List.getElem?_map] at hz
      obtain ⟨x, hx, rfl⟩ := Option.map_eq_some_iff.mp hz
      refine ⟨rfl, _, rfl, x, rfl, hl x (List.mem_of_getElem? hx), fun hp H9 s9 => ⟨rfl, hy _ _ s9 ⟨x, hx, by rw [hp]; rfl⟩⟩, fun k1 hp v H9 s9 ty => ⟨rfl, hy _ _ s9 ⟨x, hx, ?_⟩⟩⟩
      rw [hp, decide_eq_false (tyo_ne ty)]
      rfl
    have e7 : acc7 = (sc.map fun x => (parse x).isSome).map V.bl := by
      rw [List.map_map]
      exact eq_map_of (by rw [hla7, hml]) fun i y e => by
        obtain ⟨k1, h1, h2⟩ := hr7 i y e
        exact ⟨k1, h1, h2⟩
    refine ⟨D6, _, rfl, SqL.of (by rw [hacc7, e7]), ?_⟩
    have e : scOk sc = (sc.map fun x => (parse x).isSome).all id := by
      unfold scOk
      rw [decide_eq_true h140, hadj, List.all_map]
      rfl
    rw [← e]
    exact k _ (Same.trans s05 s7)
end
end Fp
/-! R7: dicts whose keys are questions -/
namespace Fp
open PySem PySem.Spec PyProof.Rows L2
def qK (q : Qn) : NestedKey := .tup [.tup (q.1.map .text), .text q.2]
theorem texts_inj : ∀ {a b : List Str}, a.map NestedKey.text = b.map NestedKey.text → a = b
  | [], [], _ => rfl
  | [], _ :: _, h => by simp at h
  | _ :: _, [], h => by simp at h
  | x :: a, y :: b, h => by
    rw [List.map_cons, List.map_cons] at h
    injection h with h1 h2
    injection h1 with h1
    rw [h1, texts_inj h2]
theorem qK_inj {p q : Qn} (h : qK p = qK q) : p = q := by
  obtain ⟨a, b⟩ := p
  obtain ⟨c, d⟩ := q
  unfold qK at h
  injection h with h
  injection h with h1 h2
  injection h2 with h2 _
  injection h1 with h1
  injection h2 with h2
  have h1' : a = c := texts_inj h1
  have h2' : b = d := h2
  rw [h1', h2']
theorem depth_texts : ∀ l : List Str, NestedKey.depthAll (l.map .text) = 0
  | [] => rfl
  | x :: l => by
    rw [List.map_cons, NestedKey.depthAll, depth_texts l]
    rfl
theorem qK_depth (q : Qn) : (qK q).depth ≤ 8 := by
  unfold qK
  simp only [NestedKey.depth, NestedKey.depthAll, depth_texts]
  decide
/-- an entry: the question, its tuple, the value -/
abbrev Qe := Qn × Addr × V
abbrev qks (es : List Qe) : List Qn := es.map Prod.fst
def qR (p : Qe) (x : NestedKey × Addr × Value) : Prop := x.1 = qK p.1 ∧ x.2.1 = p.2.1 ∧ RelV p.2.2 x.2.2
def QdAt (P : Program) (w : World) (h : Heap) (d : Addr) (es : List Qe) : Prop :=
  es.length ≤ sizeLine ∧ (d == sysModules) = false ∧ ∃ xs : List (NestedKey × Addr × Value), Paired qR es xs ∧
    ∃ o en ep, h.get? d = some o ∧ o.ExactDict ∧ o.data = .dict en ep ∧ en.toList = xs.map (entryOfKey (nestedKind P w)) ∧ (xs.map (·.1)).Nodup
def QdO (P : Program) (w : World) (d : Addr) (es : List Qe) : HO := .ext fun h => QdAt P w h d es
def QKs (K : PySem.W.Frag) (H : Hp) (es : List Qe) : Prop := ∀ e ∈ es, Dp K H (.ref e.2.1) (qD e.1)
theorem QKs.same {K : PySem.W.Frag} {H H' : Hp} {es : List Qe} (s : Same H H') (h : QKs K H es) : QKs K H' es := fun e he => Dp.same s (h e he)
theorem qdO_ok {P : Program} {w : World} {H : Hp} {h : Heap} {d : Addr} {es : List Qe} (R : QdAt P w h d es) : ObjOk P w H h d (QdO P w d es) := by
  refine ⟨R, ?_, fun h1 h2 ⟨z, y, xs, pr, o, en, ep, ho, r⟩ k => ⟨z, y, xs, pr, o, en, ep, k _ ho, r⟩⟩
  obtain ⟨_, _, _, _, o, _, _, ho, _⟩ := R
  exact ⟨o, ho⟩
theorem qd_rd {P : Program} {w : World} {H : Hp} {h : Heap} {d : Addr} {es : List Qe} (ok : HOk P w H h) (e : L2.Rd H d (QdO P w d es)) : QdAt P w h d es :=
  (show ObjOk P w H h d (QdO P w d es) from e.ok ok).1
theorem paired_getR {α β : Type} {G : α → β → Prop} : ∀ {l₁ : List α} {l₂ : List β} {i : Nat} {b : β}, Paired G l₁ l₂ → l₂[i]? = some b → ∃ a, l₁[i]? = some a ∧ G a b
  | _, _, _, _, .nil, e => by simp at e
  | _, _, 0, _, .cons r _, e => by simp at e; subst e; exact ⟨_, rfl, r⟩
  | _, _, i + 1, _, .cons _ t, e => by
    obtain ⟨a, h1, h2⟩ := paired_getR (i := i) t (by simpa using e)
    exact ⟨a, by simpa using h1, h2⟩
theorem qkeys : ∀ {es : List Qe} {xs : List (NestedKey × Addr × Value)}, Paired qR es xs → xs.map (·.1) = (qks es).map qK
  | _, _, .nil => rfl
  | _, _, .cons r t => by rw [List.map_cons, qkeys t, r.1]; rfl
theorem find_keys {q : Qn} : ∀ {es : List Qe} {xs : List (NestedKey × Addr × Value)}, Paired qR es xs → (atKey xs (qK q)).isSome = decide (q ∈ qks es)
  | _, _, .nil => rfl
  | _, _, .cons (a := p) (b := x) r t => by
    have ih := find_keys (q := q) t
    unfold atKey at ih ⊢
    rw [List.find?_cons]
    by_cases h : x.1 = qK q
    · rw [decide_eq_true h]
      have : q = p.1 := qK_inj (by rw [← h, r.1])
      simp [this]
    · rw [decide_eq_false h]
      have : ¬ q = p.1 := fun z => h (by rw [r.1, z])
      simp only [List.map_cons, List.mem_cons, this, false_or]
      exact ih
theorem find_at {q : Qn} {a : Addr} {v : V} : ∀ {es : List Qe} {xs : List (NestedKey × Addr × Value)}, Paired qR es xs → (qks es).Nodup → (q, a, v) ∈ es → ∃ p, atKey xs (qK q) = some p ∧ RelV v p.2
  | _, _, .nil, _, h => nomatch h
  | _, _, .cons (a := p) (b := x) r t, hn, h => by
    replace hn := List.nodup_cons.mp (show (p.1 :: qks _).Nodup from hn)
    unfold atKey
    rw [List.find?_cons]
    rcases List.mem_cons.mp h with e | h
    · have e1 : x.1 = qK q := by rw [r.1, ← e]
      rw [decide_eq_true e1]
      refine ⟨x.2, rfl, ?_⟩
      have := r.2.2
      rw [← e] at this
      exact this
    · have hq : ¬ x.1 = qK q := fun z => by
        have : p.1 = q := qK_inj (by rw [← z, r.1])
        exact hn.1 (by rw [this]; exact List.mem_map.mpr ⟨_, h, rfl⟩)
      rw [decide_eq_false hq]
      exact find_at t hn.2 h
theorem qd_nodup {P : Program} {w : World} {h : Heap} {d : Addr} {es : List Qe} (R : QdAt P w h d es) : (qks es).Nodup := by
  obtain ⟨_, _, xs, pr, _, _, _, _, _, _, _, nd⟩ := R
  rw [qkeys pr] at nd
  have this : ∀ l : List Qn, (l.map qK).Nodup → l.Nodup := by
    intro l
    induction l with
    | nil => intro _; exact List.nodup_nil
    | cons a l ih =>
      intro h
      rw [List.map_cons, List.nodup_cons] at h
      exact List.nodup_cons.mpr ⟨fun z => h.1 (List.mem_map.mpr ⟨a, z, rfl⟩), ih h.2⟩
  exact this _ nd
section
variable {X : Cx} {pins : List (Addr × Obj)} {σ : L2.St} {H : Hp} {s : Shared} {d : Addr} {es : List Qe}
theorem nested_strs {h : Heap} : ∀ {l : List Str} {us : List Value}, Vals (l.map V.str) us → NestedAll h (l.map .text) us
  | [], _, r => by cases r; exact .nil
  | x :: l, _, r => by
    cases r with
    | cons r t =>
      obtain ⟨tk, rfl⟩ := r
      exact .cons (.text x tk) (nested_strs t)
theorem nested_q {a : Addr} {q : Qn} (I : Inv X pins σ H s) (h : Dp X.K H (.ref a) (qD q)) : (nestedKind X.prog X.w).is s.heap (qK q) a := by
  obtain ⟨a', b, e, h1, h2⟩ := qv_un h
  cases e
  obtain ⟨its, r, ⟨o, ho, hc, n, hd⟩, _⟩ := I.tuple h1
  obtain ⟨its2, r2, ⟨o2, ho2, hc2, n2, hd2⟩, _⟩ := I.tuple h2
  refine ⟨?_, qK_depth q⟩
  cases r with
  | cons ra t =>
    cases t with
    | cons rb t =>
      cases t
      obtain rfl := ra
      obtain ⟨tk, rfl⟩ := rb
      exact .tup ho hc hd (.cons (.tup ho2 hc2 hd2 (by simpa using nested_strs r2)) (.cons (.text _ _) .nil))
theorem qd_dict (I : Inv X pins σ H s) (R : QdAt X.prog X.w s.heap d es) (hk : QKs X.K H es) : ∃ xs, Paired qR es xs ∧ s.heap.DictOfH (nestedKind X.prog X.w) d xs := by
  obtain ⟨_, _, xs, pr, o, en, ep, ho, hx, hd, he, nd⟩ := R
  refine ⟨xs, pr, o, en, ep, ho, hx, hd, he, fun x hx => ?_, nd⟩
  obtain ⟨i, hi⟩ := List.mem_iff_getElem?.mp hx
  obtain ⟨e, h1, h2⟩ := paired_getR pr hi
  rw [h2.1, h2.2.1]
  exact nested_q I (hk e (List.mem_of_getElem? h1))
/-- {} -/
def tDNewQ (P : Program) (w : World) : TE := fun _ H Q => ∀ p, H p = none → Q (.ref p) (upd H p (QdO P w p []))
theorem pe_dnewQ {pos : Pos} : PE X (.Dict [] [] pos) (tDNewQ X.prog X.w) := ⟨fun pins s σ H Q I h =>
  wpAny_Dict_empty ⟨.ref s.heap.objs.size, _, I.laid (a := s.heap.objs.size) (o := QdO X.prog X.w s.heap.objs.size []) (t' := s.toks) (fun _ _ q => Heap.get?_push_of_some _ q) (Nat.le_refl _)
    (qdO_ok ⟨Nat.zero_le _, beq_eq_false_iff_ne.mpr (Ne.symm (Nat.ne_of_lt I.big)), [], .nil, _, #[], 0, Heap.get?_push_size _ rfl, ⟨rfl, rfl, rfl⟩, rfl, rfl, List.nodup_nil⟩), rfl, h _ (I.hok.fresh (Nat.le_refl _))⟩⟩
/-- q in d -/
def rInQ (K : PySem.W.Frag) (P : Program) (w : World) (neg : Bool) : R2 := fun x y H Q => ∃ a d q es, x = .ref a ∧ y = .ref d ∧ Dp K H (.ref a) (qD q) ∧ L2.Rd H d (QdO P w d es) ∧ QKs K H es ∧ Q (.bl (neg != decide (q ∈ qks es))) H
theorem room_q {A : Around} (hu : A.units + 64 < cLine) : (nestedKind X.prog X.w).room A.in1 := by
  show A.units + 1 + 8 < cLine
  omega
theorem op_inQ (hu : X.A.units + 64 < cLine) : OpR X (compareOp .In) (rInQ X.K X.prog X.w false) := by
  intro pins s σ H x y v u Q I rx ry ⟨a, d, q, es, e1, e2, hq, hd, hk, k⟩
  subst e1 e2
  cases rx
  cases ry
  have R := qd_rd I.hok hd
  obtain ⟨xs, pr, D⟩ := qd_dict I R hk
  refine wpAny_in_heap (room_q (X := X) hu) (nested_q I hq) R.2.1 D ?_
  rw [find_keys pr]
  exact ⟨.bl (decide (q ∈ qks es)), H, I.tok _, rfl, by simpa using k⟩
theorem op_notInQ (hu : X.A.units + 64 < cLine) : OpR X (compareOp .NotIn) (rInQ X.K X.prog X.w true) := by
  intro pins s σ H x y v u Q I rx ry ⟨a, d, q, es, e1, e2, hq, hd, hk, k⟩
  subst e1 e2
  cases rx
  cases ry
  have R := qd_rd I.hok hd
  obtain ⟨xs, pr, D⟩ := qd_dict I R hk
  refine wpAny_notIn_heap (room_q (X := X) hu) (nested_q I hq) R.2.1 D ?_
  rw [find_keys pr]
  exact ⟨.bl (!decide (q ∈ qks es)), H, I.tok _, rfl, by simpa using k⟩
/-- d[q] -/
def rIxQ (K : PySem.W.Frag) (P : Program) (w : World) : R2 := fun x y H Q => ∃ a d q es a' v, x = .ref d ∧ y = .ref a ∧ Dp K H (.ref a) (qD q) ∧ L2.Rd H d (QdO P w d es) ∧ QKs K H es ∧ (q, a', v) ∈ es ∧ Q v H
theorem ix_dictQ (hu : X.A.units + 64 < cLine) : IxR X (rIxQ X.K X.prog X.w) := by
  intro value slice pins s σ H x y v u Q I rx ry ⟨a, d, q, es, a', v', e1, e2, hq, hd, hk, hm, k⟩ hs
  subst e1 e2
  cases rx
  cases ry
  have R := qd_rd I.hok hd
  obtain ⟨xs, pr, D⟩ := qd_dict I R hk
  obtain ⟨p, hp, rp⟩ := find_at pr (qd_nodup R) hm
  unfold subscriptTail
  refine wpAny_bind ?_
  rw [getitemInPython_of_ne D.typeIs.not_modules]
  refine wpAny_bind (wpAny_specialOf D.typeIs PySem.F.slot_dict_getitem.lookup ?_)
  have fin : wpAny (model X.prog X.w) X.A (subscripted slice false (.ref d) (.ref a)) (fun r s₃ => wpAny (model X.prog X.w) X.A (letTemporaryGo value (.ref d) r >>= fun _ => pure r) (EP X pins σ Q) X.xe s₃) X.xe s := by
    rw [hs]
    refine wpAny_operating (wpAny_getItem_heap (room_q (X := X) hu) (nested_q I hq) D hp ?_)
    exact wpAny_bind (wpAny_letTemporaryGo (wpAny_pure ⟨v', H, I.tok _, rp, k⟩))
  first
    | exact wpAny_pure (wpAny_bind fin)
    | exact wpAny_bind (wpAny_pure (wpAny_bind fin))
    | exact wpAny_bind fin
theorem storedH_new {xs : List (NestedKey × Addr × Value)} {k : NestedKey} {a : Addr} {v : Value} (h : (atKey xs k).isSome = false) : storedH xs k a v = xs ++ [(k, a, v)] := by
  unfold storedH
  rw [h]
  rfl
theorem paired_snoc : ∀ {es : List Qe} {xs : List (NestedKey × Addr × Value)} {p : Qe} {x : NestedKey × Addr × Value}, Paired qR es xs → qR p x → Paired qR (es ++ [p]) (xs ++ [x])
  | _, _, _, _, .nil, r => .cons r .nil
  | _, _, _, _, .cons h t, r => .cons h (paired_snoc t r)
/-- d[q] = v, q not in d -/
def rSetQ (K : PySem.W.Frag) (P : Program) (w : World) : TSet := fun o i v H Q => ∃ a d q es, o = .ref d ∧ i = .ref a ∧ Dp K H (.ref a) (qD q) ∧ H d = some (QdO P w d es) ∧ QKs K H es ∧ q ∉ qks es ∧ es.length ≤ 1000000 ∧ Q (upd H d (QdO P w d (es ++ [(q, a, v)])))
theorem set_dictQ (hu : X.A.units + 64 < cLine) : PSet X (rSetQ X.K X.prog X.w) := by
  intro pins s σ H o i v ov iv u Q I ro ri rv ⟨a, d, q, es, e1, e2, hq, hd, hk, hn, hl, k⟩
  subst e1 e2
  cases ro
  cases ri
  have R := qd_rd I.hok (.inl hd)
  obtain ⟨xs, pr, D⟩ := qd_dict I R hk
  have hlen := Paired.length pr
  refine wpAny_setItem_heap (hsz := by rw [sizeLine_eq]; omega) (room_q (X := X) hu) (nested_q I hq) D fun h' D' hs => ?_
  rw [storedH_new (by rw [find_keys pr]; exact decide_eq_false hn)] at D'
  obtain ⟨o', en, ep, ho', hx, hdt, he, _, nd⟩ := D'
  refine ⟨_, I.write (x := d) (e := d) (o := QdO X.prog X.w d (es ++ [(q, a, v)])) (t' := _) (by rw [hd]; trivial) (.inl rfl) (fun b u' hb z => (hs.2 b hb).trans z) ⟨_, ho'⟩ (qdO_ok ⟨by rw [List.length_append, sizeLine_eq]; show es.length + 1 ≤ _; omega, R.2.1, _, paired_snoc pr ⟨rfl, rfl, rv⟩, o', en, ep, ho', hx, hdt, he, nd⟩), k⟩
end
end Fp
/-! R8: walking, listing, sorting a dict of questions -/
namespace Fp
open PySem PySem.Spec PyProof.Rows L2 PySem.W
def Itq (P : Program) (w : World) (d : Addr) (o : Obj) (es : List Qe) : It :=
  ⟨fun i H => H d = some (.frz o (QdO P w d es)) ∧ i < es.length, fun i H x H' => H' = H ∧ ∃ e, es[i]? = some e ∧ x = .ref e.2.1, fun i H => H d = some (.frz o (QdO P w d es)) ∧ es.length ≤ i⟩
def Itqv (P : Program) (w : World) (d : Addr) (o : Obj) (es : List Qe) : It :=
  ⟨fun i H => H d = some (.frz o (QdO P w d es)) ∧ i < es.length, fun i H x H' => H' = H ∧ ∃ e, es[i]? = some e ∧ x = e.2.2, fun i H => H d = some (.frz o (QdO P w d es)) ∧ es.length ≤ i⟩
section
variable {X : Cx} {pins : List (Addr × Obj)} {σ : L2.St} {H : Hp} {s : Shared} {d : Addr} {o : Obj} {es : List Qe}
theorem qd_raw {h : Heap} {P : Program} {w : World} (R : QdAt P w h d es) (ho : h.get? d = some o) : (d == sysModules) = false ∧ o.ExactDict ∧ ∃ (en : Array DictEntry) (ep : Nat), o.data = .dict en ep ∧ en.size = es.length ∧
    ∀ (i : Nat) (e : Qe), es[i]? = some e → ∃ (n : DictEntry), en[i]? = some n ∧ n.key = .ref e.2.1 ∧ RelV e.2.2 n.val := by
  obtain ⟨z, y, xs, pr, o', en, ep, ho', hx, hd, he, nd⟩ := R
  rw [ho] at ho'
  cases ho'
  have l1 : en.size = xs.length := size_of_entries he
  have l2 : es.length = xs.length := Paired.length pr
  refine ⟨y, hx, en, ep, hd, by omega, fun i e hi => ?_⟩
  obtain ⟨b, hb, r⟩ := paired_get pr hi
  have q := entry_at he i
  rw [hb] at q
  exact ⟨_, q, by show Value.ref b.2.1 = _; rw [r.2.1], r.2.2⟩
theorem Inv.frzQ (I : Inv X pins σ H s) (h : H d = some (.frz o (QdO X.prog X.w d es))) : s.heap.get? d = some o ∧ (d == sysModules) = false ∧ o.ExactDict ∧ ∃ (en : Array DictEntry) (ep : Nat), o.data = .dict en ep ∧ en.size = es.length ∧
    ∀ (i : Nat) (e : Qe), es[i]? = some e → ∃ (n : DictEntry), en[i]? = some n ∧ n.key = .ref e.2.1 ∧ RelV e.2.2 n.val := by
  obtain ⟨hd, R, _⟩ := I.hok d _ h
  exact ⟨hd, qd_raw R hd⟩
end
section
variable {P : Program} {w : World} {K : PySem.W.Frag} {tg : Expr} {d : Addr} {o : Obj} {en : Array DictEntry} {ep : Nat} {es : List Qe}
theorem turn_keysQ (it : Addr) (hod : o.data = .dict en ep) : Turn P w K tg (Itq P w d o es) [it] it (fun i h => h.IsKeyIter it d i es.length ep) where
  mem := by simp
  obj := fun i h st b hb => by
    have e : b = it := by simpa using hb
    subst e
    obtain ⟨oi, e, c, dd⟩ := st
    exact ⟨oi, e, fun v z => by rw [dd] at z; cases z⟩
  keep := fun i h h' st k => st.at fun oi e => k it (by simp) oi e
  item := by
    intro X hP hw hK hc i pins s σ H E I hf st hg
    subst hP hw hK
    obtain ⟨hd, hi⟩ := hg
    obtain ⟨f0, f1, f2, f3, f4, f5⟩ := hf it (by simp)
    obtain ⟨hgd, hs, hx, en', ep', hdt, hsz, ent⟩ := Inv.frzQ I hd
    obtain ⟨rfl, rfl⟩ := dict_ep hod hdt
    obtain ⟨e, he⟩ : ∃ p, es[i]? = some p := ⟨es[i], List.getElem?_eq_getElem hi⟩
    obtain ⟨n, hen, hkey, _⟩ := ent i e he
    refine next_key_item st hgd hdt hsz hen fun h' st' sb => ?_
    have I1 : Inv X pins σ H { s with heap := h' } := I.turned (t' := s.toks) (fun b ob hb e => (sb.2 b hb).trans e) f0 f1 f3 f4 f5
    obtain ⟨oi, e1, c, dd⟩ := id st'
    exact ⟨n.key, rfl, go_of (s := { s with heap := h' }) e1 c dd (by decide) ⟨.ref e.2.1, H, I1, hkey, ⟨rfl, e, he, rfl⟩, st', fun b hb => (hf b hb).1⟩⟩
  done := by
    intro X hP hw hK hc i pins s σ H E I hf st hg
    subst hP hw hK
    obtain ⟨hd, hi⟩ := hg
    obtain ⟨f0, f1, f2, f3, f4, f5⟩ := hf it (by simp)
    obtain ⟨hgd, hs, hx, en', ep', hdt, hsz, ent⟩ := Inv.frzQ I hd
    obtain ⟨rfl, rfl⟩ := dict_ep hod hdt
    exact next_key_end (I.ok.hd hc) st hgd hdt hsz hi fun h' eb => ⟨rfl, I.turned (t' := s.toks) (fun b ob hb e => eb b ob hb e) f0 f1 f3 f4 f5⟩
  self := fun A i s Q E st h => by
    refine wpAny_pyIter_slot st.typeIs F.slot_dict_keyiterator_iter (wpAny_call_entry F.slot_dict_keyiterator_iter st.typeIs F.entry_dict_keyiterator_iter ?_ (F.args_dict_keyiterator_iter_1 _))
    show wpAny _ _ (ret (.ref it)) _ _ s
    exact wpAny_pure ⟨_, rfl, "dict_keyiterator", _, st.typeIs, F.slot_dict_keyiterator_next.lookup, h⟩
theorem turn_valsQ (it : Addr) (hod : o.data = .dict en ep) : Turn P w K tg (Itqv P w d o es) [it] it (fun i h => h.IsValIter it d i es.length ep) where
  mem := by simp
  obj := fun i h st b hb => by
    have e : b = it := by simpa using hb
    subst e
    obtain ⟨oi, e, c, dd⟩ := st
    exact ⟨oi, e, fun v z => by rw [dd] at z; cases z⟩
  keep := fun i h h' st k => st.at fun oi e => k it (by simp) oi e
  item := by
    intro X hP hw hK hc i pins s σ H E I hf st hg
    subst hP hw hK
    obtain ⟨hd, hi⟩ := hg
    obtain ⟨f0, f1, f2, f3, f4, f5⟩ := hf it (by simp)
    obtain ⟨hgd, hs, hx, en', ep', hdt, hsz, ent⟩ := Inv.frzQ I hd
    obtain ⟨rfl, rfl⟩ := dict_ep hod hdt
    obtain ⟨e, he⟩ : ∃ p, es[i]? = some p := ⟨es[i], List.getElem?_eq_getElem hi⟩
    obtain ⟨n, hen, _, hval⟩ := ent i e he
    have hin : i < en'.size := by omega
    have hn : en'[i] = n := by rw [Array.getElem?_eq_getElem hin] at hen; exact Option.some.inj hen
    rw [← hsz] at st
    refine wpAny_pyNext_values_item_raw st ⟨o, hgd, hx, hdt⟩ hin fun h' st' sb => ?_
    rw [hn]
    have I1 : Inv X pins σ H { s with heap := h' } := I.turned (t' := s.toks) (fun b ob hb e => (sb.2 b hb).trans e) f0 f1 f3 f4 f5
    obtain ⟨oi, e1, c, dd⟩ := id st'
    exact ⟨n.val, rfl, go_of (s := { s with heap := h' }) e1 c dd (by decide) ⟨e.2.2, H, I1, hval, ⟨rfl, e, he, rfl⟩, (by rw [← hsz]; exact st'), fun b hb => (hf b hb).1⟩⟩
  done := by
    intro X hP hw hK hc i pins s σ H E I hf st hg
    subst hP hw hK
    obtain ⟨hd, hi⟩ := hg
    obtain ⟨f0, f1, f2, f3, f4, f5⟩ := hf it (by simp)
    obtain ⟨hgd, hs, hx, en', ep', hdt, hsz, ent⟩ := Inv.frzQ I hd
    obtain ⟨rfl, rfl⟩ := dict_ep hod hdt
    rw [← hsz] at st
    exact wpAny_pyNext_values_end_raw (I.ok.hd hc) st ⟨o, hgd, hx, hdt⟩ (by omega) fun h' eb => ⟨rfl, I.turned (t' := s.toks) (fun b ob hb e => eb b ob hb e) f0 f1 f3 f4 f5⟩
  self := fun A i s Q E st h => wpAny_pyIter_valiter st h
end
def iKeysQ (P : Program) (w : World) (td : TE) : TI := fun σ H R => td σ H fun x H1 => ∃ d o es, x = .ref d ∧ H1 d = some (.frz o (QdO P w d es)) ∧ R (Itq P w d o es) H1
def iValsQ (P : Program) (w : World) (td : TE) : TI := fun σ H R => td σ H fun x H1 => ∃ d o es, x = .ref d ∧ H1 d = some (.frz o (QdO P w d es)) ∧ R (Itqv P w d o es) H1
section
variable {X : Cx} {tg e : Expr} {td : TE} {apos cpos : Pos}
theorem pi_keysQ (he : PE X e td) : PI X tg e (iKeysQ X.prog X.w td) := by
  refine ⟨fun pins s σ H R I h => ?_⟩
  refine thn (he.run pins s σ H _ I h) fun u s1 ⟨x, H1, I1, rx, d, o, es, ex, hd, q⟩ => ?_
  subst ex
  obtain rfl : u = Value.ref d := rx
  obtain ⟨hgd, hs, hx, en, ep, hdt, hsz, ent⟩ := Inv.frzQ I1 hd
  refine iter_keys hs hgd hx hdt (pi_one (tk := s1.toks) I1 _ (turn_keysQ _ hdt) ⟨_, Heap.get?_push_size _ rfl, rfl, ?_⟩ q)
  rw [hsz] <;> rfl
theorem pi_valuesQ (he : PE X e td) (hbase : attributeBase e "values" X.env (eval e X.env) = eval e X.env := by rfl) (hline : (apos.endLine == cpos.line) = true := by rfl) : PI X tg (.Call (.Attribute e "values" apos) [] [] cpos) (iValsQ X.prog X.w td) := by
  refine ⟨fun pins s σ H R I h => ?_⟩
  refine wpAny_Call_method (T := "dict") (id := "dict.values") hbase rfl hline F.plainAttrs_dict F.slot_dict_values F.type_dict_values (thn (he.run pins s σ H _ I h) fun u s1 ⟨x, H1, I1, rx, d, o, es, ex, hd, q⟩ => ?_)
  subst ex
  obtain rfl : u = Value.ref d := rx
  obtain ⟨hgd, hs, hx, en, ep, hdt, hsz, ent⟩ := Inv.frzQ I1 hd
  have raw : s1.heap.DictRaw d en ep := ⟨o, hgd, hx, hdt⟩
  refine ⟨raw.typeIs, (fun b e => by cases e; exact ⟨o, hgd, hx.2.1⟩), ?_⟩
  have I2 : Inv X pins σ H1 { s1 with heap := s1.heap.push { cls := .type "dict_values", data := .fields #[.ref d] } } := I1.kept (t' := s1.toks) fun b ob q => Heap.get?_push_of_some _ q
  have fin : wpAny (model X.prog X.w) X.A (pyIter (.ref s1.heap.objs.size)) (PIE X pins σ tg R) X.xe { s1 with heap := s1.heap.push { cls := .type "dict_values", data := .fields #[.ref d] } } := by
    refine wpAny_pyIter_values_raw (d := d) ⟨_, Heap.get?_push_size _ rfl, rfl, rfl⟩ (raw.at fun _ e => Heap.get?_push_of_some _ e) (pi_one (tk := s1.toks) I2 _ (turn_valsQ _ hdt) ⟨_, Heap.get?_push_size _ rfl, rfl, ?_⟩ q)
    rw [hsz] <;> rfl
  show wpAny _ _ (callWith cpos (.builtin "dict.values") [.ref d] [] []) _ X.xe s1
  exact method_meetsIn F.slot_dict_values F.entry_dict_values rfl (PySem.evalArgs_none ⟨rfl, raw.typeIs, F.args_dict_values_1 _, _, meets_dict_values_raw d hs, ⟨en, ep, raw⟩, fin⟩)
/-- isinstance(d, dict) -/
def rIsiQ (P : Program) (w : World) : List V → Hp → VK → Prop := fun xs H Q => ∃ d es, xs = [.ref d, .ty "dict"] ∧ L2.Rd H d (QdO P w d es) ∧ Q (.bl true) H
theorem call_isiQ : CallR X (.builtin "isinstance") (rIsiQ X.prog X.w) := by
  intro pins s σ H xs us Q I r h
  obtain ⟨d, es, rfl, hd, q⟩ := h
  obtain ⟨u1, u2, rfl, r1, r2⟩ := vals2 r
  obtain rfl : u1 = Value.ref d := r1
  obtain rfl : u2 = Value.type "dict" := r2
  obtain ⟨_, _, xs, _, o, _, _, ho, hx, _⟩ := qd_rd I.hok hd
  exact PySem.W.kia_one PySem.W.kitx_dict I.kIn ⟨o, ho, hx.1⟩ (kit_ty (b := "dict") (by decide +kernel)) (fun z => nomatch z) fun tk => ⟨.bl true, H, I.tok tk, rfl, q⟩
theorem kdl_raw {prog : Program} {w : World} {d : Addr} {en : Array DictEntry} {ep : Nat} (lo : (d == sysModules) = false) : KdlSrc prog w "dict" d d en.size (fun i v => ∃ hi : i < en.size, v = en[i].key) (fun h => h.DictRaw d en ep) where
  type := fun _ hm => hm.typeIs
  there := fun _ hm => by obtain ⟨o, ho, _⟩ := hm; exact ⟨Heap.lt_size ho, Heap.lt_size ho⟩
  keep := fun _ _ hm hk => hm.at fun o e => hk d (.inl rfl) o e
  notList := by decide
  notTuple := by decide
  hint := fun _ _ _ _ hm hq => kdl_hint_dict hm.typeIs hq
  iter := fun _ s hh hm => ⟨_, _, (fun _ _ hq => wpAny_pyIter_dict_raw lo hm hq), Walks.rawKeys hh _ d (Nat.ne_of_lt (by obtain ⟨o, ho, _⟩ := hm; exact Heap.lt_size ho)) en ep, ⟨⟨_, Heap.get?_push_size _ rfl, rfl, rfl⟩, hm.at fun _ e => Heap.get?_push_of_some _ e⟩⟩
theorem vals_refs : ∀ {us : List Value} {es : List Qe}, us.length = es.length → (∀ (j : Nat) (v : Value) (e : Qe), us[j]? = some v → es[j]? = some e → v = .ref e.2.1) → us = es.map fun e => Value.ref e.2.1
  | [], [], _, _ => rfl
  | u :: us, e :: es, hl, h => by
    rw [List.map_cons, ← h 0 u e rfl rfl, ← vals_refs (by simpa using hl) fun j v e h1 h2 => h (j + 1) v e (by simpa using h1) (by simpa using h2)]
  | [], _ :: _, hl, _ => by simp at hl
  | _ :: _, [], hl, _ => by simp at hl
theorem vals_of_refs {α : Type} (f : α → Addr) : ∀ l : List α, Vals (l.map fun e => V.ref (f e)) (l.map fun e => Value.ref (f e))
  | [] => .nil
  | _ :: l => .cons rfl (vals_of_refs f l)
/-- list(d) -/
theorem call_listQ (hcalm : X.calm = true) : CallR X (.type "list") (fun xs H Q => ∃ (d : Addr) (es : List Qe), xs = [.ref d] ∧ L2.Rd H d (QdO X.prog X.w d es) ∧ ∀ p, H p = none → Q (.ref p) (upd H p (.lst (es.map fun e => V.ref e.2.1)))) := by
  intro pins s σ H xs us Q I r q
  obtain ⟨d, es, ex, hd, q⟩ := q
  subst ex
  obtain ⟨u, eu, rx⟩ := vals1 r
  subst eu
  cases rx
  have R := qd_rd I.hok hd
  obtain ⟨o, ho⟩ : ∃ o, s.heap.get? d = some o := by obtain ⟨_, _, _, _, o, _, _, ho, _⟩ := R; exact ⟨o, ho⟩
  obtain ⟨lo, hx, en, ep, hdt, hsz, ent⟩ := qd_raw R ho
  refine PySem.W.kdl_call (kdl_raw (ep := ep) lo) (I.ok.hd hcalm) (show s.heap.DictRaw d en ep from ⟨o, ho, hx, hdt⟩) (by rw [hsz]; exact R.1) fun h' tk acc c' hk hD hacc => ?_
  have hv : acc.toList = es.map fun e => Value.ref e.2.1 := vals_refs (by rw [Array.length_toList, hacc.1, hsz]) fun j v e h1 h2 => by
    obtain ⟨hj, rfl⟩ := hacc.2 j v (by rw [← Array.getElem?_toList]; exact h1)
    obtain ⟨n, hn, hk', _⟩ := ent j e h2
    rw [Array.getElem?_eq_getElem hj] at hn
    rw [Option.some.inj hn, hk']
  refine ⟨.ref s.heap.objs.size, upd H s.heap.objs.size (.lst (es.map fun e => V.ref e.2.1)), I.laid (t' := tk) hk (Nat.le_refl _)
    (show ObjOk X.prog X.w _ _ _ (.lst (es.map fun e => V.ref e.2.1)) from ⟨by rw [List.length_map]; exact R.1, acc.toList, c', by rw [hv]; exact vals_of_refs (fun e : Qe => e.2.1) es, by rw [Array.toArray_toList]; exact hD⟩), rfl, q _ (I.hok.fresh (Nat.le_refl _))⟩
end
end Fp
/-! M7: the order of questions -/
namespace Fp
open PySem PySem.Spec PyProof.Rows L2 PySem.W
def ltSc : List Str → List Str → Bool
  | [], [] => false
  | [], _ :: _ => true
  | _ :: _, [] => false
  | x :: xs, y :: ys => if x = y then ltSc xs ys else ltT x y
def ltQ (p q : Qn) : Bool := if p.1 = q.1 then ltT p.2 q.2 else ltSc p.1 q.1
theorem ltSc_irr : ∀ a : List Str, ltSc a a = false
  | [] => rfl
  | x :: a => by rw [ltSc, if_pos rfl, ltSc_irr a]
theorem ltT_asym {x y : Str} (h : ltT x y = true) : ltT y x = false := by
  cases e : ltT y x with
  | false => rfl
  | true => have := ltT_trans _ _ _ h e; rw [ltT_irr] at this; cases this
theorem ltT_ne {x y : Str} (h : ltT x y = true) : x ≠ y := fun e => by rw [e, ltT_irr] at h; cases h
theorem ltSc_trans : ∀ a b c : List Str, ltSc a b = true → ltSc b c = true → ltSc a c = true
  | [], [], _, h, _ => by cases h
  | [], _ :: _, [], _, h => by cases h
  | [], _ :: _, _ :: _, _, _ => rfl
  | _ :: _, [], _, h, _ => by cases h
  | _ :: _, _ :: _, [], _, h => by cases h
  | x :: a, y :: b, z :: c, h1, h2 => by
    rw [ltSc] at h1 h2 ⊢
    by_cases e1 : x = y
    · subst e1
      rw [if_pos rfl] at h1
      by_cases e2 : x = z
      · subst e2
        rw [if_pos rfl] at h2 ⊢
        exact ltSc_trans a b c h1 h2
      · rw [if_neg e2] at h2 ⊢
        exact h2
    · rw [if_neg e1] at h1
      by_cases e2 : y = z
      · subst e2
        rw [if_neg e1]
        exact h1
      · rw [if_neg e2] at h2
        have h := ltT_trans _ _ _ h1 h2
        rw [if_neg (ltT_ne h)]
        exact h
theorem ltT_or {a b : Str} (h : a ≠ b) : ltT a b = true ∨ ltT b a = true := by
  cases h1 : ltT a b with
  | true => exact .inl rfl
  | false =>
    cases h2 : ltT b a with
    | true => exact .inr rfl
    | false => exact absurd (ltT_tri h1 h2) h
theorem ltSc_tri : ∀ a b : List Str, a ≠ b → ltSc a b = true ∨ ltSc b a = true
  | [], [], h => absurd rfl h
  | [], _ :: _, _ => .inl rfl
  | _ :: _, [], _ => .inr rfl
  | x :: a, y :: b, h => by
    rw [ltSc, ltSc]
    by_cases e : x = y
    · subst e
      rw [if_pos rfl, if_pos rfl]
      exact ltSc_tri a b fun z => h (by rw [z])
    · rw [if_neg e, if_neg (Ne.symm e)]
      exact ltT_or e
theorem ltQ_irr (p : Qn) : ltQ p p = false := by unfold ltQ; rw [if_pos rfl, ltT_irr]
theorem ltQ_trans (a b c : Qn) (h1 : ltQ a b = true) (h2 : ltQ b c = true) : ltQ a c = true := by
  unfold ltQ at h1 h2 ⊢
  by_cases e1 : a.1 = b.1
  · rw [if_pos e1] at h1
    rw [e1]
    by_cases e2 : b.1 = c.1
    · rw [if_pos e2] at h2 ⊢
      exact ltT_trans _ _ _ h1 h2
    · rw [if_neg e2] at h2 ⊢
      exact h2
  · rw [if_neg e1] at h1
    by_cases e2 : b.1 = c.1
    · rw [← e2, if_neg e1]
      exact h1
    · rw [if_neg e2] at h2
      have h := ltSc_trans _ _ _ h1 h2
      rw [if_neg (fun z => by rw [z, ltSc_irr] at h; cases h)]
      exact h
theorem ltQ_tri (a b : Qn) (h : a ≠ b) : ltQ a b = true ∨ ltQ b a = true := by
  unfold ltQ
  by_cases e : a.1 = b.1
  · rw [if_pos e, if_pos e.symm]
    exact ltT_or fun z => h (Prod.ext e z)
  · rw [if_neg e, if_neg (Ne.symm e)]
    exact ltSc_tri _ _ e
theorem ltQ_asym {x y : Qn} (h : ltQ x y = true) : ltQ y x = false := by
  cases e : ltQ y x with
  | false => rfl
  | true => have := ltQ_trans _ _ _ h e; rw [ltQ_irr] at this; cases this
/-! the order of data -/
theorem alike_texts : ∀ a b : List Str, alikeAll (a.map PyData.str) (b.map PyData.str) = true
  | [], _ => by simp [alikeAll]
  | _ :: _, [] => by simp [alikeAll]
  | x :: a, y :: b => by
    rw [List.map_cons, List.map_cons, alikeAll, alike_texts a b]
    simp [alike]
theorem alike_q (p q : Qn) : alike (qD p) (qD q) = true := by
  unfold qD
  rw [alike, alikeAll, alike, alike_texts, alikeAll]
  simp [alike, alikeAll]
theorem eqv_str (x y : Str) : PyData.eqv (.str x) (.str y) = decide (x = y) := by
  rw [PyData.eqv]
  by_cases h : x = y
  · rw [decide_eq_true h]; exact beq_iff_eq.mpr h
  · rw [decide_eq_false h]; exact beq_eq_false_iff_ne.mpr h
theorem eqv_texts : ∀ a b : List Str, PyData.eqvAll (a.map .str) (b.map .str) = decide (a = b)
  | [], [] => by simp [PyData.eqvAll]
  | [], _ :: _ => by simp [PyData.eqvAll]
  | _ :: _, [] => by simp [PyData.eqvAll]
  | x :: a, y :: b => by
    rw [List.map_cons, List.map_cons, eqv_all_cons, eqv_texts a b, eqv_str]
    simp
theorem eqv_tup (xs ys : List PyData) : PyData.eqv (.tuple xs) (.tuple ys) = PyData.eqvAll xs ys := by rw [PyData.eqv]
theorem lt_texts : ∀ a b : List Str, PyProof.Rows.lexLt itemOrd (keyToksAll (a.map .str)) (keyToksAll (b.map .str)) = ltSc a b
  | [], [] => lex_irrefl _
  | [], y :: b => by
    rw [List.map_cons, List.map_nil, toks_all_cons, keyToksAll]
    rfl
  | x :: a, [] => by
    rw [List.map_cons, List.map_nil, toks_all_cons, keyToksAll]
    rfl
  | x :: a, y :: b => by
    rw [List.map_cons, List.map_cons, dataLt_cons (by simp [alike]), eqv_str, ltSc, lt_texts a b, dataLt_str]
    by_cases h : x = y
    · rw [if_pos h, if_pos (decide_eq_true h)]
    · rw [if_neg h, if_neg (by simp [h])]
      rfl
theorem dataLt_q (p q : Qn) : dataLt (qD p) (qD q) = ltQ p q := by
  unfold qD ltQ
  rw [dataLt_pair (by rw [alike, alike_texts]) (by simp [alike]), eqv_tup, eqv_texts, eqv_str, dataLt_tuple, lt_texts, dataLt_str]
  by_cases h : p.1 = q.1
  · rw [if_pos (decide_eq_true h), if_pos h]
    by_cases h2 : p.2 = q.2
    · rw [if_pos (decide_eq_true h2), h2, ltT_irr]
    · rw [if_neg (by simp [h2])]
      rfl
  · rw [if_neg (by simp [h]), if_neg h]
def leQ (p q : Qn) : Bool := !ltQ q p
theorem dataLe_q {β : Type} (f : β → Qn) : (dataLe false fun b => qD (f b)) = fun a b => leQ (f a) (f b) := by
  rw [dataLe_eq]
  funext a b
  show (!dataLt (qD (f b)) (qD (f a))) = _
  rw [dataLt_q]
  rfl
theorem leQ_trans (a b c : Qn) (h1 : leQ a b = true) (h2 : leQ b c = true) : leQ a c = true := by
  unfold leQ at *
  by_cases e1 : a = b
  · rw [e1]; exact h2
  · by_cases e2 : b = c
    · rw [← e2]; exact h1
    · rcases ltQ_tri a b e1 with h | h
      · rcases ltQ_tri b c e2 with k | k
        · rw [ltQ_asym (ltQ_trans _ _ _ h k)]; rfl
        · rw [k] at h2; cases h2
      · rw [h] at h1; cases h1
theorem leQ_total (a b : Qn) : (leQ a b || leQ b a) = true := by
  unfold leQ
  cases h : ltQ b a with
  | false => rfl
  | true => rw [ltQ_asym h]; rfl
/-- sorted, without doubles, is ascending -/
theorem asc_sort {β : Type} (f : β → Qn) (l : List β) (hn : (l.map f).Nodup) : ((l.mergeSort fun a b => leQ (f a) (f b)).map f).Pairwise fun a b => ltQ a b = true := by
  have h1 := List.pairwise_mergeSort (le := fun a b => leQ (f a) (f b)) (fun a b c => leQ_trans _ _ _) (fun a b => leQ_total _ _) l
  have h2 : ((l.mergeSort fun a b => leQ (f a) (f b)).map f).Nodup := ((List.mergeSort_perm l _).map f).nodup_iff.mpr hn
  rw [List.pairwise_map]
  rw [List.Nodup, List.pairwise_map] at h2
  exact (h1.and h2).imp fun {a b} ⟨h, hne⟩ => by
    rcases ltQ_tri _ _ hne with z | z
    · exact z
    · unfold leQ at h; rw [z] at h; cases h
/-- an ascending row is sorted already -/
theorem sort_asc {β : Type} (f : β → Qn) (l : List β) (h : (l.map f).Pairwise fun a b => ltQ a b = true) : l.mergeSort (fun a b => leQ (f a) (f b)) = l := by
  refine List.mergeSort_of_pairwise ?_
  rw [List.pairwise_map] at h
  exact h.imp fun {a b} z => by unfold leQ; rw [ltQ_asym z]; rfl
end Fp
/-! R9: sorting questions, <= of questions -/
namespace Fp
open PySem PySem.Spec PyProof.Rows L2 PySem.W
abbrev Qa := Qn × Addr
abbrev sortQ (ps : List Qa) : List Qa := ps.mergeSort fun a b => leQ a.1 b.1
def qaV (ps : List Qa) : List V := ps.map fun e => V.ref e.2
def QAs (K : PySem.W.Frag) (H : Hp) (ps : List Qa) : Prop := ∀ e ∈ ps, Dp K H (.ref e.2) (qD e.1)
theorem QAs.same {K : PySem.W.Frag} {H H' : Hp} {ps : List Qa} (s : Same H H') (h : QAs K H ps) : QAs K H' ps := fun e he => Dp.same s (h e he)
theorem vals_ref_eq {α : Type} (f : α → Addr) : ∀ {l : List α} {us : List Value}, Vals (l.map fun e => V.ref (f e)) us → us = l.map fun e => Value.ref (f e)
  | [], _, h => by cases h; rfl
  | _ :: l, _, h => by
    cases h with
    | cons h t =>
      obtain rfl := h
      rw [vals_ref_eq f t]
      rfl
theorem each_refs {R : Value → Qa → Prop} : ∀ {l : List Qa}, (∀ e ∈ l, R (.ref e.2) e) → EachIs R (l.map fun e => Value.ref e.2) l
  | [], _ => .nil
  | a :: l, h => .cons (h a (by simp)) (each_refs fun e he => h e (by simp [he]))
theorem refs_each : ∀ {out : List Value} {l : List Qa}, EachIs (fun v b => v = Value.ref b.2) out l → out = l.map fun e => Value.ref e.2
  | _, _, .nil => rfl
  | _, _, .cons h t => by rw [List.map_cons, h, refs_each t]
theorem depth_strs : ∀ l : List Str, PyData.depthAll (l.map .str) = 0
  | [] => by simp [PyData.depthAll]
  | x :: l => by
    show PyData.depthAll (.str x :: l.map .str) = 0
    rw [PyData.depthAll, depth_strs l]
    simp [PyData.depth]
theorem qD_depth (q : Qn) : (qD q).depth ≤ 3 := by
  unfold qD
  simp only [PyData.depth, PyData.depthAll, depth_strs]
  decide
theorem reads_strs {h : Heap} : ∀ {l : List Str} {us : List Value} {as : List Addr}, ReadsAll h us (l.map .str) as → as = []
  | [], _, _, r => by
    have r' : ReadsAll h _ [] _ := r
    cases r'
    rfl
  | x :: l, _, _, r => by
    have r' : ReadsAll h _ (.str x :: l.map .str) _ := r
    cases r' with
    | cons h1 h2 =>
      cases h1
      rw [reads_strs h2]
      rfl
theorem reads_two {h : Heap} {q : Qn} : ∀ {us : List Value} {as : List Addr}, ReadsAll h us [.tuple (q.1.map .str), .str q.2] as → as = []
  | _, _, r => by
    cases r with
    | cons r1 r2 =>
      cases r2 with
      | cons r4 r5 =>
        cases r4
        cases r5
        cases r1 with
        | tuple _ _ _ r3 =>
          rw [reads_strs r3]
          rfl
theorem reads_q {h : Heap} {v : Value} {q : Qn} {as : List Addr} (r : Reads h v (qD q) as) : as = [] := by
  unfold qD at r
  cases r with
  | tuple _ _ _ r => exact reads_two r
section
variable {X : Cx}
def rSortQ (K : PySem.W.Frag) : List V → Hp → VK → Prop := fun xs H Q => ∃ (p : Addr) (ps : List Qa), xs = [.ref p] ∧ SqL K H p (qaV ps) ∧ QAs K H ps ∧ ∀ l, H l = none → Q (.ref l) (upd H l (.lst (qaV (sortQ ps))))
theorem cr_sortQ (hu : X.A.units + 64 < cLine) : CallR X (.builtin "sorted") (rSortQ X.K) := by
  intro pins s σ H vs us Q I r h
  obtain ⟨a, ps, rfl, hs, hq, q⟩ := h
  obtain ⟨its, rv, hl, hz⟩ := I.list hs
  rw [Vals.ref1 r]
  have e := vals_ref_eq (fun e : Qa => e.2) rv
  subst e
  have hz' : ps.length ≤ sizeLine := by unfold qaV at hz; rw [List.length_map] at hz; exact hz
  refine sorted_data (enc := fun e : Qa => qD e.1) (R := fun v b => v = Value.ref b.2) hl.isList (each_refs fun e _ => rfl) (each_refs fun e he => Dp.reads I _ _ _ (hq e he) rfl) (AllAlike.of fun b b' => alike_q b.1 b'.1) (Sortable.tuples fun b => ⟨_, _, rfl⟩) hz' (fun b _ => by have := qD_depth b.1; omega) fun out hlen ho => ?_
  rw [dataLe_q fun e : Qa => e.1] at ho
  have ho' := refs_each ho
  subst ho'
  obtain ⟨ep, he'⟩ := PyProof.Rows.sortedAll_at s.heap (ps.map fun e => Value.ref e.2) ((sortQ ps).map fun e => Value.ref e.2).toArray
  have hlen2 : (sortQ ps).length = ps.length := List.length_mergeSort _
  refine ⟨.ref _, upd H (s.heap.objs.size + 1) (.lst (qaV (sortQ ps))), I.laid (t' := s.toks) (fun _ _ => PyProof.Rows.sortedAll_old) (Nat.le_succ _) ⟨by unfold qaV; rw [List.length_map, hlen2]; exact hz', _, ep, vals_of_refs (fun e : Qa => e.2) (sortQ ps), he'⟩, rfl, q _ (I.hok.fresh (Nat.le_succ _))⟩
abbrev qas (es : List Qe) : List Qa := es.map fun e => (e.1, e.2.1)
/-- sorted(d) -/
def rSortDQ (K : PySem.W.Frag) (P : Program) (w : World) : List V → Hp → VK → Prop := fun xs H Q => ∃ (d : Addr) (es : List Qe), xs = [.ref d] ∧ L2.Rd H d (QdO P w d es) ∧ QKs K H es ∧ ∀ l, H l = none → Q (.ref l) (upd H l (.lst (qaV (sortQ (qas es)))))
theorem cr_sortDQ (hc : X.calm = true) (hu : X.A.units + 64 < cLine) : CallR X (.builtin "sorted") (rSortDQ X.K X.prog X.w) := by
  intro pins s σ H xs us Q I r h
  obtain ⟨d, es, rfl, hd, hk, q⟩ := h
  rw [Vals.ref1 r]
  have R := qd_rd I.hok hd
  obtain ⟨o, ho⟩ : ∃ o, s.heap.get? d = some o := by obtain ⟨_, _, _, _, o, _, _, ho, _⟩ := R; exact ⟨o, ho⟩
  obtain ⟨lo, hx, en, ep, hdt, hsz, ent⟩ := qd_raw R ho
  have hz : es.length ≤ sizeLine := R.1
  refine Calls.call_function_entry PyProof.Rows.kind_sorted PyProof.Rows.plain_sorted PyProof.Rows.entry_sorted (PyProof.Rows.args_sorted1 _) ?_
  unfold Builtin.«sorted»
  refine wpAny_bind (m := checkCount "sorted" 1 1 _) (wpAny_pure ?_)
  refine wpAny_bind (PySem.W.kdu_collect (A := X.A.in1) (kdl_raw (ep := ep) lo) (I.ok.hd hc) (show s.heap.DictRaw d en ep from ⟨o, ho, hx, hdt⟩) (by rw [hsz]; exact hz) fun h' tk acc hkp hacc => ?_)
  have hv : acc.toList = es.map fun e => Value.ref e.2.1 := vals_refs (by rw [Array.length_toList, hacc.1, hsz]) fun j v e h1 h2 => by
    obtain ⟨hj, rfl⟩ := hacc.2 j v (by rw [← Array.getElem?_toList]; exact h1)
    obtain ⟨n, hn, hk', _⟩ := ent j e h2
    rw [Array.getElem?_eq_getElem hj] at hn
    rw [Option.some.inj hn, hk']
  have hv2 : acc.toList = (qas es).map fun e => Value.ref e.2 := by rw [hv, List.map_map]; rfl
  rw [hv2]
  have hqz : (qas es).length ≤ sizeLine := by rw [List.length_map]; exact hz
  have I1 : Inv X pins σ H { s with heap := h', toks := tk } := I.kept hkp
  refine wpAny_bind (wpAny_newList ?_ (by rw [List.length_map]; exact hqz))
  have hoL : (h'.push (seqObj "list" ((qas es).map fun e => Value.ref e.2).toArray 0)).get? h'.objs.size = some (seqObj "list" ((qas es).map fun e => Value.ref e.2).toArray 0) := Heap.get?_push_size _ rfl
  have I2 : Inv X pins σ H { s with heap := h'.push (seqObj "list" ((qas es).map fun e => Value.ref e.2).toArray 0), toks := tk } := I1.kept (t' := tk) fun b ob q => Heap.get?_push_of_some _ q
  have hds : ∀ e ∈ qas es, ∃ as, Reads (h'.push (seqObj "list" ((qas es).map fun e => Value.ref e.2).toArray 0)) (.ref e.2) (qD e.1) as ∧ h'.objs.size ∉ as := fun e he => by
    obtain ⟨e0, h0, rfl⟩ := List.mem_map.mp he
    obtain ⟨as, ra⟩ := Dp.reads I2 (qD e0.1) _ _ (hk e0 h0) rfl
    rw [reads_q ra] at ra
    exact ⟨[], ra, by simp⟩
  refine wpAny_bind (wpAny_holding (list_sort_data (s := { s with heap := h'.push (seqObj "list" ((qas es).map fun e => Value.ref e.2).toArray 0), toks := tk }) (enc := fun e : Qa => qD e.1) (R := fun v b => v = Value.ref b.2) hoL (each_refs fun e _ => rfl) (each_refs hds) (AllAlike.of fun b b' => alike_q b.1 b'.1) (Sortable.tuples fun b => ⟨_, _, rfl⟩) hqz (fun b _ => ?_) fun out hlen hout => ?_))
  · have := qD_depth b.1
    show X.A.units + 1 + 1 + _ < _
    omega
  rw [dataLe_q fun e : Qa => e.1] at hout
  have ho' := refs_each hout
  subst ho'
  obtain ⟨e', he'⟩ := PyProof.Rows.sortedHeap_at (vs := (qas es).map fun e => Value.ref e.2) (out := ((sortQ (qas es)).map fun e => Value.ref e.2).toArray) hoL
  have hlen2 : (sortQ (qas es)).length = (qas es).length := List.length_mergeSort _
  refine wpAny_pure ⟨_, rfl, .ref h'.objs.size, upd H h'.objs.size (.lst (qaV (sortQ (qas es)))), I1.laid (t' := tk) (fun b u e => ?_) (Nat.le_refl _)
    (show ObjOk X.prog X.w _ _ _ (.lst (qaV (sortQ (qas es)))) from ⟨by unfold qaV; rw [List.length_map, hlen2]; exact hqz, _, e', vals_of_refs (fun e : Qa => e.2) (sortQ (qas es)), he'⟩), rfl, q _ (I1.hok.fresh (Nat.le_refl _))⟩
  have hb : b < h'.objs.size := Heap.lt_size e
  rw [PyProof.Rows.sortedHeap_old (Nat.ne_of_lt hb) (by rw [size_push']; exact Nat.lt_succ_of_lt hb)]
  exact Heap.get?_push_of_some _ e
/-! ### <= -/
theorem lexAt_tail (e r : Nat → Bool) (z : Bool) : ∀ (k i : Nat), Ob.lexAt e r z (i + 1) k = Ob.lexAt (fun j => e (j + 1)) (fun j => r (j + 1)) z i k
  | 0, _ => rfl
  | k + 1, i => by rw [Ob.lexAt_succ, Ob.lexAt_succ, lexAt_tail e r z k (i + 1)]
theorem lexAt_sc : ∀ (a b : List Str) (e r : Nat → Bool), (∀ j x y, a[j]? = some x → b[j]? = some y → e j = decide (x = y) ∧ r j = !ltT y x) → Ob.lexAt e r (decide (a.length ≤ b.length)) 0 (min a.length b.length) = !ltSc b a
  | [], [], _, _, _ => rfl
  | [], _ :: _, _, _, _ => by simp [Ob.lexAt, ltSc]
  | _ :: _, [], _, _, _ => by simp [Ob.lexAt, ltSc]
  | x :: a, y :: b, e, r, h => by
    obtain ⟨h1, h2⟩ := h 0 x y rfl rfl
    have ih := lexAt_sc a b (fun j => e (j + 1)) (fun j => r (j + 1)) fun j x y hx hy => h (j + 1) x y (by simpa using hx) (by simpa using hy)
    rw [List.length_cons, List.length_cons, Nat.succ_min_succ, Ob.lexAt_succ, lexAt_tail, h1, h2, ltSc]
    have hd : decide (a.length + 1 ≤ b.length + 1) = decide (a.length ≤ b.length) := by simp
    rw [hd, ih]
    by_cases hxy : x = y
    · rw [if_pos (decide_eq_true hxy), if_pos hxy.symm]
    · rw [if_neg (by simp [hxy]), if_neg (Ne.symm hxy)]
theorem le_str_op {A : Around} {s : Shared} (x y : Str) (t u : Tok) : Ob.RcOp .LtE A s (.str x t) (.str y u) (!ltT y x) := fun _ _ _ _ h => PySem.P.le_str h
theorem strs_get {l : List Str} {us : List Value} (r : Vals (l.map V.str) us) {j : Nat} {x : Str} (h : l[j]? = some x) : ∃ t, us[j]? = some (.str x t) := by
  obtain ⟨u, hu, t, e⟩ := r.get (show (l.map V.str)[j]? = some (.str x) by rw [List.getElem?_map, h]; rfl)
  exact ⟨t, by rw [hu, e]⟩
theorem le_sc {A : Around} {s : Shared} {a b : List Str} {us ws : List Value} {l m : Addr} (h1 : s.heap.IsTuple l us.toArray) (h2 : s.heap.IsTuple m ws.toArray) (r1 : Vals (a.map V.str) us) (r2 : Vals (b.map V.str) ws) (hu : A.units < cLine) :
    Ob.RcOp .LtE A s (.ref l) (.ref m) (!ltSc b a) := by
  have l1 : us.toArray.size = a.length := by have := r1.length; rw [List.length_map] at this; simp [← this]
  have l2 : ws.toArray.size = b.length := by have := r2.length; rw [List.length_map] at this; simp [← this]
  have at1 : ∀ j (h : j < us.toArray.size) x, a[j]? = some x → ∃ t, us.toArray[j] = .str x t := fun j h x hx => by
    obtain ⟨t, e⟩ := strs_get r1 hx
    exact ⟨t, by simp at h; simpa [h] using e⟩
  have at2 : ∀ j (h : j < ws.toArray.size) x, b[j]? = some x → ∃ t, ws.toArray[j] = .str x t := fun j h x hx => by
    obtain ⟨t, e⟩ := strs_get r2 hx
    exact ⟨t, by simp at h; simpa [h] using e⟩
  have R := Ob.RcOp.tuples_le (A := A) (s := s) (e := fun j => decide (a[j]? = b[j]?)) (r := fun j => match a[j]?, b[j]? with | some x, some y => !ltT y x | _, _ => false) h1 h2 hu (fun j g1 g2 => by
    obtain ⟨x, hx⟩ : ∃ x, a[j]? = some x := ⟨a[j]'(by omega), List.getElem?_eq_getElem _⟩
    obtain ⟨y, hy⟩ : ∃ y, b[j]? = some y := ⟨b[j]'(by omega), List.getElem?_eq_getElem _⟩
    obtain ⟨t, e1⟩ := at1 j g1 x hx
    obtain ⟨t2, e2⟩ := at2 j g2 y hy
    rw [e1, e2]
    have z : (x == y) = decide (a[j]? = b[j]?) := by
      rw [hx, hy]
      by_cases q : x = y
      · rw [decide_eq_true (by rw [q])]; exact beq_iff_eq.mpr q
      · rw [decide_eq_false (fun z => q (Option.some.inj z))]; exact beq_eq_false_iff_ne.mpr q
    rw [← z]
    exact SeqAt.EqAt.str_str _ _ _ _) (fun j g1 g2 _ => by
    obtain ⟨x, hx⟩ : ∃ x, a[j]? = some x := ⟨a[j]'(by omega), List.getElem?_eq_getElem _⟩
    obtain ⟨y, hy⟩ : ∃ y, b[j]? = some y := ⟨b[j]'(by omega), List.getElem?_eq_getElem _⟩
    obtain ⟨t, e1⟩ := at1 j g1 x hx
    obtain ⟨t2, e2⟩ := at2 j g2 y hy
    rw [e1, e2]
    simp only [hx, hy]
    exact le_str_op x y t t2)
  rw [l1, l2, lexAt_sc a b _ _ fun j x y hx hy => ⟨by rw [hx, hy]; simp, by rw [hx, hy]⟩] at R
  exact R
/-- p <= q -/
def rLeQ (K : PySem.W.Frag) : R2 := fun x y H Q => ∃ (p q : Qn), Dp K H x (qD p) ∧ Dp K H y (qD q) ∧ Q (.bl (leQ p q)) H
theorem op_leQ (hu : X.A.units + 64 < cLine) : OpR X (compareOp .LtE) (rLeQ X.K) := by
  intro pins s σ H x y v u Q I rx ry ⟨p, q, hp, hq, k⟩
  obtain ⟨a, b, rfl, p1, p2⟩ := qv_un hp
  obtain ⟨c, d, rfl, q1, q2⟩ := qv_un hq
  cases rx
  cases ry
  obtain ⟨us, r1, t1, _⟩ := I.tuple p1
  obtain ⟨us2, r2, t2, _⟩ := I.tuple p2
  obtain ⟨ws, r3, t3, _⟩ := I.tuple q1
  obtain ⟨ws2, r4, t4, _⟩ := I.tuple q2
  obtain ⟨as, rd1⟩ := Dp.reads I (.tuple (p.1.map .str)) (.ref b) (.ref b) (.tup p2 (dpAll_str' _)) rfl
  obtain ⟨bs, rd2⟩ := Dp.reads I (.tuple (q.1.map .str)) (.ref d) (.ref d) (.tup q2 (dpAll_str' _)) rfl
  cases r1 with
  | cons ra t =>
    cases t with
    | cons rb t =>
      cases t
      obtain rfl := ra
      obtain ⟨tk, rfl⟩ := rb
      cases r3 with
      | cons rc t =>
        cases t with
        | cons rd t =>
          cases t
          obtain rfl := rc
          obtain ⟨tk2, rfl⟩ := rd
          have R := Ob.RcOp.tuples_le (A := X.A) (s := s) (e := fun j => if j = 0 then decide (p.1 = q.1) else decide (p.2 = q.2)) (r := fun j => if j = 0 then !ltSc q.1 p.1 else !ltT q.2 p.2) t1 t3 (by omega) (fun j g1 g2 => by
            have g1' : j < 2 := g1
            rcases j with _ | _ | j
            · have := eqAt_alike (.tuple (p.1.map .str)) (.tuple (q.1.map .str)) X.A.in1 s (.ref b) (.ref d) as bs rd1 rd2 (by rw [alike, alike_texts]) (by
                have h1 : (PyData.tuple (p.1.map .str)).depth ≤ 1 := by simp only [PyData.depth, depth_strs]; decide
                show X.A.units + 1 + _ < _
                omega)
              rw [eqv_tup, eqv_texts] at this
              exact this
            · have z : (p.2 == q.2) = decide (p.2 = q.2) := by
                by_cases h : p.2 = q.2
                · rw [decide_eq_true h]; exact beq_iff_eq.mpr h
                · rw [decide_eq_false h]; exact beq_eq_false_iff_ne.mpr h
              show SeqAt.EqAt X.A.in1 s _ _ (decide (p.2 = q.2))
              rw [← z]
              exact SeqAt.EqAt.str_str _ _ _ _
            · omega) (fun j g1 g2 _ => by
            have g1' : j < 2 := g1
            rcases j with _ | _ | j
            · exact le_sc t2 t4 r2 r4 (by show X.A.units + 1 < _; omega)
            · exact le_str_op _ _ _ _
            · omega)
          have ev : Ob.lexAt (fun j => if j = 0 then decide (p.1 = q.1) else decide (p.2 = q.2)) (fun j => if j = 0 then !ltSc q.1 p.1 else !ltT q.2 p.2) true 0 2 = leQ p q := by
            unfold leQ ltQ
            rw [Ob.lexAt_succ, Ob.lexAt_succ, Ob.lexAt_zero]
            simp only [if_true, Nat.zero_add, Nat.one_ne_zero, if_false]
            by_cases h1 : p.1 = q.1
            · rw [if_pos (decide_eq_true h1), if_pos h1.symm]
              by_cases h2 : p.2 = q.2
              · rw [if_pos (decide_eq_true h2), h2, ltT_irr]; rfl
              · rw [if_neg (by simp [h2])]
            · rw [if_neg (by simp [h1]), if_neg (Ne.symm h1)]
          have R' : Ob.RcOp .LtE X.A s (.ref a) (.ref c) (leQ p q) := by rw [← ev]; exact R
          have z : wpAny (model X.prog X.w) X.A (compareOp .LtE (.ref a) (.ref c)) (EP X pins σ Q) X.xe s := R' X.prog X.w X.xe (EP X pins σ Q) ⟨.bl _, H, I, rfl, k⟩
          exact z
end
end Fp
/-! M8: texts of kinds, scopes, questions, lines: what is written is read, what is read stands as it is written -/
namespace Fp
open PySem TL PyProof.Rows
/-! signs -/
def okC (c : Nat) : Prop := isLet c = true ∨ c = 32 ∨ c = 45 ∨ c = 62 ∨ c = 40 ∨ c = 41
theorem okC_not {c d : Nat} (h : okC c) (hd : isLet d = false ∧ d ≠ 32 ∧ d ≠ 45 ∧ d ≠ 62 ∧ d ≠ 40 ∧ d ≠ 41) : c ≠ d := by
  rintro rfl
  obtain ⟨h0, h1, h2, h3, h4, h5⟩ := hd
  rcases h with h | h | h | h | h | h
  · rw [h0] at h; cases h
  all_goals contradiction
theorem sep_each : ∀ {ts : List (List Nat)}, SepT ts → ∀ t ∈ ts, wordT t ∨ signT t
  | [], _, _, h => by cases h
  | t :: r, hs, u, h => by
    rcases List.mem_cons.mp h with rfl | h
    · exact sep_head hs
    · exact sep_each (sep_tail hs) u h
theorem txt_signs {k : Kd} (h : wds k = true) : ∀ c ∈ tl (txt k), okC c := by
  intro c hc
  have hs : SepT (tk k) := by
    have := sep_tk k h [] (.inl rfl) (by trivial)
    rwa [List.append_nil] at this
  obtain ⟨t, ht, hct⟩ := List.mem_flatten.mp (show c ∈ (tk k).flatten from hc)
  rcases sep_each hs t ht with ⟨_, h1⟩ | h1
  · exact .inl (h1 c hct)
  · rcases h1 with rfl | rfl | rfl
    all_goals
      simp [Arr, Opn, Clo] at hct
      unfold okC
      omega
theorem word_signs {x : Str} (h : isWord x = true) : ∀ c ∈ tl x, okC c := fun c hc => .inl ((wordT_of h).2 c hc)
theorem txt_ne {k : Kd} (h : wds k = true) : tl (txt k) ≠ [] := by
  obtain ⟨as, a⟩ := k
  rw [wds_mk, Bool.and_eq_true] at h
  show (tk (.mk as a)).flatten ≠ []
  rw [tk_mk, List.flatten_append]
  have := (wordT_of h.1).1
  simp [this]
theorem no124 {c : Nat} (h : okC c) : c ≠ 124 := okC_not h (by decide)
theorem no59 {c : Nat} (h : okC c) : c ≠ 59 := okC_not h (by decide)
theorem no58 {c : Nat} (h : okC c) : c ≠ 58 := okC_not h (by decide)
theorem no10 {c : Nat} (h : okC c) : c ≠ 10 := okC_not h (by decide)
/-! scopes -/
theorem sc_parts {sc : List Str} (h : scOk sc = true) : ∀ x ∈ sc, (∀ c ∈ tl x, okC c) ∧ tl x ≠ [] := by
  unfold scOk at h
  simp only [Bool.and_eq_true] at h
  intro x hx
  have := List.all_eq_true.mp h.2.2 x hx
  obtain ⟨k, hk⟩ := Option.isSome_iff_exists.mp this
  have h1 := (parse_small hk).1
  rw [← parse_sound hk]
  exact ⟨txt_signs h1, txt_ne h1⟩
theorem joinL_signs {S : List Nat} {P : Nat → Prop} (hS : ∀ c ∈ S, P c) : ∀ {ps : List (List Nat)}, (∀ p ∈ ps, ∀ c ∈ p, P c) → ∀ c ∈ joinL S ps, P c
  | [], _, c, h => by simp [joinL] at h
  | [p], hp, c, h => hp p (by simp) c h
  | p :: q :: r, hp, c, h => by
    rw [joinL_cons2 S p (by simp)] at h
    rcases List.mem_append.mp h with h | h
    · exact hp p (by simp) c h
    · rcases List.mem_append.mp h with h | h
      · exact hS c h
      · exact joinL_signs hS (fun p' hp' => hp p' (List.mem_cons_of_mem _ hp')) c h
theorem scTxt_signs {sc : List Str} (h : scOk sc = true) : ∀ c ∈ tl (scTxt sc), okC c ∨ c = 59 := by
  rw [scTxt_tl]
  refine joinL_signs (P := fun c => okC c ∨ c = 59) (fun c hc => ?_) (fun p hp c hc => ?_)
  · simp at hc
    rcases hc with rfl | rfl
    · exact .inr rfl
    · exact .inl (.inr (.inl rfl))
  · obtain ⟨x, hx, rfl⟩ := List.mem_map.mp hp
    exact .inl ((sc_parts h x hx).1 c hc)
theorem ext_l {x y : Str} (h : tl x = tl y) : x = y := TL.ext_tl h
theorem scTxt_nil {sc : List Str} (h : scOk sc = true) : scTxt sc = Str.ofString "" ↔ sc = [] := by
  constructor
  · intro e
    cases sc with
    | nil => rfl
    | cons x r =>
      have hx := (sc_parts h x (by simp)).2
      have e2 := congrArg tl e
      rw [scTxt_tl] at e2
      have e3 : tl (Str.ofString "") = [] := by decide +kernel
      rw [e3, List.map_cons] at e2
      cases r with
      | nil => exact absurd e2 hx
      | cons y r => rw [List.map_cons, joinL_cons2 _ _ (by simp)] at e2; simp at e2
  · rintro rfl
    decide +kernel
theorem maps_tl : ∀ {a b : List Str}, a.map tl = b.map tl → a = b
  | [], [], _ => rfl
  | [], _ :: _, h => by simp at h
  | _ :: _, [], h => by simp at h
  | x :: a, y :: b, h => by
    rw [List.map_cons, List.map_cons] at h
    injection h with h1 h2
    rw [ext_l h1, maps_tl h2]
theorem split_sc {sc : List Str} (h : scOk sc = true) (hne : sc ≠ []) : Txt.split (scTxt sc) (Str.ofString "; ") = sc := by
  apply maps_tl
  rw [split_spl _ _ (by rw [sc_tl]; simp) (kind_ok sc_ok), scTxt_tl, sc_tl]
  exact spl_join (by simpa using hne) fun p hp hc => by
    obtain ⟨x, hx, rfl⟩ := List.mem_map.mp hp
    exact no59 ((sc_parts h x hx).1 _ hc) rfl
/-! questions -/
theorem tl_app2 (x y : Str) : tl (x ++ y) = tl x ++ tl y := TL.tl_append x y
theorem turn_tl2 : tl (Str.ofString "|- ") = [124, 45, 32] := turn_tl
theorem qTxt_nil (a : Str) : tl (qTxt ([], a)) = [124, 45, 32] ++ tl a := by
  unfold qTxt
  rw [if_pos (show scTxt [] = Str.ofString "" by decide +kernel), tl_app2, tl_app2, turn_tl, show tl (Str.ofString "") = [] by decide +kernel]
  rfl
theorem qTxt_cons {q : Qn} (h : scTxt q.1 ≠ Str.ofString "") : tl (qTxt q) = tl (scTxt q.1) ++ ([32, 124, 45, 32] ++ tl q.2) := by
  unfold qTxt
  rw [if_neg h, tl_app2, tl_app2, tl_app2, turn_tl, show tl (Str.ofString " ") = [32] by decide +kernel]
  simp
theorem qTold_txt {q : Qn} (h : isQ q = true) : qTold (qTxt q) = some q := by
  have h' := h
  unfold isQ at h'
  rw [Bool.and_eq_true] at h'
  obtain ⟨h1, h2⟩ := h'
  obtain ⟨sc, a⟩ := q
  dsimp only at h1 h2
  have hraw : qRaw (qTxt (sc, a)) = some (sc, a) := by
    unfold qRaw
    by_cases hs : sc = []
    · subst hs
      rw [qTxt_nil, if_pos (by simp)]
      congr 2
    · have hne := fun e => hs ((scTxt_nil h1).mp e)
      have e := qTxt_cons (q := (sc, a)) hne
      have hx : ∃ c r, tl (scTxt sc) = c :: r := by
        cases hh : tl (scTxt sc) with
        | nil => exact absurd (ext_l (by rw [hh]; decide +kernel)) hne
        | cons c r => exact ⟨c, r, rfl⟩
      obtain ⟨c, r, hcr⟩ := hx
      have hc : c ≠ 124 := by
        rcases scTxt_signs h1 c (by rw [hcr]; simp) with z | z
        · exact no124 z
        · rw [z]; decide
      rw [if_neg (by rw [e]; dsimp only; rw [hcr]; simp [hc])]
      rw [split_two (p := scTxt sc) (q := a) (c := 124) (S := [45, 32]) bar_tl bar_ok (by decide) (fun z => ?_) (fun z => no124 (word_signs h2 _ z) rfl) (by rw [e, bar_tl])]
      · dsimp only
        rw [split_sc h1 hs]
      · rcases scTxt_signs h1 _ z with z | z
        · exact no124 z rfl
        · cases z
  unfold qTold
  rw [hraw]
  dsimp only
  rw [if_pos h]
theorem qTold_back {x : Str} {q : Qn} (h : qTold x = some q) : isQ q = true ∧ qTxt q = x := by
  unfold qTold at h
  cases hr : qRaw x with
  | none => rw [hr] at h; cases h
  | some q' =>
    rw [hr] at h
    dsimp only at h
    split at h
    · rename_i hq
      cases h
      refine ⟨hq, ?_⟩
      apply ext_l
      unfold qRaw at hr
      by_cases h3 : (tl x).take 3 = [124, 45, 32]
      · rw [if_pos h3] at hr
        cases hr
        rw [qTxt_nil, ← h3]
        exact List.take_append_drop 3 (tl x)
      · rw [if_neg h3] at hr
        have ne : tl (Str.ofString " |- ") ≠ [] := by rw [bar_tl]; simp
        have ne2 : tl (Str.ofString "; ") ≠ [] := by rw [sc_tl]; simp
        have hb := (split_back (x := x) ne bar_ok).1
        split at hr
        · rename_i a b hs
          cases hr
          rw [hs] at hb
          have ha := (split_back (x := a) ne2 sc_ok)
          have e1 : scTxt (Txt.split a (Str.ofString "; ")) = a := by
            apply ext_l
            rw [scTxt_tl, ← sc_tl]
            exact ha.1
          have hne : scTxt (Txt.split a (Str.ofString "; ")) ≠ Str.ofString "" := fun z => by
            unfold isQ at hq
            rw [Bool.and_eq_true] at hq
            exact ha.2 ((scTxt_nil hq.1).mp z)
          rw [qTxt_cons (q := (Txt.split a (Str.ofString "; "), b)) hne, ← hb, e1, bar_tl]
          rfl
        · cases hr
    · cases h
/-! lines of ranks -/
theorem par32 : ∀ (l acc : List Nat), match par [32] acc l with | some (a, b) => ∃ p, a = acc ++ p ∧ 32 ∉ p ∧ l = p ++ 32 :: b | none => 32 ∉ l
  | [], acc => by simp [par]
  | c :: r, acc => by
    by_cases hc : c = 32
    · subst hc
      rw [par_hit (by exact pre_self [32] r)]
      exact ⟨[], by simp, by simp, rfl⟩
    · rw [par_miss (pre_of_head [] r hc)]
      have ih := par32 r (acc ++ [c])
      cases h : par [32] (acc ++ [c]) r with
      | none => rw [h] at ih; simp only [List.mem_cons, not_or]; exact ⟨Ne.symm hc, ih⟩
      | some ab =>
        rw [h] at ih
        obtain ⟨a, b⟩ := ab
        obtain ⟨p, h1, h2, h3⟩ := ih
        exact ⟨c :: p, by rw [h1]; simp, by simp only [List.mem_cons, not_or]; exact ⟨Ne.symm hc, h2⟩, by rw [h3]; rfl⟩
theorem sp_tl : tl (Str.ofString " ") = [32] := by decide +kernel
theorem part_two (x : Str) : ((Txt.partition x (Str.ofString " ")).1 = x ∧ (Txt.partition x (Str.ofString " ")).2.2 = Str.empty ∧ 32 ∉ tl x) ∨ (32 ∉ tl (Txt.partition x (Str.ofString " ")).1 ∧ tl x = tl (Txt.partition x (Str.ofString " ")).1 ++ 32 :: tl (Txt.partition x (Str.ofString " ")).2.2) := by
  rw [partition_par x _ (by rw [sp_tl]; simp), sp_tl]
  have h := par32 (tl x) []
  cases e : par [32] [] (tl x) with
  | none => rw [e] at h; exact .inl ⟨rfl, rfl, h⟩
  | some ab =>
    rw [e] at h
    obtain ⟨a, b⟩ := ab
    obtain ⟨p, h1, h2, h3⟩ := h
    rw [List.nil_append] at h1
    subst h1
    exact .inr ⟨h2, h3⟩
theorem part_le (x : Str) : (Txt.partition x (Str.ofString " ")).1.length ≤ x.length ∧ (Txt.partition x (Str.ofString " ")).2.2.length ≤ x.length := by
  rcases part_two x with ⟨h1, h2, _⟩ | ⟨_, h⟩
  · rw [h1, h2]
    exact ⟨Nat.le_refl _, Nat.zero_le _⟩
  · have := congrArg List.length h
    rw [List.length_append, List.length_cons, ← len_tl, ← len_tl, ← len_tl] at this
    omega
abbrev Rk := Qn × Nat
def rankOf (x : Str) : Option Rk := match numOf (Txt.partition x (Str.ofString " ")).1, qTold (Txt.partition x (Str.ofString " ")).2.2 with
  | some n, some q => if n = 0 then none else some (q, n)
  | _, _ => none
def RkOk (r : Rk) : Prop := isQ r.1 = true ∧ 1 ≤ r.2 ∧ r.2 < 10 ^ 60
/-- the line of a rank -/
def rkLine (r : Rk) : Str := Str.empty ++ Str.ofString (toString ((r.2 : Nat) : Int)) ++ Str.ofString " " ++ qTxt r.1
theorem rkLine_tl (r : Rk) : tl (rkLine r) = numL r.2 ++ 32 :: tl (qTxt r.1) := by
  unfold rkLine
  rw [tl_app2, tl_app2, tl_app2, tl_num, sp_tl]
  simp [Str.empty, tl]
theorem app_split {c : Nat} : ∀ {a b p q : List Nat}, c ∉ a → c ∉ p → a ++ c :: b = p ++ c :: q → a = p ∧ b = q
  | [], b, [], q, _, _, h => by simp at h; exact ⟨rfl, h⟩
  | [], b, d :: p, q, _, h2, h => by simp at h; exact absurd h.1 (by intro z; exact h2 (by rw [z]; simp))
  | d :: a, b, [], q, h1, _, h => by simp at h; exact absurd h.1 (by intro z; exact h1 (by rw [← z]; simp))
  | d :: a, b, e :: p, q, h1, h2, h => by
    simp only [List.cons_append, List.cons.injEq] at h
    obtain ⟨e1, e2⟩ := app_split (fun z => h1 (List.mem_cons_of_mem _ z)) (fun z => h2 (List.mem_cons_of_mem _ z)) h.2
    exact ⟨by rw [h.1, e1], e2⟩
theorem rankOf_line {r : Rk} (h : RkOk r) : rankOf (rkLine r) = some r := by
  obtain ⟨q, n⟩ := r
  obtain ⟨h1, h2, h3⟩ := h
  dsimp only at h1 h2 h3
  have e := rkLine_tl (q, n)
  dsimp only at e
  rcases part_two (rkLine (q, n)) with ⟨_, _, h4⟩ | ⟨h4, h5⟩
  · exact absurd (by rw [e]; simp) h4
  · rw [e] at h5
    obtain ⟨e1, e2⟩ := app_split (numL_free (by decide)) h4 h5
    have e3 : (Txt.partition (rkLine (q, n)) (Str.ofString " ")).1 = S2 (numL n) := ext_l e1.symm
    have e4 : (Txt.partition (rkLine (q, n)) (Str.ofString " ")).2.2 = qTxt q := ext_l e2.symm
    unfold rankOf
    rw [e3, e4, numOf_num h3, qTold_txt h1]
    dsimp only
    rw [if_neg (by omega)]
theorem rankOf_back {x : Str} {r : Rk} (h : rankOf x = some r) : RkOk r ∧ rkLine r = x := by
  unfold rankOf at h
  cases h1 : numOf (Txt.partition x (Str.ofString " ")).1 with
  | none => rw [h1] at h; cases h
  | some n =>
    cases h2 : qTold (Txt.partition x (Str.ofString " ")).2.2 with
    | none => rw [h1, h2] at h; cases h
    | some q =>
      rw [h1, h2] at h
      dsimp only at h
      split at h
      · cases h
      · rename_i hn
        cases h
        obtain ⟨a1, a2⟩ := numOf_back h1
        obtain ⟨b1, b2⟩ := qTold_back h2
        refine ⟨⟨b1, by show 1 ≤ n; omega, a2⟩, ?_⟩
        apply ext_l
        rw [rkLine_tl]
        dsimp only
        rw [a1, b2]
        rcases part_two x with ⟨_, c2, _⟩ | ⟨_, c2⟩
        · rw [c2] at h2
          have : qTold Str.empty = none := by decide +kernel
          rw [this] at h2
          cases h2
        · exact c2.symm
/-! lines of libraries -/
theorem lineOf_tl (p : Str × Kd) : tl (lineOf p) = tl p.1 ++ ([32, 58, 32] ++ tl (txt p.2)) := by
  unfold lineOf
  rw [tl_app2, tl_app2, tl_app2, colon_tl]
  simp [Str.empty, tl]
theorem partOf_line {a : Str} {k : Kd} (h1 : isWord a = true) (h2 : wds k = true) (h3 : plc k ≤ 15) (h4 : ordK k ≤ 4) : partOf (lineOf (a, k)) = some (a, k) := by
  unfold partOf
  rw [split_two (p := a) (q := txt k) (c := 58) (S := [32]) colon_tl colon_ok (by decide) (fun z => no58 (word_signs h1 _ z) rfl) (fun z => no58 (txt_signs h2 _ z) rfl) (by rw [lineOf_tl, colon_tl])]
  dsimp only
  rw [if_pos h1, parse_txt h2 h4 h3]
/-! lines -/
theorem nl_free_q {q : Qn} (h : isQ q = true) : 10 ∉ tl (qTxt q) := by
  unfold isQ at h
  rw [Bool.and_eq_true] at h
  have hw : 10 ∉ tl q.2 := fun z => no10 (word_signs h.2 _ z) rfl
  by_cases hs : scTxt q.1 = Str.ofString ""
  · have := (scTxt_nil h.1).mp hs
    obtain ⟨sc, a⟩ := q
    dsimp only at this hw
    subst this
    rw [qTxt_nil]
    simpa using hw
  · rw [qTxt_cons hs]
    intro z
    simp only [List.mem_append, List.mem_cons, List.not_mem_nil, or_false] at z
    rcases z with z | z | z
    · rcases scTxt_signs h.1 _ z with z | z
      · exact no10 z rfl
      · cases z
    · revert z; decide
    · exact hw z
theorem nl_free_rk {r : Rk} (h : RkOk r) : 10 ∉ tl (rkLine r) := by
  rw [rkLine_tl]
  intro z
  simp only [List.mem_append, List.mem_cons] at z
  rcases z with z | z | z
  · exact numL_free (s := 10) (by decide) z
  · cases z
  · exact nl_free_q h.1 z
theorem nl_free_part {a : Str} {k : Kd} (h1 : isWord a = true) (h2 : wds k = true) : 10 ∉ tl (lineOf (a, k)) := by
  rw [lineOf_tl]
  intro z
  simp only [List.mem_append, List.mem_cons, List.not_mem_nil, or_false] at z
  rcases z with z | z | z
  · exact no10 (word_signs h1 _ z) rfl
  · revert z; decide
  · exact no10 (txt_signs h2 _ z) rfl
/-- rows, joined, are read row by row -/
def joinT (ls : List Str) : Str := if ls = [] then Str.ofString "none" else Txt.join (Str.ofString "\n") ls
theorem linesOf_join {ls : List Str} (h : ∀ l ∈ ls, 10 ∉ tl l) (hn : Txt.join (Str.ofString "\n") ls ≠ Str.ofString "none") : linesOf (joinT ls) = ls := by
  unfold joinT
  by_cases hl : ls = []
  · rw [if_pos hl, hl]
    unfold linesOf
    rw [if_pos rfl]
  · rw [if_neg hl]
    unfold linesOf
    rw [if_neg hn]
    apply maps_tl
    rw [split_spl _ _ (by rw [nl_tl]; simp) (kind_ok nl_ok), join_eq, tl_join, nl_tl]
    exact spl_join (by simpa using hl) fun p hp hc => by
      obtain ⟨x, hx, rfl⟩ := List.mem_map.mp hp
      exact h x hx hc
/-- what is read from a text, joined, is the text -/
theorem join_lines (x : Str) : joinT (linesOf x) = x := by
  unfold linesOf joinT
  have ne : tl (Str.ofString "\n") ≠ [] := by rw [nl_tl]; simp
  split
  · rename_i h
    rw [if_pos rfl, h]
  · obtain ⟨h1, h2⟩ := split_back (x := x) ne nl_ok
    rw [if_neg h2]
    apply ext_l
    rw [join_eq, tl_join]
    exact h1
end Fp
/-! W21: is_integer, is_rank_dict, rank_told -/
namespace Fp
open PySem PySem.Spec PyProof.Rows L2 TL
theorem walk_keysQ {P : Program} {w : World} {d : Addr} {o : Obj} {es : List Qe} : Walk (Itq P w d o es) es.length (fun H => H d = some (.frz o (QdO P w d es))) (fun i H x H' => H' = H ∧ ∃ e, es[i]? = some e ∧ x = .ref e.2.1) :=
  ⟨fun _ _ hi q => ⟨q, hi⟩, fun _ q => ⟨q, Nat.le_refl _⟩, fun _ _ _ _ _ _ y => y⟩
theorem walk_valsQ {P : Program} {w : World} {d : Addr} {o : Obj} {es : List Qe} : Walk (Itqv P w d o es) es.length (fun H => H d = some (.frz o (QdO P w d es))) (fun i H x H' => H' = H ∧ ∃ e, es[i]? = some e ∧ x = e.2.2) :=
  ⟨fun _ _ hi q => ⟨q, hi⟩, fun _ q => ⟨q, Nat.le_refl _⟩, fun _ _ _ _ _ _ y => y⟩
theorem QKs.sameL {K : PySem.W.Frag} {H H' : Hp} {es : List Qe} (s : SameL H H') (h : QKs K H es) : QKs K H' es := fun e he => Dp.sameL s (noL_q e.1) (h e he)
def RkE (es : List Qe) (rs : List Rk) : Prop := es.map (fun e => (e.1, e.2.2)) = rs.map fun r => (r.1, V.int (r.2 : Int))
theorem RkE.length {es : List Qe} {rs : List Rk} (h : RkE es rs) : es.length = rs.length := by
  have := congrArg List.length h
  rwa [List.length_map, List.length_map] at this
theorem RkE.get {es : List Qe} {rs : List Rk} (h : RkE es rs) {i : Nat} {e : Qe} (he : es[i]? = some e) : ∃ r, rs[i]? = some r ∧ e.1 = r.1 ∧ e.2.2 = V.int (r.2 : Int) := by
  have := congrArg (fun l => l[i]?) h
  simp only [List.getElem?_map, he] at this
  cases hr : rs[i]? with
  | none => rw [hr] at this; cases this
  | some r =>
    rw [hr] at this
    have e2 := Option.some.inj this
    exact ⟨r, rfl, congrArg Prod.fst e2, congrArg Prod.snd e2⟩
theorem RkE.keys {es : List Qe} {rs : List Rk} (h : RkE es rs) : qks es = rs.map Prod.fst := by
  have := congrArg (List.map Prod.fst) h
  rw [List.map_map, List.map_map] at this
  exact this
section
variable {P : Program} {w : World} {K : PySem.W.Frag} {mg : Str → Option Value} {base : Heap}
/-! ### is_integer -/
abbrev s_is_integer : Stmt := top 6
abbrev N_is_integer : List Str := ["value"]
theorem sc_is_integer : FnScope N_is_integer ["value"] (defScope s_is_integer) := ⟨rfl, rfl, rfl, by decide +kernel, rfl, by decide +kernel, by decide +kernel⟩
def sp_is_integer : Sp := fun vs H Q _ => ∃ n : Nat, vs = [.int (n : Int)] ∧ n < 10 ^ 60 ∧ Q (.bl true) H
theorem ok_is_integer {f : Addr} {fd : FuncData} (F : Fun K "is_integer" "is_integer" s_is_integer f fd) (N : Nm mg) : FnOk P w K mg base CX0 1 f fd ["value"] sp_is_integer := by
  refine F.ok sc_is_integer (fun vs H Q E h => ?_) (fun cdv A outer s H vs Q E hr h => ?_)
  · obtain ⟨n, rfl, _⟩ := h
    rfl
  · obtain ⟨n, rfl, hn, k⟩ := h
    refine ⟨_, (pss_one (ps_ret (pe_and (pe_callB call_isi (by rfl) N.isi (by decide +kernel) (pa_cons (pv 0) (pa_cons (pe_bltn (v := .ty "int") (by rfl) N.int (by decide +kernel) rfl) pa_nil))) (pe_and (pe_not (pe_callB call_isi (by rfl) N.isi (by decide +kernel) (pa_cons (pv 0) (pa_cons (pe_bltn (v := .ty "bool") (by rfl) N.bool (by decide +kernel) rfl) pa_nil)))) (pe_one (pe_chain op_lt op_lt (pe_un un_neg (pe_gv N.LONGEST)) (pv 0) (pe_gv N.LONGEST))))))), ?_⟩
    refine ⟨_, rfl, _, _, _, _, true, rfl, .ty "int", .base (.int _), kit_ty (by decide +kernel), _, rfl, iteT ?_⟩
    refine ⟨_, rfl, _, _, _, _, false, rfl, .ty "bool", .base (.int _), kit_ty (by decide +kernel), ?_⟩
    refine ⟨_, rfl, _, rfl, iteT ?_⟩
    have h1 : (-10 ^ 60 : Int) < (n : Int) := by omega
    have h2 : (n : Int) < 10 ^ 60 := by omega
    refine ⟨_, rfl, _, rfl, _, _, rfl, rfl, _, rfl, iteTo (decide_eq_true h1) ⟨_, _, rfl, rfl, ?_⟩⟩
    show Q (.bl (decide ((n : Int) < 10 ^ 60))) H
    rw [decide_eq_true h2]
    exact k
/-! ### is_rank_dict -/
abbrev s_is_rank_dict : Stmt := top 60
abbrev N_is_rank_dict : List Str := ["value", "rank", "question"]
theorem sc_is_rank_dict : FnScope N_is_rank_dict ["value"] (defScope s_is_rank_dict) := ⟨rfl, rfl, rfl, by decide +kernel, rfl, by decide +kernel, by decide +kernel⟩
def sp_is_rank_dict (P : Program) (w : World) (K : PySem.W.Frag) : Sp := fun vs H Q _ => ∃ d es rs, vs = [.ref d] ∧ H d = some (QdO P w d es) ∧ QKs K H es ∧ RkE es rs ∧ (∀ r ∈ rs, RkOk r) ∧ rs.length ≤ 1000000 ∧ ∀ H', Same H H' → Q (.bl true) H'
theorem ok_is_rank_dict {f : Addr} {fd : FuncData} (F : Fun K "is_rank_dict" "is_rank_dict" s_is_rank_dict f fd) (N : Nm mg) (c_is_question : Cal P w K mg base CX0 12 "is_question" (sp_is_question K)) (c_is_integer : Cal P w K mg base CX0 1 "is_integer" sp_is_integer) : FnOk P w K mg base CX0 13 f fd ["value"] (sp_is_rank_dict P w K) := by
  refine F.ok sc_is_rank_dict (fun vs H Q E h => ?_) (fun cdv A outer s H vs Q E hr h => ?_)
  · obtain ⟨d, es, rs, rfl, _⟩ := h
    rfl
  · obtain ⟨d, es, rs, rfl, hd, hk, hrs, hok, hn, k⟩ := h
    refine ⟨_, (pss_cons (ps_if (PW.pt (pw_or (pt_not (pt_val (pe_callB call_isiQ (by rfl) N.isi (by decide +kernel) (pa_cons (pv 0) (pa_cons (pe_bltn (v := .ty "dict") (by rfl) N.dict (by decide +kernel) rfl) pa_nil))))) (pw_or1 (pt_not (pt_val (pe_callB (cr_all rfl) (by rfl) N.all (by decide +kernel) (pa_cons (pe_lock (pe_lc (own := [("question", 2)]) (g := gName 2) (tt := tYes) rfl sc_is_rank_dict.nd (pi_keysQ (pv 0)) (blkOk_by (N := N_is_rank_dict) (sc := defScope s_is_rank_dict) (by decide +kernel)) (fun _ _ _ _ _ => pg_name (i := 2) sc_is_rank_dict.nd rfl (Or.inl rfl)) (fun _ _ _ _ _ => pts_nil) (fun _ _ _ _ _ => (pe_c c_is_question hr (ha := (pa_cons (pv 2) pa_nil)))))) pa_nil))))))) (pss_one (ps_ret pe_bl)) pss_nil)
      (pss_one (ps_ret (pe_callB (cr_all rfl) (by rfl) N.all (by decide +kernel) (pa_cons (pe_lock (pe_lc (own := [("rank", 1)]) (g := gName 1) (tt := tYes) rfl sc_is_rank_dict.nd (pi_valuesQ (pv 0)) (blkOk_by (N := N_is_rank_dict) (sc := defScope s_is_rank_dict) (by decide +kernel)) (fun _ _ _ _ _ => pg_name (i := 1) sc_is_rank_dict.nd rfl (Or.inl rfl)) (fun _ _ _ _ _ => pts_nil) (fun _ _ _ _ _ => (pe_and (pe_c c_is_integer hr (ha := (pa_cons (pv 1) pa_nil))) (pe_one (pe_cmpR op_ge (pv 1) pe_int (nomark _))))))) pa_nil))))), ?_⟩
    have hlen := hrs.length
    refine ⟨_, rfl, d, es, rfl, .inl hd, _, rfl, iteF ?_⟩
    refine ⟨d, _, hd, True.intro, fun od => ?_⟩
    have sl : SameL H (upd H d (.frz od (QdO P w d es))) := sameL_upd hd rfl
    have hd1 : (upd H d (.frz od (QdO P w d es))) d = some (.frz od (QdO P w d es)) := upd_same
    refine ⟨_, rfl, d, od, es, rfl, hd1, fun D hD => ?_⟩
    have nDd : d ≠ D := ne_of_none hd1 hD
    refine lc_each walk_keysQ hD (by omega) (fun H2 s2 => s2 _ _ hd1) (fun i y _ => ∃ p, rs[i]? = some p ∧ y = .bl true) (fun i y H2 H3 l _ _ r => r) (fun i z H2 H3 hi s2 hl2 y Qy hy => ?_) (fun H2 acc s2 hacc hla hr2 => ?_)
    · obtain ⟨rfl, e, he, rfl⟩ := y
      obtain ⟨r, hr1, e1, _⟩ := hrs.get he
      have hq : isQ e.1 = true := by rw [e1]; exact (hok r (List.mem_of_getElem? hr1)).1
      have hdp := (hk.sameL (SameL.trans sl (Fp.sL s2))) e (List.mem_of_getElem? he)
      refine ⟨rfl, _, rfl, .inr ⟨_, e.1, rfl, hdp, isQ_ok hq, fun H4 s4 => ?_⟩⟩
      rw [hq]
      exact hy _ _ s4 ⟨_, hr1, rfl⟩
    have e : acc = (rs.map fun _ => true).map V.bl := by
      rw [List.map_map]
      exact eq_map_of (by rw [hla, hlen]) fun i y e => by
        obtain ⟨k1, h1, h2⟩ := hr2 i y e
        exact ⟨k1, h1, h2⟩
    have sb := lock_back hd s2
    refine ⟨s2 _ _ hd1, D, _, rfl, SqL.of (by rw [upd_ne nDd.symm, hacc, e]), _, rfl, ?_⟩
    rw [show ((rs.map fun _ => true).all id) = true by simp]
    refine ?_
    have hdb := sb _ _ hd
    generalize (upd H2 d (QdO P w d es)) = H3 at *
    refine ⟨d, _, hdb, True.intro, fun od2 => ?_⟩
    have hd3 : (upd H3 d (.frz od2 (QdO P w d es))) d = some (.frz od2 (QdO P w d es)) := upd_same
    refine ⟨_, rfl, d, od2, es, rfl, hd3, fun D3 hD3 => ?_⟩
    have nD3 : d ≠ D3 := ne_of_none hd3 hD3
    refine lc_each walk_valsQ hD3 (by omega) (fun H4 s4 => s4 _ _ hd3) (fun i y _ => ∃ p, rs[i]? = some p ∧ y = .bl true) (fun i y H2 H3 l _ _ r => r) (fun i z H4 H5 hi s4 hl4 y Qy hy => ?_) (fun H4 acc4 s4 hacc4 hla4 hr4 => ?_)
    · obtain ⟨rfl, e, he, rfl⟩ := y
      obtain ⟨r, hr1, _, e2⟩ := hrs.get he
      obtain ⟨_, h1, h2⟩ := hok r (List.mem_of_getElem? hr1)
      rw [e2]
      exact ⟨rfl, _, rfl, r.2, rfl, h2, _, rfl, iteT ⟨_, rfl, _, _, rfl, rfl, hy _ _ (Same.refl _) ⟨_, hr1, by show V.bl (decide _) = _; rw [decide_eq_true (by omega)]⟩⟩⟩
    have e4 : acc4 = (rs.map fun _ => true).map V.bl := by
      rw [List.map_map]
      exact eq_map_of (by rw [hla4, hlen]) fun i y e => by
        obtain ⟨k1, h1, h2⟩ := hr4 i y e
        exact ⟨k1, h1, h2⟩
    refine ⟨s4 _ _ hd3, D3, _, rfl, SqL.of (by rw [upd_ne nD3.symm, hacc4, e4]), ?_⟩
    rw [show ((rs.map fun _ => true).all id) = true by simp]
    exact k _ (Same.trans sb (lock_back hdb s4))
/-! ### rank_told -/
abbrev s_rank_told : Stmt := top 62
abbrev N_rank_told : List Str := ["line", "word", "blank", "rest", "rank", "question"]
theorem sc_rank_told : FnScope N_rank_told ["line"] (defScope s_rank_told) := ⟨rfl, rfl, rfl, by decide +kernel, rfl, by decide +kernel, by decide +kernel⟩
def sp_rank_told (K : PySem.W.Frag) : Sp := fun vs H Q _ => ∃ x : Str, vs = [.str x] ∧ x.length ≤ 1000000 ∧ (rankOf x = none → ∀ H', Same H H' → Q .non H') ∧ ∀ q n, rankOf x = some (q, n) → ∀ p v H', Same H H' → H' p = some (.tup [v, .int (n : Int)]) → Dp K H' v (qD q) → Q (.ref p) H'
theorem ok_rank_told {f : Addr} {fd : FuncData} (F : Fun K "rank_told" "rank_told" s_rank_told f fd) (N : Nm mg) (c_number_of : Cal P w K mg base CX0 1 "number_of" sp_number_of) (c_question_told : Cal P w K mg base CX0 13 "question_told" (sp_question_told K)) : FnOk P w K mg base CX0 14 f fd ["line"] (sp_rank_told K) := by
  refine F.ok sc_rank_told (fun vs H Q E h => ?_) (fun cdv A outer s H vs Q E hr h => ?_)
  · obtain ⟨x, rfl, _⟩ := h
    rfl
  · obtain ⟨x, rfl, hx, kN, kS⟩ := h
    refine ⟨_, (pss_cons (ps_asg (pe_partition (pv 0) pe_str) (pg_tup (by rfl) (pgs_cons (pg_name (i := 1) sc_rank_told.nd rfl (Or.inl rfl)) (pgs_cons (pg_name (i := 2) sc_rank_told.nd rfl (Or.inl rfl)) (pgs_cons (pg_name (i := 3) sc_rank_told.nd rfl (Or.inl rfl)) pgs_nil)))))
      (pss_cons (ps_par (i := 4) (j := 5) (by rfl) sc_rank_told.nd rfl rfl (by decide) rfl rfl (pa_cons (pe_c c_number_of hr (ha := (pa_cons (pv 1) pa_nil))) (pa_cons (pe_c c_question_told hr (ha := (pa_cons (pv 3) pa_nil))) pa_nil)) (by rfl))
      (pss_one (ps_ret (pe_ifExp (PW.pt (pw_or (pt_cmpR op_isN (pv 4) pe_non (nomark _)) (pw_or (pt_cmpR op_eq (pv 4) pe_int (nomark _)) (pw_or1 (pt_cmpR op_isN (pv 5) pe_non (nomark _)))))) pe_non (pe_tup (pa_cons (pv 5) (pa_cons (pv 4) pa_nil)))))))), ?_⟩
    obtain ⟨l1, l2⟩ := part_le x
    have hrk : rankOf x = match numOf (Txt.partition x (Str.ofString " ")).1, qTold (Txt.partition x (Str.ofString " ")).2.2 with
      | some n, some q => if n = 0 then none else some (q, n)
      | _, _ => none := rfl
    refine ⟨_, rfl, ⟨_, rfl⟩, x, Str.ofString " ", rfl, rfl, by decide +kernel, szl (by omega), fun p hp => ?_⟩
    generalize Txt.partition x (Str.ofString " ") = pp at *
    obtain ⟨wd, bl, rs⟩ := pp
    dsimp only at l1 l2 hrk ⊢
    have s1 := same_new (o := .tup [V.str wd, V.str bl, V.str rs]) hp
    have hp1 : (upd H p (.tup [V.str wd, V.str bl, V.str rs])) p = some (.tup [V.str wd, V.str bl, V.str rs]) := upd_same
    generalize (upd H p (.tup [V.str wd, V.str bl, V.str rs])) = H1 at *
    refine ⟨p, _, rfl, SqT.of hp1, rfl, _, _, rfl, _, _, rfl, _, _, rfl, rfl, ?_⟩
    refine ⟨_, rfl, wd, rfl, by omega, fun H2 s2 => ⟨_, rfl, rs, rfl, by omega, fun hq H3 s3 => ?_, fun q hq v H3 s3 dq => ?_⟩⟩
    · have hn : rankOf x = none := by
        rw [hrk, hq]
        cases numOf wd <;> rfl
      have s03 := Same.trans s1 (Same.trans s2 s3)
      refine ⟨_, _, rfl, ?_⟩
      cases numOf wd with
      | none => exact ⟨_, rfl, rfl, _, rfl, iteTo (decide_eq_true rfl) (kN hn _ s03)⟩
      | some n =>
        refine ⟨_, rfl, rfl, _, rfl, iteFo (decide_eq_false (fun z => by cases z)) ⟨_, rfl, rfl, _, rfl, ?_⟩⟩
        rw [dec_int]
        by_cases hz : n = 0
        · exact iteTo (by rw [hz]; rfl) (kN hn _ s03)
        · exact iteFo (by have : ¬ ((n : Int) = 0) := by omega
                          simpa using this) ⟨_, rfl, rfl, _, rfl, iteTo (decide_eq_true rfl) (kN hn _ s03)⟩
    · have s03 := Same.trans s1 (Same.trans s2 s3)
      refine ⟨_, _, rfl, ?_⟩
      cases hnum : numOf wd with
      | none =>
        rw [hnum] at hrk
        exact ⟨_, rfl, rfl, _, rfl, iteTo (decide_eq_true rfl) (kN hrk _ s03)⟩
      | some n =>
        rw [hnum, hq] at hrk
        dsimp only at hrk
        refine ⟨_, rfl, rfl, _, rfl, iteFo (decide_eq_false (fun z => by cases z)) ⟨_, rfl, rfl, _, rfl, ?_⟩⟩
        rw [dec_int]
        by_cases hz : n = 0
        · rw [if_pos hz] at hrk
          exact iteTo (by rw [hz]; rfl) (kN hrk _ s03)
        · rw [if_neg hz] at hrk
          have hv : v ≠ .non := by
            obtain ⟨a, b, rfl, _⟩ := qv_un dq
            intro z
            cases z
          refine iteFo (by have : ¬ ((n : Int) = 0) := by omega
                           simpa using this) ⟨_, rfl, rfl, _, rfl, iteFo (decide_eq_false hv) ⟨_, rfl, _, rfl, szl (by show 2 ≤ 16777216; decide), fun q0 hq0 => ?_⟩⟩
          have s4 := same_new (o := .tup [v, V.int (n : Int)]) hq0
          exact kS q n hrk q0 v _ (Same.trans s03 s4) upd_same (Dp.same s4 dq)
end
end Fp
/-! W22: write_ranks, pairs_told of ranks, read_ranks -/
namespace Fp
open PySem PySem.Spec PyProof.Rows L2 TL
abbrev sortE (es : List Qe) : List Qe := es.mergeSort fun a b => leQ a.1 b.1
abbrev sortR (rs : List Rk) : List Rk := rs.mergeSort fun a b => leQ a.1 b.1
theorem sortQ_qas (es : List Qe) : sortQ (qas es) = qas (sortE es) :=
  (List.map_mergeSort (f := fun e : Qe => (e.1, e.2.1)) (r := fun a b => leQ a.1 b.1) (s := fun a b : Qa => leQ a.1 b.1) (l := es) fun a _ b _ => rfl).symm
theorem RkE.sort {es : List Qe} {rs : List Rk} (h : RkE es rs) : RkE (sortE es) (sortR rs) := by
  unfold RkE at *
  rw [List.map_mergeSort (f := fun e : Qe => (e.1, e.2.2)) (r := fun a b => leQ a.1 b.1) (s := fun a b : Qn × V => leQ a.1 b.1) (l := es) fun a _ b _ => rfl,
    List.map_mergeSort (f := fun r : Rk => (r.1, V.int (r.2 : Int))) (r := fun a b => leQ a.1 b.1) (s := fun a b : Qn × V => leQ a.1 b.1) (l := rs) fun a _ b _ => rfl, h]
theorem rkLine_parts (r : Rk) : rkLine r = Str.empty ++ Str.ofString (toString ((r.2 : Nat) : Int)) ++ Str.ofString " " ++ qTxt r.1 := rfl
theorem log_rank {n : Nat} (h : n < 10 ^ 60) : ((n : Int)).natAbs.log2 < 1920 := by
  have h1 : ((n : Int)).natAbs = n := by omega
  rw [h1]
  by_cases h0 : n = 0
  · rw [h0]; decide
  · have : n < 2 ^ 200 := Nat.lt_trans h (by decide)
    have := (Nat.log2_lt h0).mpr this
    omega
theorem rk_len {r : Rk} (h : RkOk r) : (Str.ofString (toString ((r.2 : Nat) : Int))).length ≤ 60 := by
  rw [len_tl, tl_num]
  exact numL_len (by decide) h.2.2
theorem q_len {q : Qn} (h : isQ q = true) : (qTxt q).length ≤ 30100 := by
  unfold isQ at h
  rw [Bool.and_eq_true] at h
  have h1 := scTxt_len h.1
  have h2 := word_len h.2
  have l1 : (Str.ofString " ").length = 1 := by decide +kernel
  have l3 : (Str.ofString "|- ").length = 3 := by decide +kernel
  have l0 : (Str.ofString "").length = 0 := by decide +kernel
  unfold qTxt
  split
  · rw [len_app, len_app, l0, l3]; omega
  · rw [len_app, len_app, len_app, l1, l3]; omega
section
variable {P : Program} {w : World} {K : PySem.W.Frag} {mg : Str → Option Value} {base : Heap}
/-! ### write_ranks -/
abbrev s_write_ranks : Stmt := top 61
abbrev N_write_ranks : List Str := ["ranks", "lines", "question"]
theorem sc_write_ranks : FnScope N_write_ranks ["ranks"] (defScope s_write_ranks) := ⟨rfl, rfl, rfl, by decide +kernel, rfl, by decide +kernel, by decide +kernel⟩
def sp_write_ranks (P : Program) (w : World) (K : PySem.W.Frag) : Sp := fun vs H Q _ => ∃ d es rs, vs = [.ref d] ∧ H d = some (QdO P w d es) ∧ QKs K H es ∧ RkE es rs ∧ (∀ r ∈ rs, RkOk r) ∧ ((sortR rs).map fun r => (rkLine r).length).sum + rs.length ≤ 1000000 ∧ ∀ H', Same H H' → Q (.str (joinT ((sortR rs).map rkLine))) H'
theorem ok_write_ranks {f : Addr} {fd : FuncData} (F : Fun K "write_ranks" "write_ranks" s_write_ranks f fd) (N : Nm mg) (c_is_rank_dict : Cal P w K mg base CX0 13 "is_rank_dict" (sp_is_rank_dict P w K)) (c_question_text : Cal P w K mg base CX0 1 "question_text" (sp_question_text K)) : FnOk P w K mg base CX0 14 f fd ["ranks"] (sp_write_ranks P w K) := by
  refine F.ok sc_write_ranks (fun vs H Q E h => ?_) (fun cdv A outer s H vs Q E hr h => ?_)
  · obtain ⟨d, es, rs, rfl, _⟩ := h
    rfl
  · obtain ⟨d, es, rs, rfl, hd, hk, hrs, hok, hz, k⟩ := h
    refine ⟨_, (pss_cons (ps_if (pt_not (pt_val (pe_c c_is_rank_dict hr (ha := (pa_cons (pv 0) pa_nil))))) pss_never pss_nil)
      (pss_cons (ps_setLc (i := 1) (own := [("question", 2)]) (g := gName 2) (tt := tYes) (te := fun σ H Q => tJs [tFmt (tOp (rIxQ K P w) (tVar 0) (tVar 2)), tC (.str (Str.ofString " ")), tFmt (tCall (sp_question_text K) [] E0 (tCons (tVar 2) tNil))] Str.empty σ H fun out H1 => Q (.str out) H1) rfl sc_write_ranks.nd rfl rfl (sw_true rfl rfl rfl (by decide +kernel)) (pi_list (pe_callB (cr_sortQ hr.units) (by rfl) N.sorted (by decide +kernel) (pa_cons (pe_callTy (call_listQ rfl) (by rfl) N.list (by decide +kernel) (pa_cons (pv 0) pa_nil)) pa_nil))) (blkOk_by (N := N_write_ranks) (sc := defScope s_write_ranks) (by decide +kernel)) (fun _ _ _ _ _ => pg_name (i := 2) sc_write_ranks.nd rfl (Or.inl rfl)) (fun _ _ _ _ _ => pts_nil) (fun _ _ _ _ _ => (pe_joined (.cons (pe_fmt (pe_ix (ix_dictQ hr.units) (pv 0) (pv 2) (fun _ _ => rfl))) (.cons pe_str (.cons (pe_fmt (pe_c c_question_text hr (ha := (pa_cons (pv 2) pa_nil)))) .nil))))))
      (pss_one (ps_ret (pe_ifExp (pt_cmpR (op_neNil hr.units0) (pv 1) (pe_lst pa_nil) (nomark _)) (pe_join pe_str (pv 1)) (pe_gv N.NONE)))))), ?_⟩
    have hlen := hrs.length
    refine ⟨_, rfl, d, es, rs, rfl, hd, hk, hrs, hok, by omega, fun H1 s1 => ⟨_, rfl, iteF ?_⟩⟩
    have hd1 := s1 _ _ hd
    refine ⟨_, rfl, d, es, rfl, .inl hd1, fun l hl => ?_⟩
    have s2 := Same.trans s1 (same_new (o := .lst (es.map fun e => V.ref e.2.1)) hl)
    have hl2 : (upd H1 l (.lst (es.map fun e => V.ref e.2.1))) l = some (.lst (es.map fun e => V.ref e.2.1)) := upd_same
    generalize (upd H1 l (.lst (es.map fun e => V.ref e.2.1))) = H2 at *
    refine ⟨l, qas es, rfl, SqL.of (by rw [hl2]; unfold qaV; rw [List.map_map]; rfl), fun e he => ?_, fun p hp => ?_⟩
    · obtain ⟨e0, h0, rfl⟩ := List.mem_map.mp he
      exact hk.same s2 e0 h0
    rw [sortQ_qas]
    have s3 := Same.trans s2 (same_new (o := .lst (qaV (qas (sortE es)))) hp)
    have hp3 : (upd H2 p (.lst (qaV (qas (sortE es))))) p = some (.lst ((sortE es).map fun e => V.ref e.2.1)) := by
      rw [upd_same]
      unfold qaV
      rw [List.map_map]
      rfl
    generalize (upd H2 p (.lst (qaV (qas (sortE es))))) = H3 at *
    have hsl : (sortE es).length = es.length := List.length_mergeSort _
    have hml : ((sortE es).map fun e => V.ref e.2.1).length = (sortE es).length := List.length_map ..
    have hrl : (sortR rs).length = rs.length := List.length_mergeSort _
    have hsr := hrs.sort
    refine ⟨p, rfl, ⟨_, SqL.of hp3⟩, fun D hD => ?_⟩
    refine lc_each (g := gName 2) (te := fun σ H Q => tJs [tFmt (tOp (rIxQ K P w) (tVar 0) (tVar 2)), tC (.str (Str.ofString " ")), tFmt (tCall (sp_question_text K) [] E0 (tCons (tVar 2) tNil))] Str.empty σ H fun out H1 => Q (.str out) H1) walk_list hD (by omega) (fun H4 s4 => SqL.of (s4 _ _ hp3)) (fun i y _ => ∃ r, (sortR rs)[i]? = some r ∧ y = .str (rkLine r)) (fun i y H2 H3 l _ _ r => r) (fun i z H4 H5 hi s4 hl4 y Qy hy => ?_) (fun H4 acc s4 hacc hla hr4 => ?_)
    · obtain ⟨rfl, hz4⟩ := y
      rw [List.getElem?_map] at hz4
      obtain ⟨e, he, rfl⟩ := Option.map_eq_some_iff.mp hz4
      obtain ⟨r, hr1, e1, e2⟩ := hsr.get he
      have hem : e ∈ es := (List.mergeSort_perm es _).mem_iff.mp (List.mem_of_getElem? he)
      have hrm : r ∈ rs := (List.mergeSort_perm rs _).mem_iff.mp (List.mem_of_getElem? hr1)
      have hrk := hok r hrm
      have s05 := Same.trans s3 s4
      have hd5 := s05 _ _ hd
      have hk5 := hk.same s05
      have l1 := rk_len hrk
      have l2 := q_len hrk.1
      have l3 : (Str.ofString " ").length = 1 := by decide +kernel
      have l4 : (Str.empty).length = 0 := rfl
      refine ⟨rfl, _, rfl, _, rfl, e.2.1, d, e.1, es, e.2.1, e.2.2, rfl, rfl, hk5 e hem, .inl hd5, hk5, hem, .inr ⟨(r.2 : Int), e2, log_rank hrk.2.2, ?_⟩⟩
      refine ⟨_, rfl, szl (by rw [len_app, l4]; omega), _, rfl, szl (by rw [len_app, len_app, l4, l3]; omega), ?_⟩
      refine ⟨_, rfl, _, e.1, rfl, hk5 e hem, by rw [e1]; exact hrk.1, fun H6 s6 => .inl ⟨_, rfl, szl (by rw [e1]; omega), _, rfl, szl (by rw [len_app, len_app, len_app, l4, l3, e1]; omega), ?_⟩⟩
      refine hy _ _ s6 ⟨r, hr1, ?_⟩
      rw [rkLine_parts, e1]
    have e4 : acc = ((sortR rs).map rkLine).map V.str := by
      rw [List.map_map]
      exact eq_map_of (by rw [hla, hml, hsl, hlen, hrl]) fun i y e => by
        obtain ⟨r, h1, h2⟩ := hr4 i y e
        exact ⟨r, h1, h2⟩
    rw [e4] at hacc
    have s04 := Same.trans s3 s4
    refine ⟨_, rfl, Nat.zero_le _, fun t ht => ?_⟩
    have s5 := same_new (o := .lst []) ht
    have hacc5 := s5 _ _ hacc
    have s05 := Same.trans s04 s5
    refine ⟨D, t, _, rfl, rfl, .inl ⟨SqL.of hacc5, SqL.of upd_same⟩, _, rfl, ?_⟩
    have l1 : (Str.ofString "\n").length = 1 := by decide +kernel
    have hsum : (((sortR rs).map rkLine).map (·.length)).sum = ((sortR rs).map fun r => (rkLine r).length).sum := by rw [List.map_map]; rfl
    have hll : ((sortR rs).map rkLine).length = rs.length := by rw [List.length_map, hrl]
    unfold joinT at k
    generalize (sortR rs).map rkLine = ls at *
    cases ls with
    | nil => exact iteF (k _ s05)
    | cons x xs =>
      rw [if_neg (by simp)] at k
      exact iteT ⟨⟨_, rfl⟩, _, rfl, _, D, x :: xs, rfl, rfl, .inl (SqL.of hacc5), by rw [l1]; omega, k _ s05⟩
/-! ### pairs_told, of ranks -/
def runRanks (x : Str) : Nat ⊕ List Rk := runP rankOf ltQ (linesOf x) 0 none
def sp_pairs_ranks (P : Program) (w : World) (K : PySem.W.Frag) (CP ft : Addr) : Sp := fun vs H Q E => ∃ x : Str, vs = [.str x, .ref ft] ∧ x.length ≤ 1000000 ∧ (∀ j, runRanks x = .inl j → PeQ CP H (.int (j : Nat)) E) ∧ ∀ r, runRanks x = .inr r → ∀ d es H', Same H H' → H' d = some (QdO P w d es) → QKs K H' es → RkE es r → Q (.ref d) H'
/-- the last key as a value -/
def LastQ (K : PySem.W.Frag) (H : Hp) : Option Qn → V → Prop
  | none, v => v = .non
  | some q, v => Dp K H v (qD q)
theorem ok_pairs_ranks {CP f ft : Addr} {fd fdt : FuncData} (F : Fun K "pairs_told" "pairs_told" s_pairs_told f fd) (N : Nm mg) (VP : PEf P w K mg base CP) (c_lines_of : Cal P w K mg base CX0 1 "lines_of" sp_lines_of)
    (Ft : FnOk P w K mg base CX0 14 ft fdt ["line"] (sp_rank_told K)) (kt : PySem.W.keepIn K (.ref ft) = true) (bt : Binds K fdt ["line"] []) : FnOk P w K mg base (L2.CX P w) 15 f fd ["text", "told"] (sp_pairs_ranks P w K CP ft) := by
  refine F.okX sc_pairs_told (fun vs H Q E h => ?_) (fun cdv A outer s H vs Q E hr h => ?_)
  · obtain ⟨x, rfl, _⟩ := h
    rfl
  · obtain ⟨x, rfl, hx, kE, kS⟩ := h
    refine ⟨_, (pss_cons (ps_set (i := 2) sc_pairs_told.nd rfl (Or.inl rfl) pe_dnewQ)
      (pss_cons (ps_set (i := 3) sc_pairs_told.nd rfl (Or.inl rfl) pe_non)
      (pss_cons (ps_for (passes_of rfl) rfl (pi_enum (by rfl) N.enum (pa_cons (pe_c c_lines_of hr (ha := (pa_cons (pv 0) pa_nil))) pa_nil)) (pg_tup (by rfl) (pgs_cons (pg_name (i := 4) sc_pairs_told.nd rfl (Or.inl rfl)) (pgs_cons (pg_name (i := 5) sc_pairs_told.nd rfl (Or.inl rfl)) pgs_nil))) (pss_cons (ps_set (i := 6) sc_pairs_told.nd rfl (Or.inl rfl) (pe_callL (x := "told") (i := 1) Ft (hr.mono (by decide)) rfl (by first | exact Or.inl rfl | exact Or.inr rfl) kt bt .nil pass0 (pa_cons (pv 5) pa_nil)))
      (pss_cons (ps_if (PW.pt (pw_or (pt_cmpR op_isN (pv 6) pe_non (nomark _)) (pw_or1 (PW.pt (pw_and (pt_cmpR op_notN (pv 3) pe_non (nomark _)) (pw_and1 (pt_cmpR (op_leQ hr.units) (pe_ix ix_tup (pv 6) pe_int (fun _ _ => rfl)) (pv 3) (nomark _)))))))) (pss_one (ps_raise rfl (takes_of rfl rfl rfl rfl) (pmk_pe VP hr (pv 4)))) pss_nil)
      (pss_cons (ps_set (i := 3) sc_pairs_told.nd rfl (Or.inl rfl) (pe_ix ix_tup (pv 6) pe_int (fun _ _ => rfl)))
      (pss_one (ps_asg (pe_ix ix_tup (pv 6) pe_int (fun _ _ => rfl)) (pg_sub (pv 2) (pv 3) (set_dictQ hr.units))))))))
      (pss_one (ps_ret (pv 2)))))), ?_⟩
    intro D hD
    have sD := same_new (o := QdO P w D []) hD
    refine ⟨_, rfl, x, rfl, hx, fun p H1 s1 hpD hp1 => ?_⟩
    have hD1 : H1 D = some (QdO P w D []) := s1 _ _ upd_same
    have npD : p ≠ D := fun z => by rw [z, hD1] at hp1; cases hp1
    obtain ⟨hll, hln⟩ := linesOf_le (x := x)
    generalize hls : linesOf x = ls at *
    have hrun0 : runRanks x = runP rankOf ltQ ls 0 none := by unfold runRanks; rw [hls]
    refine ⟨p, _, rfl, SqL.of hp1, ?_⟩
    refine for_it walk_enum (fun i σ H2 => ∃ (last : Option Qn) (acc : List Rk) (es : List Qe) (lv : V) (s4 s5 s6 : Option V), σ = [some (.str x), some (.ref ft), some (.ref D), some lv, s4, s5, s6] ∧ LastQ K H2 last lv ∧ Same H H2 ∧ SameB D H1 H2 ∧ H2 D = some (QdO P w D es) ∧ QKs K H2 es ∧ RkE es acc ∧
        (∀ q ∈ acc, ∃ k0, last = some k0 ∧ (q.1 = k0 ∨ ltQ q.1 k0 = true)) ∧ acc.length ≤ i ∧ runRanks x = match runP rankOf ltQ (ls.drop i) i last with | .inl j => .inl j | .inr r => .inr (acc ++ r))
      ⟨none, [], [], .non, _, _, _, rfl, rfl, Same.trans sD s1, fun b o _ e => e, hD1, (fun e he => by cases he), rfl, (fun q hq => by cases hq), Nat.le_refl _, ?_⟩ (fun i σ H2 hi ⟨last, acc, es, lv, s4, s5, s6, _, _, _, sb, _⟩ => SqL.of (sb _ _ npD hp1)) (fun i z σ H2 H3 hi ⟨last, acc, es, lv, s4, s5, s6, hσ, hlv, sH, sb, hd, hk, hrk, hlast, hla, hrun⟩ y => ?_) (fun σ H2 ⟨last, acc, es, lv, s4, s5, s6, hσ, hlv, sH, sb, hd, hk, hrk, hlast, hla, hrun⟩ => ?_)
    · rw [hrun0, List.drop_zero]
      cases runP rankOf ltQ ls 0 none <;> rfl
    · subst hσ
      obtain ⟨T, yk, yv, rfl, hT, rfl, hyk, hyv⟩ := y
      dsimp only at hyk hyv
      cases hyk
      rw [List.getElem?_map] at hyv
      obtain ⟨l, hl, rfl⟩ := Option.map_eq_some_iff.mp hyv
      rw [drop_step hl] at hrun
      have hlen := hll _ (List.mem_of_getElem? hl)
      have sT := same_new (o := .tup [V.int (i : Nat), V.str l]) hT
      have hT3 : (upd H2 T (.tup [V.int (i : Nat), V.str l])) T = some (.tup [V.int (i : Nat), V.str l]) := upd_same
      have hil : i < ls.length := by rw [List.length_map] at hi; exact hi
      generalize (upd H2 T (.tup [V.int (i : Nat), V.str l])) = H3 at *
      refine ⟨T, _, rfl, SqT.of hT3, rfl, _, _, rfl, _, _, rfl, rfl, ?_⟩
      refine ⟨rfl, _, rfl, l, rfl, by omega, fun hn H4 s4' => ?_, fun q n hq0 p6 v H4 s4' hp6 dq => ?_⟩
      · rw [runP_none hn] at hrun
        exact ⟨_, rfl, rfl, _, rfl, iteTo (decide_eq_true rfl) ⟨_, rfl, pe_body fun d H5 s5' hd5 => kE i hrun d H5 (Same.trans sH (Same.trans sT (Same.trans s4' s5'))) hd5⟩⟩
      · have sH4 := Same.trans sH (Same.trans sT s4')
        refine ⟨_, rfl, rfl, _, rfl, iteFo (decide_eq_false (by intro z; cases z)) ⟨_, rfl, rfl, _, rfl, ?_⟩⟩
        have hnew : ∀ (hok : okAfter ltQ last q = true), q ∉ acc.map Prod.fst := fun hok hm => by
          obtain ⟨q', hq', e⟩ := List.mem_map.mp hm
          obtain ⟨k0, rfl, h⟩ := hlast q' hq'
          have h2 : ltQ k0 q = true := hok
          rcases h with h | h
          · rw [← h, e, ltQ_irr] at h2; cases h2
          · have := ltQ_trans _ _ _ h h2
            rw [e, ltQ_irr] at this
            cases this
        have hd4 : H4 D = some (QdO P w D es) := s4' _ _ (sT _ _ hd)
        have hk4 := hk.same (Same.trans sT s4')
        have hv : ∃ av, v = .ref av := by obtain ⟨a, b, rfl, _⟩ := qv_un dq; exact ⟨a, rfl⟩
        obtain ⟨av, rfl⟩ := hv
        -- what is done where the key is right
        have go : ∀ (hok : okAfter ltQ last q = true), rSetQ K P w (.ref D) (.ref av) (.int (n : Int)) H4 fun H' => ∃ (last' : Option Qn) (acc' : List Rk) (es' : List Qe) (lv' : V) (s4 s5 s6 : Option V), [some (V.str x), some (.ref ft), some (.ref D), some (.ref av), some (.int (i : Nat)), some (.str l), some (.ref p6)] = [some (.str x), some (.ref ft), some (.ref D), some lv', s4, s5, s6] ∧ LastQ K H' last' lv' ∧ Same H H' ∧ SameB D H1 H' ∧ H' D = some (QdO P w D es') ∧ QKs K H' es' ∧ RkE es' acc' ∧
            (∀ q ∈ acc', ∃ k0, last' = some k0 ∧ (q.1 = k0 ∨ ltQ q.1 k0 = true)) ∧ acc'.length ≤ i + 1 ∧ runRanks x = match runP rankOf ltQ (ls.drop (i + 1)) (i + 1) last' with | .inl j => .inl j | .inr r => .inr (acc' ++ r) := fun hok => by
          have sl : SameL H4 (upd H4 D (QdO P w D (es ++ [(q, av, V.int (n : Int))]))) := sameL_upd hd4 rfl
          refine ⟨av, D, q, es, rfl, rfl, dq, hd4, hk4, by rw [hrk.keys]; exact hnew hok, by rw [hrk.length]; omega, some q, acc ++ [(q, n)], _, _, _, _, _, rfl, Dp.sameL sl (noL_q q) dq, same_put sH4 hD, ?_, upd_same, ?_, ?_, ?_, ?_, ?_⟩
          · exact SameB.trans (SameB.trans sb (sB (Same.trans sT s4'))) sameB_upd
          · intro e he
            rcases List.mem_append.mp he with he | he
            · exact hk4.sameL sl e he
            · rw [List.mem_singleton.mp he]; exact Dp.sameL sl (noL_q q) dq
          · unfold RkE at *
            rw [List.map_append, List.map_append, hrk]
            rfl
          · intro q' hq'
            refine ⟨q, rfl, ?_⟩
            rcases List.mem_append.mp hq' with hq' | hq'
            · obtain ⟨k0, rfl, h⟩ := hlast q' hq'
              have h2 : ltQ k0 q = true := hok
              rcases h with h | h
              · rw [h]; exact .inr h2
              · exact .inr (ltQ_trans _ _ _ h h2)
            · rw [List.mem_singleton.mp hq']; exact .inl rfl
          · rw [List.length_append]; show acc.length + 1 ≤ i + 1; omega
          · rw [hrun, runP_go hq0 hok]
            cases runP rankOf ltQ (ls.drop (i + 1)) (i + 1) (some q) with
            | inl j => rfl
            | inr r => show Sum.inr (acc ++ (q, n) :: r) = Sum.inr (acc ++ [(q, n)] ++ r); rw [List.append_assoc]; rfl
        cases last with
        | none =>
          obtain rfl := (show lv = V.non from hlv)
          exact iteFo (by rw [decide_eq_true rfl]; rfl) ⟨_, rfl, p6, _, 0, _, rfl, rfl, SqT.of hp6, rfl, _, rfl, p6, _, 1, _, rfl, rfl, SqT.of hp6, rfl, _, rfl, _, rfl, go rfl⟩
        | some k0 =>
          have dk0 : Dp K H4 lv (qD k0) := Dp.same (Same.trans sT s4') hlv
          have hlvn : lv ≠ .non := by obtain ⟨a, b, rfl, _⟩ := qv_un dk0; intro z; cases z
          refine iteTo (by rw [decide_eq_false hlvn]; rfl) ⟨_, rfl, p6, _, 0, _, rfl, rfl, SqT.of hp6, rfl, _, rfl, q, k0, dq, dk0, _, rfl, ?_⟩
          show if leQ q k0 = true then _ else _
          cases hok : ltQ k0 q with
          | false =>
            have e1 : leQ q k0 = true := by unfold leQ; rw [hok]; rfl
            rw [runP_bad hq0 (show okAfter ltQ (some k0) q = false from hok)] at hrun
            exact iteTo e1 ⟨_, rfl, pe_body fun d H5 s5' hd5 => kE i hrun d H5 (Same.trans sH4 s5') hd5⟩
          | true =>
            have e1 : leQ q k0 = false := by unfold leQ; rw [hok]; rfl
            exact iteFo e1 ⟨_, rfl, p6, _, 0, _, rfl, rfl, SqT.of hp6, rfl, _, rfl, p6, _, 1, _, rfl, rfl, SqT.of hp6, rfl, _, rfl, _, rfl, go hok⟩
    · subst hσ
      rw [List.length_map, List.drop_length] at hrun
      have e : runRanks x = .inr acc := by rw [hrun]; show Sum.inr (acc ++ []) = _; rw [List.append_nil]
      exact ⟨_, rfl, kS acc e D es H2 sH hd hk hrk⟩
/-! ### read_ranks -/
abbrev s_read_ranks : Stmt := top 64
abbrev N_read_ranks : List Str := ["text"]
theorem sc_read_ranks : FnScope N_read_ranks ["text"] (defScope s_read_ranks) := ⟨rfl, rfl, rfl, by decide +kernel, rfl, by decide +kernel, by decide +kernel⟩
def sp_read_ranks (P : Program) (w : World) (K : PySem.W.Frag) (CP : Addr) : Sp := fun vs H Q E => ∃ x : Str, vs = [.str x] ∧ x.length ≤ 1000000 ∧ (∀ j, runRanks x = .inl j → PeQ CP H (.int (j : Nat)) E) ∧ ∀ r, runRanks x = .inr r → ∀ d es H', Same H H' → H' d = some (QdO P w d es) → QKs K H' es → RkE es r → Q (.ref d) H'
theorem ok_read_ranks {CP f ft : Addr} {fd : FuncData} (F : Fun K "read_ranks" "read_ranks" s_read_ranks f fd) (gt : mg "rank_told" = some (.ref ft))
    (c_pairs : Cal P w K mg base (L2.CX P w) 15 "pairs_told" (sp_pairs_ranks P w K CP ft)) : FnOk P w K mg base (L2.CX P w) 16 f fd ["text"] (sp_read_ranks P w K CP) := by
  refine F.okX sc_read_ranks (fun vs H Q E h => ?_) (fun cdv A outer s H vs Q E hr h => ?_)
  · obtain ⟨x, rfl, _⟩ := h
    rfl
  · obtain ⟨x, rfl, hx, kE, kS⟩ := h
    refine ⟨_, (pss_one (ps_ret (pe_cx c_pairs hr (fun σ => passAt (takes_of rfl rfl rfl rfl) σ) (ha := (pa_cons (pv 0) (pa_cons (pe_gv (v := .ref ft) ⟨_, gt, rfl⟩) pa_nil)))))), ?_⟩
    exact ⟨_, rfl, x, rfl, hx, kE, kS⟩
end
end Fp
/-! W23: _law_dice, _law_roll, _law_pick -/
namespace Fp
open PySem PySem.Spec PyProof.Rows L2 TL
section
variable {X : Cx}
/-- powers of greater numbers -/
theorem op_powB : OpR X (binaryOp .Pow) (rI (fun i j => 0 ≤ j ∧ (Builtin.Int.intBits i : Int) * j ≤ 2 ^ 27) fun i j => .int (i ^ j.toNat)) := opI fun _ _ _ _ _ _ _ hc q => pow_int hc.1 hc.2 q
end
/-- the dice at D -/
def DiO (H : Hp) (D : Addr) : Prop := ∃ x y z : Int, H D = some (.lst [.int x, .int y, .int z])
theorem DiO.same {H H' : Hp} {D : Addr} (s : Same H H') (h : DiO H D) : DiO H' D := by
  obtain ⟨x, y, z, h⟩ := h
  exact ⟨x, y, z, s _ _ h⟩
section
variable {P : Program} {w : World} {K : PySem.W.Frag} {mg : Str → Option Value} {base : Heap}
/-! ### _law_dice -/
abbrev s__law_dice : Stmt := top 69
abbrev N__law_dice : List Str := ["_law_script", "_law_spot", "_law_cell", "_law_great", "_law_blend"]
theorem sc__law_dice : FnScope N__law_dice ["_law_script", "_law_spot"] (defScope s__law_dice) := ⟨rfl, rfl, rfl, by decide +kernel, rfl, by decide +kernel, by decide +kernel⟩
def sp_law_dice (K : PySem.W.Frag) : Sp := fun vs H Q _ => ∃ (p : Addr) (ns : List Int) (i : Nat), vs = [.ref p, .int (i : Int)] ∧ SqL K H p (ns.map V.int) ∧ ∀ D H', Same H H' → H D = none → DiO H' D → Q (.ref D) H'
theorem ok_law_dice {f : Addr} {fd : FuncData} (F : Fun K "_law_dice" "_law_dice" s__law_dice f fd) (N : Nm mg) : FnOk P w K mg base CX0 1 f fd ["_law_script", "_law_spot"] (sp_law_dice K) := by
  refine F.ok sc__law_dice (fun vs H Q E h => ?_) (fun cdv A outer s H vs Q E hr h => ?_)
  · obtain ⟨p, ns, i, rfl, _⟩ := h
    rfl
  · obtain ⟨p, ns, i, rfl, hp, k⟩ := h
    refine ⟨_, (pss_cons (ps_set (i := 2) sc__law_dice.nd rfl (Or.inl rfl) (pe_op op_add (pe_op op_mul pe_int (pv 1)) pe_int)) (C8.pss_cut (ps_if (pt_cmpR op_lt (pv 1) (pe_callB call_len_seq (by rfl) N.len (by decide +kernel) (pa_cons (pv 0) pa_nil)) (nomark _)) (pss_one (ps_set (i := 2) sc__law_dice.nd rfl (Or.inl rfl) (pe_ix ix_list (pv 0) (pv 1) (fun _ _ => rfl)))) pss_nil)
      (pss_cons (ps_set (i := 3) sc__law_dice.nd rfl (Or.inl rfl) (pe_op op_modN (pe_callTy call_int1 (by rfl) N.int (by decide +kernel) (pa_cons (pe_callB call_abs (by rfl) N.abs (by decide +kernel) (pa_cons (pv 2) pa_nil)) pa_nil)) (pe_op op_powB (pe_op op_pow pe_int pe_int) pe_int)))
      (pss_cons (ps_set (i := 4) sc__law_dice.nd rfl (Or.inl rfl) (pe_op op_add (pe_op op_add (pe_op op_add (pe_op op_mul (pe_op op_modN (pe_callTy call_int1 (by rfl) N.int (by decide +kernel) (pa_cons (pv 3) pa_nil)) pe_int) pe_int) (pe_op op_mul pe_int (pv 1))) (pe_op op_mul pe_int (pe_callTy call_int1 (by rfl) N.int (by decide +kernel) (pa_cons (pe_cmpR op_lt (pv 2) pe_int (nomark _)) pa_nil)))) pe_int))
      (pss_one (ps_ret (pe_lst (pa_cons (pe_callB (call_max2 rfl) (by rfl) N.max (by decide +kernel) (pa_cons pe_int (pa_cons (pe_op op_sub (pv 3) (pe_op op_pow pe_int pe_int)) pa_nil))) (pa_cons (pe_op op_modN (pe_callTy call_int1 (by rfl) N.int (by decide +kernel) (pa_cons (pv 4) pa_nil)) pe_int) (pa_cons pe_int pa_nil)))))))))), ?_⟩
    refine ⟨_, rfl, 59, i, rfl, rfl, .inl ⟨by decide, by decide⟩, _, _, rfl, rfl, ?_⟩
    refine ⟨fun σ H' => ∃ (c : Int) (s3 s4 : Option V), σ = [some (.ref p), some (.int (i : Int)), some (.int c), s3, s4] ∧ H' = H, ?_, ?_⟩
    · refine ⟨_, rfl, _, rfl, p, _, rfl, .inl hp, _, _, rfl, rfl, _, rfl, ?_⟩
      rw [List.length_map]
      by_cases hi : i < ns.length
      · refine iteTo (decide_eq_true (by omega)) ⟨_, rfl, _, rfl, p, _, _, _, rfl, rfl, hp, atI_nat (j := i) (v := .int ns[i]) (by rw [List.getElem?_map, List.getElem?_eq_getElem hi]; rfl), _, _, _, rfl, rfl⟩
      · exact iteFo (decide_eq_false (by omega)) ⟨_, _, _, rfl, rfl⟩
    · rintro σ H1 ⟨c, s3, s4, rfl, rfl⟩
      refine ⟨_, rfl, _, rfl, .inl ⟨_, rfl, 10, 60, rfl, rfl, ⟨by decide, by decide, by decide⟩, _, _, rfl, rfl, ⟨by decide, by decide +kernel⟩, _, _, rfl, rfl, (show ((10 ^ Int.toNat 60) ^ Int.toNat 10 : Int) ≠ 0 by decide +kernel), ?_⟩⟩
      refine ⟨_, rfl, .inl ⟨_, rfl, _, _, rfl, rfl, (show (2305843009213693669 : Int) ≠ 0 by decide), _, _, rfl, rfl, .inr ⟨by decide, by decide⟩, _, rfl, _, _, rfl, rfl, .inl ⟨by decide, by decide⟩, _, _, rfl, rfl, _, rfl, _, _, rfl, rfl, .inr ⟨_, rfl, _, _, rfl, rfl, .inl ⟨by decide, by decide⟩, _, _, rfl, rfl, _, _, rfl, rfl, ?_⟩⟩⟩
      refine ⟨_, rfl, 10, 18, rfl, rfl, ⟨by decide, by decide, by decide⟩, _, _, rfl, rfl, _, _, rfl, _, rfl, .inl ⟨_, rfl, _, _, rfl, rfl, (show (2305843009213693669 : Int) ≠ 0 by decide), szl (by show 3 ≤ 16777216; decide), fun D hD => ?_⟩⟩
      exact k D _ (same_new hD) hD ⟨_, _, _, upd_same⟩
/-! ### _law_roll -/
abbrev s__law_roll : Stmt := top 70
abbrev N__law_roll : List Str := ["_law_dice_here", "_law_total", "_law_found", "_law_one", "_law_two"]
theorem sc__law_roll : FnScope N__law_roll ["_law_dice_here", "_law_total"] (defScope s__law_roll) := ⟨rfl, rfl, rfl, by decide +kernel, rfl, by decide +kernel, by decide +kernel⟩
def sp_law_roll : Sp := fun vs H Q _ => ∃ (D : Addr) (t : Nat), vs = [.ref D, .int (t : Int)] ∧ DiO H D ∧ 1 ≤ t ∧ t < 1073741824 ∧ ∀ (r : Nat) H', r < t → SameB D H H' → DiO H' D → Q (.int (r : Int)) H'
theorem fmod_nat {i : Int} {t : Nat} (ht : 1 ≤ t) : ∃ r : Nat, i.fmod t = (r : Int) ∧ r < t := by
  have h1 := Int.fmod_nonneg_of_pos i (show (0 : Int) < t by omega)
  have h2 := Int.fmod_lt_of_pos i (show (0 : Int) < t by omega)
  exact ⟨(i.fmod t).toNat, by omega, by omega⟩
theorem fm_lt (i c : Int) (h : 0 < c) (h2 : c < 2 ^ 64) : -(2 ^ 64) < i.fmod c ∧ i.fmod c < 2 ^ 64 := by
  have h3 := Int.fmod_nonneg_of_pos i h
  have h4 := Int.fmod_lt_of_pos i h
  omega
theorem ok_law_roll {f : Addr} {fd : FuncData} (F : Fun K "_law_roll" "_law_roll" s__law_roll f fd) (N : Nm mg) : FnOk P w K mg base CX0 1 f fd ["_law_dice_here", "_law_total"] sp_law_roll := by
  refine F.ok sc__law_roll (fun vs H Q E h => ?_) (fun cdv A outer s H vs Q E hr h => ?_)
  · obtain ⟨D, t, rfl, _⟩ := h
    rfl
  · obtain ⟨D, t, rfl, ⟨x, y, z, hD⟩, ht, ht2, k⟩ := h
    refine ⟨_, (pss_cons (ps_if (pt_cmpR op_gt (pe_ix ix_list (pv 0) pe_int (fun _ _ => rfl)) pe_int (nomark _)) (pss_cons (ps_set (i := 2) sc__law_roll.nd rfl (Or.inl rfl) (pe_op op_modN (pe_callTy call_int1 (by rfl) N.int (by decide +kernel) (pa_cons (pe_ix ix_list (pv 0) pe_int (fun _ _ => rfl)) pa_nil)) (pv 1)))
      (pss_cons (ps_asg (pe_op op_fdivN (pe_ix ix_list (pv 0) pe_int (fun _ _ => rfl)) (pv 1)) (pg_sub (pv 0) pe_int set_list))
      (pss_one (ps_ret (pv 2))))) pss_nil)
      (pss_cons (ps_asg (pe_op op_add (pe_ix ix_list (pv 0) pe_int (fun _ _ => rfl)) pe_int) (pg_sub (pv 0) pe_int set_list))
      (pss_cons (ps_set (i := 3) sc__law_roll.nd rfl (Or.inl rfl) (pe_op op_modN (pe_callTy call_int1 (by rfl) N.int (by decide +kernel) (pa_cons (pe_op op_add (pe_ix ix_list (pv 0) pe_int (fun _ _ => rfl)) (pe_op op_mul pe_int (pe_ix ix_list (pv 0) pe_int (fun _ _ => rfl)))) pa_nil)) pe_int))
      (pss_cons (ps_set (i := 4) sc__law_roll.nd rfl (Or.inl rfl) (pe_op op_add (pe_op op_mul (pe_op op_modN (pe_callTy call_int1 (by rfl) N.int (by decide +kernel) (pa_cons (pe_op op_mul (pv 3) (pv 3)) pa_nil)) pe_int) (pv 3)) (pe_op op_mul pe_int (pe_ix ix_list (pv 0) pe_int (fun _ _ => rfl)))))
      (pss_cons (ps_set (i := 4) sc__law_roll.nd rfl (Or.inl rfl) (pe_op op_modN (pe_callTy call_int1 (by rfl) N.int (by decide +kernel) (pa_cons (pv 4) pa_nil)) pe_int))
      (pss_one (ps_ret (pe_op op_modN (pe_callTy call_int1 (by rfl) N.int (by decide +kernel) (pa_cons (pe_op op_fdivN (pv 4) pe_int) pa_nil)) (pv 1))))))))), ?_⟩
    have hL : SqL K H D [.int x, .int y, .int z] := SqL.of hD
    have htn : (t : Int) ≠ 0 := by omega
    have htb : ((t : Int)).natAbs < 1073741824 := by omega
    have kk : ∀ (i : Int) H', SameB D H H' → DiO H' D → Q (.int (i.fmod t)) H' := fun i H' a b => by
      obtain ⟨r, hr1, hr2⟩ := fmod_nat (i := i) ht
      rw [hr1]
      exact k r H' hr2 a b
    refine ⟨_, rfl, D, _, 0, _, rfl, rfl, hL, rfl, _, _, rfl, rfl, _, rfl, ?_⟩
    by_cases hx : (0 : Int) < x
    · refine iteTo (decide_eq_true hx) ?_
      refine ⟨_, rfl, D, _, 0, _, rfl, rfl, hL, rfl, .inl ⟨_, rfl, _, rfl, _, _, rfl, rfl, htn, ?_⟩⟩
      refine ⟨_, rfl, D, _, 0, _, rfl, rfl, hL, rfl, _, rfl, _, _, rfl, rfl, ⟨htn, htb⟩, ?_⟩
      refine ⟨_, rfl, D, _, 0, 0, rfl, rfl, hD, rfl, ⟨_, rfl, ?_⟩⟩
      exact kk _ _ sameB_upd ⟨_, _, _, upd_same⟩
    · refine iteFo (decide_eq_false hx) ?_
      refine ⟨_, rfl, D, _, 2, _, rfl, rfl, hL, rfl, _, _, rfl, rfl, _, rfl, D, _, 2, 2, rfl, rfl, hD, rfl, ?_⟩
      have hD1 : (upd H D (.lst ([V.int x, V.int y, V.int z].set 2 (V.int (z + 1))))) D = some (.lst [.int x, .int y, .int (z + 1)]) := upd_same
      have hB : SameB D H (upd H D (.lst ([V.int x, V.int y, V.int z].set 2 (V.int (z + 1))))) := sameB_upd
      generalize (upd H D (.lst ([V.int x, V.int y, V.int z].set 2 (V.int (z + 1))))) = H1 at *
      have hL1 : SqL K H1 D [.int x, .int y, .int (z + 1)] := SqL.of hD1
      refine ⟨_, rfl, D, _, 1, _, rfl, rfl, hL1, rfl, _, rfl, D, _, 2, _, rfl, rfl, hL1, rfl, _, _, rfl, rfl, .inl ⟨by decide, by decide⟩, _, _, rfl, rfl, .inl ⟨_, rfl, _, _, rfl, rfl, (show (2305843009213693951 : Int) ≠ 0 by decide), ?_⟩⟩
      refine ⟨_, rfl, _, rfl, _, _, rfl, rfl, .inl (fm_lt _ _ (by decide) (by decide)), .inl ⟨_, rfl, _, _, rfl, rfl, (show (2305843009213693921 : Int) ≠ 0 by decide), _, rfl, _, _, rfl, rfl, .inl (fm_lt _ _ (by decide) (by decide)), _, rfl, D, _, 2, _, rfl, rfl, hL1, rfl, _, _, rfl, rfl, .inl ⟨by decide, by decide⟩, _, _, rfl, rfl, ?_⟩⟩
      refine ⟨_, rfl, .inl ⟨_, rfl, _, _, rfl, rfl, (show (2305843009213693669 : Int) ≠ 0 by decide), ?_⟩⟩
      exact ⟨_, rfl, _, _, rfl, rfl, ⟨by decide, by decide⟩, .inl ⟨_, rfl, _, rfl, _, _, rfl, rfl, htn, kk _ _ hB ⟨_, _, _, hD1⟩⟩⟩
/-! ### _law_pick -/
abbrev s__law_pick : Stmt := top 71
abbrev N__law_pick : List Str := ["_law_dice_here", "_law_items"]
theorem sc__law_pick : FnScope N__law_pick ["_law_dice_here", "_law_items"] (defScope s__law_pick) := ⟨rfl, rfl, rfl, by decide +kernel, rfl, by decide +kernel, by decide +kernel⟩
def sp_law_pick (K : PySem.W.Frag) : Sp := fun vs H Q _ => ∃ (D p : Addr) (xs : List V), vs = [.ref D, .ref p] ∧ DiO H D ∧ SqL K H p xs ∧ p ≠ D ∧ 1 ≤ xs.length ∧ xs.length ≤ 1000000 ∧ ∀ v H', v ∈ xs → SameB D H H' → DiO H' D → Q v H'
theorem SqL.sameB {K : PySem.W.Frag} {H H' : Hp} {D p : Addr} {xs : List V} (s : SameB D H H') (hp : p ≠ D) (h : SqL K H p xs) : SqL K H' p xs := by
  rcases h with (h | ⟨o, h⟩) | h
  · exact .inl (.inl (s _ _ hp h))
  · exact .inl (.inr ⟨o, s _ _ hp h⟩)
  · exact .inr h
theorem ok_law_pick {f : Addr} {fd : FuncData} (F : Fun K "_law_pick" "_law_pick" s__law_pick f fd) (N : Nm mg) (c__law_roll : Cal P w K mg base CX0 1 "_law_roll" sp_law_roll) : FnOk P w K mg base CX0 2 f fd ["_law_dice_here", "_law_items"] (sp_law_pick K) := by
  refine F.ok sc__law_pick (fun vs H Q E h => ?_) (fun cdv A outer s H vs Q E hr h => ?_)
  · obtain ⟨D, p, xs, rfl, _⟩ := h
    rfl
  · obtain ⟨D, p, xs, rfl, hD, hp, hne, h1, h2, k⟩ := h
    refine ⟨_, (pss_one (ps_ret (pe_ix ix_list (pv 1) (pe_c c__law_roll hr (ha := (pa_cons (pv 0) (pa_cons (pe_callB call_len_seq (by rfl) N.len (by decide +kernel) (pa_cons (pv 1) pa_nil)) pa_nil)))) (fun _ _ => rfl)))), ?_⟩
    refine ⟨_, rfl, _, rfl, _, rfl, p, _, rfl, .inl hp, D, xs.length, rfl, hD, h1, by omega, fun r H' hr0 hB hD' => ?_⟩
    exact ⟨p, xs, r, xs[r], rfl, rfl, SqL.sameB hB hne hp, atI_nat (List.getElem?_eq_getElem hr0), k _ _ (List.getElem_mem _) hB hD'⟩
end
end Fp
/-! W24: _law_some, _law_bent -/
namespace Fp
open PySem PySem.Spec PyProof.Rows L2 TL
abbrev rLenS (K : PySem.W.Frag) : List V → Hp → VK → Prop := fun xs H Q => ∃ p ys, xs = [V.ref p] ∧ (SqL K H p ys ∨ SqT K H p ys) ∧ Q (V.int ys.length) H
theorem erase_perm {α : Type} {zs : List α} {r : Nat} {y : α} (h : zs[r]? = some y) : (y :: zs.eraseIdx r).Perm zs := by
  induction zs generalizing r with
  | nil => simp at h
  | cons a zs ih =>
    cases r with
    | zero => simp at h; subst h; exact List.Perm.refl _
    | succ r =>
      simp at h
      rw [List.eraseIdx_cons_succ]
      exact (List.Perm.swap a y _).trans ((ih h).cons a)
section
variable {P : Program} {w : World} {K : PySem.W.Frag} {mg : Str → Option Value} {base : Heap}
abbrev s__law_some : Stmt := top 72
abbrev N__law_some : List Str := ["_law_dice_here", "_law_items", "_law_size", "_law_left", "_law_turn"]
theorem sc__law_some : FnScope N__law_some ["_law_dice_here", "_law_items", "_law_size"] (defScope s__law_some) := ⟨rfl, rfl, rfl, by decide +kernel, rfl, by decide +kernel, by decide +kernel⟩
def sp_law_some (K : PySem.W.Frag) : Sp := fun vs H Q _ => ∃ (D p : Addr) (m : Nat) (xs : List V), vs = [.ref D, .ref p, .int (m : Int)] ∧ DiO H D ∧ SqL K H p xs ∧ xs.length ≤ 1000000 ∧ m ≤ 1000000 ∧ ∀ q ys zs H', (ys ++ zs).Perm xs → ys.length = min m xs.length → SameB D H H' → DiO H' D → H q = none → H' q = some (.lst ys) → Q (.ref q) H'
theorem ok_law_some {f : Addr} {fd : FuncData} (F : Fun K "_law_some" "_law_some" s__law_some f fd) (N : Nm mg) (c__law_roll : Cal P w K mg base CX0 1 "_law_roll" sp_law_roll) : FnOk P w K mg base CX0 2 f fd ["_law_dice_here", "_law_items", "_law_size"] (sp_law_some K) := by
  refine F.ok sc__law_some (fun vs H Q E h => ?_) (fun cdv A outer s H vs Q E hr h => ?_)
  · obtain ⟨D, p, m, xs, rfl, _⟩ := h
    rfl
  · obtain ⟨D, p, m, xs, rfl, hD, hp, hx, hm, k⟩ := h
    refine ⟨_, (pss_cons (ps_set (i := 3) sc__law_some.nd rfl (Or.inr rfl) (pe_callTy call_list_of (by rfl) N.list (by decide +kernel) (pa_cons (pv 1) pa_nil)))
      (pss_one (ps_ret (pe_lc (own := [("_law_turn", 4)]) (g := gName 4) (tt := tYes) (te := tBM K "list" rPopAt (tVar 3) (tCons (tCall sp_law_roll [] E0 (tCons (tVar 0) (tCons (tCB (rLenS K) (tCons (tVar 3) tNil)) tNil))) tNil)) rfl sc__law_some.nd (pi_range1 (by rfl) N.range (pa_cons (pe_callB (call_min2 rfl) (by rfl) N.min (by decide +kernel) (pa_cons (pv 2) (pa_cons (pe_callB call_len_seq (by rfl) N.len (by decide +kernel) (pa_cons (pv 3) pa_nil)) pa_nil))) pa_nil)) (blkOk_by (N := N__law_some) (sc := defScope s__law_some) (by decide +kernel)) (fun _ _ _ _ _ => pg_name (i := 4) sc__law_some.nd rfl (Or.inl rfl)) (fun _ _ _ _ _ => pts_nil) (fun _ _ _ _ _ => (pe_bm PySem.F.plainAttrs_list PySem.F.slot_list_pop PySem.F.type_list_pop mt_popAt (pv 3) (pa_cons (pe_c c__law_roll hr (ha := (pa_cons (pv 0) (pa_cons (pe_callB call_len_seq (by rfl) N.len (by decide +kernel) (pa_cons (pv 3) pa_nil)) pa_nil)))) pa_nil))))))), ?_⟩
    refine ⟨_, rfl, p, _, rfl, .inl hp, fun l hl => ?_⟩
    have hDl : D ≠ l := by
      obtain ⟨a, b, c, h⟩ := hD
      exact ne_of_none h hl
    have s1 := same_new (o := .lst xs) hl
    have hl1 : (upd H l (.lst xs)) l = some (.lst xs) := upd_same
    generalize (upd H l (.lst xs)) = H1 at *
    have hD1 := hD.same s1
    refine ⟨_, rfl, _, rfl, l, _, rfl, .inl (SqL.of hl1), (m : Int), (xs.length : Int), rfl, ?_⟩
    have hj : (if (xs.length : Int) < (m : Int) then (xs.length : Int) else (m : Int)) = ((min m xs.length : Nat) : Int) := by
      by_cases h : (xs.length : Int) < m
      · rw [if_pos h]; omega
      · rw [if_neg h]; omega
    rw [hj]
    refine ⟨_, rfl, by omega, by omega, fun B hB => ?_⟩
    have hlB : l ≠ B := ne_of_none hl1 hB
    have hDB : D ≠ B := by
      obtain ⟨a, b, c, h⟩ := hD1
      exact ne_of_none h hB
    have hBH : H B = none := Same.free s1 hB
    have ej : (((min m xs.length : Nat) : Int)).toNat = min m xs.length := by omega
    rw [ej]
    refine lc_it walk_range (fun i H2 => ∃ ys zs, H2 l = some (.lst zs) ∧ H2 B = some (.lst ys) ∧ (ys ++ zs).Perm xs ∧ ys.length = i ∧ DiO H2 D ∧ SameB D H H2) ⟨[], xs, by rw [upd_ne hlB]; exact hl1, upd_same, List.Perm.refl _, rfl, hD1.same (same_new hB), sB (Same.trans s1 (same_new hB))⟩ (fun _ _ _ _ => True.intro) (fun i x H2 H3 hi ⟨ys, zs, hl2, hB2, hpm, hlen, hD2, hs2⟩ y => ?_) (fun H2 ⟨ys, zs, hl2, hB2, hpm, hlen, hD2, hs2⟩ => ?_)
    · obtain ⟨rfl, rfl⟩ := y
      have hz : zs.length = xs.length - i := by
        have := hpm.length_eq
        rw [List.length_append] at this
        omega
      refine ⟨rfl, _, rfl, .inl ⟨rfl, _, SqL.of hl2⟩, _, rfl, _, rfl, l, _, rfl, .inl (SqL.of hl2), D, zs.length, rfl, hD2, by omega, by omega, fun r H4 hr4 hs4 hD4 => ?_⟩
      have hl4 := hs4 _ _ hDl.symm hl2
      have hB4 := hs4 _ _ hDB.symm hB2
      obtain ⟨y, hy⟩ : ∃ y, zs[r]? = some y := ⟨zs[r], List.getElem?_eq_getElem hr4⟩
      refine ⟨l, zs, (r : Int), r, y, rfl, rfl, hl4, by omega, by omega, by rw [seqIndex_of (by omega) (by omega)]; rfl, hy, ys, by rw [upd_ne hlB.symm]; exact hB4, szlt (by omega), ys ++ [y], zs.eraseIdx r, ?_, upd_same, ?_, by rw [List.length_append, hlen]; rfl, ?_, ?_⟩
      · rw [upd_ne hlB]
        exact upd_same
      · rw [List.append_assoc]
        exact ((erase_perm hy).append_left ys).trans hpm
      · obtain ⟨a, b, c, h⟩ := hD4
        exact ⟨a, b, c, by rw [upd_ne hDB, upd_ne hDl]; exact h⟩
      · intro b o hb e
        have e4 := hs4 _ _ hb (hs2 _ _ hb e)
        rw [upd_ne (ne_of_none e hBH), upd_ne (ne_of_none e hl)]
        exact e4
    · exact k B ys zs H2 hpm hlen hs2 hD2 hBH hB2
/-! ### _law_bent -/
abbrev s__law_bent : Stmt := top 92
abbrev N__law_bent : List Str := ["_law_dice_here", "_law_text_here", "_law_at", "_law_sign"]
theorem sc__law_bent : FnScope N__law_bent ["_law_dice_here", "_law_text_here"] (defScope s__law_bent) := ⟨rfl, rfl, rfl, by decide +kernel, rfl, by decide +kernel, by decide +kernel⟩
def sp_law_bent : Sp := fun vs H Q _ => ∃ (D : Addr) (x : Str), vs = [.ref D, .str x] ∧ DiO H D ∧ x.length ≤ 1000000 ∧ ∀ (y : Str) H', y.length ≤ x.length + 10 → SameB D H H' → DiO H' D → Q (.str y) H'
theorem DiO.some {H : Hp} {D : Addr} (h : DiO H D) : ∃ o, H D = some o := by
  obtain ⟨_, _, _, h⟩ := h
  exact ⟨_, h⟩
theorem DiO.ne {H : Hp} {D p : Addr} (h : DiO H D) (hp : H p = none) : p ≠ D := fun z => by
  obtain ⟨_, _, _, h⟩ := h
  rw [← z, hp] at h
  cases h
theorem cut_le (x : Str) (lo hi : Option Int) : (cutS x lo hi).length ≤ x.length := by
  unfold cutS
  show (((tl x).drop _).take _).length ≤ _
  rw [List.length_take, List.length_drop, len_tl]
  omega
theorem SameB.new {D p : Addr} {H H' : Hp} {o : HO} (hp : H p = none) (h : SameB D (upd H p o) H') : SameB D H H' := fun b u hb e => h b u hb (by rw [upd_ne (ne_of_none e hp)]; exact e)
theorem ok_law_bent {f : Addr} {fd : FuncData} (F : Fun K "_law_bent" "_law_bent" s__law_bent f fd) (N : Nm mg) (c__law_roll : Cal P w K mg base CX0 1 "_law_roll" sp_law_roll) (c__law_pick : Cal P w K mg base CX0 2 "_law_pick" (sp_law_pick K)) : FnOk P w K mg base CX0 3 f fd ["_law_dice_here", "_law_text_here"] sp_law_bent := by
  refine F.ok sc__law_bent (fun vs H Q E h => ?_) (fun cdv A outer s H vs Q E hr h => ?_)
  · obtain ⟨D, x, rfl, _⟩ := h
    rfl
  · obtain ⟨D, x, rfl, hD, hx, k⟩ := h
    refine ⟨_, (pss_cons (ps_set (i := 2) sc__law_bent.nd rfl (Or.inl rfl) (pe_c c__law_roll hr (ha := (pa_cons (pv 0) (pa_cons (pe_op op_add (pe_callB call_len_str (by rfl) N.len (by decide +kernel) (pa_cons (pv 1) pa_nil)) pe_int) pa_nil)))))
      (pss_cons (ps_set (i := 3) sc__law_bent.nd rfl (Or.inl rfl) (pe_c c__law_pick hr (ha := (pa_cons (pv 0) (pa_cons (pe_lst (pa_cons pe_str (pa_cons pe_str (pa_cons pe_str (pa_cons pe_str (pa_cons pe_str (pa_cons pe_str (pa_cons pe_str (pa_cons pe_str (pa_cons pe_str (pa_cons pe_str (pa_cons pe_str (pa_cons pe_str pa_nil))))))))))))) pa_nil)))))
      (pss_one (ps_ret (pe_op op_add_str (pe_op op_add_str (pe_slice sl_str (pv 1) po_none (po_some (pv 2))) (pe_c c__law_pick hr (ha := (pa_cons (pv 0) (pa_cons (pe_lst (pa_cons (pv 3) (pa_cons (pv 3) (pa_cons pe_str pa_nil)))) pa_nil))))) (pe_slice sl_str (pv 1) (po_some (pe_op op_add (pv 2) (pe_c c__law_roll hr (ha := (pa_cons (pv 0) (pa_cons pe_int pa_nil)))))) po_none)))))), ?_⟩
    refine ⟨_, rfl, _, rfl, x, rfl, szl (by omega), _, _, rfl, rfl, D, x.length + 1, by rfl, hD, by omega, by omega, fun at' H1 hat hs1 hD1 => ?_⟩
    refine ⟨_, rfl, szl (by show 12 ≤ 16777216; decide), fun p hp => ?_⟩
    refine ⟨D, p, _, rfl, hD1.same (same_new hp), SqL.of upd_same, hD1.ne hp, by show 1 ≤ 12; decide, by show 12 ≤ 1000000; decide, fun v H2 hv hs2 hD2 => ?_⟩
    have hv2 : ∃ y : Str, v = .str y ∧ y.length ≤ 5 := by
      simp only [List.mem_cons, List.not_mem_nil, or_false] at hv
      rcases hv with rfl | rfl | rfl | rfl | rfl | rfl | rfl | rfl | rfl | rfl | rfl | rfl <;> exact ⟨_, rfl, by decide +kernel⟩
    obtain ⟨y, rfl, hy⟩ := hv2
    have hs02 : SameB D H H2 := hs1.trans (SameB.new hp hs2)
    refine ⟨_, rfl, _, rfl, _, rfl, x, rfl, szl (by omega), _, rfl, _, rfl, _, rfl, szl (by show 3 ≤ 16777216; decide), fun q hq => ?_⟩
    refine ⟨D, q, _, rfl, hD2.same (same_new hq), SqL.of upd_same, hD2.ne hq, by show 1 ≤ 3; decide, by show 3 ≤ 1000000; decide, fun u H3 hu hs3 hD3 => ?_⟩
    have hu2 : ∃ z : Str, u = .str z ∧ z.length ≤ 5 := by
      simp only [List.mem_cons, List.not_mem_nil, or_false] at hu
      rcases hu with rfl | rfl | rfl
      · exact ⟨_, rfl, hy⟩
      · exact ⟨_, rfl, hy⟩
      · exact ⟨_, rfl, by decide +kernel⟩
    obtain ⟨z, rfl, hz⟩ := hu2
    have hs03 : SameB D H H3 := hs02.trans (SameB.new hq hs3)
    have hc1 : (cutS x none (some (at' : Int))).length ≤ at' := by
      rw [cut_head, len_S, List.length_take]
      omega
    refine ⟨_, _, rfl, rfl, szl (by omega), ?_⟩
    refine ⟨_, rfl, _, rfl, _, rfl, D, 4, rfl, hD3, by decide, by decide, fun r H4 hr4 hs4 hD4 => ?_⟩
    have hs04 : SameB D H H4 := hs03.trans hs4
    refine ⟨_, _, rfl, rfl, _, rfl, x, rfl, szl (by omega), ?_⟩
    have hc2 : (cutS x (some ((at' : Int) + (r : Int))) none).length ≤ x.length - at' := by
      have e : (at' : Int) + (r : Int) = ((at' + r : Nat) : Int) := by omega
      rw [e, cut_tail, len_S, List.length_drop, ← len_tl]
      omega
    refine ⟨_, _, rfl, rfl, szl (by rw [len_app]; omega), ?_⟩
    exact k _ H4 (by rw [len_app, len_app]; omega) hs04 hD4
end
end Fp
/-! W25: _law_text, _law_atoms_of, _law_kinds_under -/
namespace Fp
open PySem PySem.Spec PyProof.Rows L2 TL
mutual
def atomsK : Kd → List Str
  | .mk as a => atomsKs as ++ [a]
def atomsKs : List Kd → List Str
  | [] => []
  | k :: ks => atomsK k ++ atomsKs ks
end
mutual
def undersK : Kd → List Kd
  | .mk as a => .mk as a :: undersKs as
def undersKs : List Kd → List Kd
  | [] => []
  | k :: ks => undersK k ++ undersKs ks
end
theorem atomsK_args (k : Kd) : atomsK k = atomsKs k.args ++ [k.atom] := by obtain ⟨as, a⟩ := k; rw [atomsK]; rfl
theorem undersK_args (k : Kd) : undersK k = k :: undersKs k.args := by obtain ⟨as, a⟩ := k; rw [undersK]; rfl
theorem atomsKs_snoc (k : Kd) : ∀ ks : List Kd, atomsKs (ks ++ [k]) = atomsKs ks ++ atomsK k
  | [] => by simp [atomsKs]
  | a :: ks => by rw [List.cons_append, atomsKs, atomsKs, atomsKs_snoc k ks, List.append_assoc]
theorem undersKs_snoc (k : Kd) : ∀ ks : List Kd, undersKs (ks ++ [k]) = undersKs ks ++ undersK k
  | [] => by simp [undersKs]
  | a :: ks => by rw [List.cons_append, undersKs, undersKs, undersKs_snoc k ks, List.append_assoc]
mutual
theorem atomsK_len : ∀ k : Kd, (atomsK k).length = plc k
  | .mk as a => by rw [atomsK, plc_mk, List.length_append, atomsKs_len as]; rfl
theorem atomsKs_len : ∀ ks : List Kd, (atomsKs ks).length = plcs ks
  | [] => rfl
  | k :: ks => by rw [atomsKs, plcs_cons, List.length_append, atomsK_len k, atomsKs_len ks]
end
mutual
theorem undersK_len : ∀ k : Kd, (undersK k).length = plc k
  | .mk as a => by rw [undersK, plc_mk, List.length_cons, undersKs_len as]
theorem undersKs_len : ∀ ks : List Kd, (undersKs ks).length = plcs ks
  | [] => rfl
  | k :: ks => by rw [undersKs, plcs_cons, List.length_append, undersK_len k, undersKs_len ks]
end
theorem plcs_take : ∀ (ks : List Kd) (i : Nat), plcs (ks.take i) ≤ plcs ks
  | [], i => by rw [List.take_nil]; exact Nat.le_refl _
  | k :: ks, 0 => by rw [List.take_zero, plcs_nil]; exact Nat.zero_le _
  | k :: ks, i + 1 => by rw [List.take_succ_cons, plcs_cons, plcs_cons]; have := plcs_take ks i; omega
theorem take_snoc {α : Type} {l : List α} {i : Nat} {x : α} (h : l[i]? = some x) : l.take (i + 1) = l.take i ++ [x] := by
  rw [List.take_add_one, h]
  rfl
theorem arrow_tl : tl (Str.ofString " -> ") = Arr := by decide +kernel
theorem txt_of_rows (k : Kd) : Txt.join (Str.ofString " -> ") (k.args.map txtA ++ [k.atom]) = txt k := by
  apply ext_l
  rw [join_eq, tl_join, arrow_tl, tl_txt, List.map_append, List.map_map]
  have := txt_join k.args k.atom
  rw [Kd.eta] at this
  exact this
theorem txtA_parts {k : Kd} (h : k.args ≠ []) : txtA k = Str.ofString "(" ++ txt k ++ Str.ofString ")" := by
  apply ext_l
  rw [txtA_ne h, tl_app2, tl_app2, tl_txt, show tl (Str.ofString "(") = [40] by decide +kernel, show tl (Str.ofString ")") = [41] by decide +kernel]
section
variable {P : Program} {w : World} {K : PySem.W.Frag} {mg : Str → Option Value} {base : Heap}
/-! ### _law_text -/
abbrev s__law_text : Stmt := top 73
abbrev N__law_text : List Str := ["_law_kind_here", "_law_rows", "_law_one"]
theorem sc__law_text : FnScope N__law_text ["_law_kind_here"] (defScope s__law_text) := ⟨rfl, rfl, rfl, by decide +kernel, rfl, by decide +kernel, by decide +kernel⟩
def sp_law_text (K : PySem.W.Frag) (n : Nat) : Sp := fun vs H Q _ => ∃ v k, vs = [v] ∧ Dp K H v (kdD k) ∧ wds k = true ∧ plc k ≤ 15 ∧ ordK k < n ∧ ∀ H', Same H H' → Q (.str (txt k)) H'
theorem ok_law_text {f : Addr} {fd : FuncData} (F : Fun K "_law_text" "_law_text" s__law_text f fd) (N : Nm mg) (hm : mg "_law_text" = some (.ref f)) (hkp : PySem.W.keepIn K (.ref f) = true) (hbd : Binds K fd ["_law_kind_here"] []) : ∀ n : Nat, FnOk P w K mg base CX0 (n + 1) f fd ["_law_kind_here"] (sp_law_text K n)
  | 0 => ⟨fun vs H Q E h => by obtain ⟨v, k, _, _, _, _, z, _⟩ := h; omega, fun A outer s H args us vs Q E hr e0 hb r q => by obtain ⟨v, k, _, _, _, _, z, _⟩ := q; omega⟩
  | n + 1 => by
    have c__law_text : Cal P w K mg base CX0 (n + 1) "_law_text" (sp_law_text K n) := ⟨f, fd, _, ok_law_text F N hm hkp hbd n, hm, hkp, hbd⟩
    refine F.ok sc__law_text (fun vs H Q E h => ?_) (fun cdv A outer s H vs Q E hr h => ?_)
    · obtain ⟨v, k, rfl, _⟩ := h
      rfl
    · obtain ⟨v, k, rfl, d, hw, hp, hn, k0⟩ := h
      refine ⟨_, (pss_cons (ps_set (i := 1) sc__law_text.nd rfl (Or.inl rfl) (pe_lst pa_nil))
        (pss_cons (ps_for PassesOwn.never rfl (pi_tup (pe_ix ix_tup (pv 0) pe_int (fun _ _ => rfl))) (pg_name (i := 2) sc__law_text.nd rfl (Or.inl rfl)) (pss_one (ps_expr (pe_bm PySem.F.plainAttrs_list PySem.F.slot_list_append PySem.F.type_list_append mt_append (pv 1) (pa_cons (pe_ifExp (pt_cmpR (op_eqNil hr.units0) (pe_ix ix_tup (pv 2) pe_int (fun _ _ => rfl)) (pe_tup pa_nil) (nomark _)) (pe_c c__law_text hr (hk := Nat.le_refl _) (ha := (pa_cons (pv 2) pa_nil))) (pe_op op_add_str (pe_op op_add_str pe_str (pe_c c__law_text hr (hk := Nat.le_refl _) (ha := (pa_cons (pv 2) pa_nil)))) pe_str)) pa_nil)))))
        (pss_one (ps_ret (pe_join pe_str (pe_op op_cat (pv 1) (pe_lst (pa_cons (pe_ix ix_tup (pv 0) pe_int (fun _ _ => rfl)) pa_nil)))))))), ?_⟩
      obtain ⟨a, b, us, rfl, q1, q2, q3⟩ := dp_kd d
      have hwa := wds_args hw
      have hpa := plc_args k
      have hoa := ordK_args k
      have hl : us.length = k.args.length := by have := dpAll_length q3; rwa [kdDs_length] at this
      have hpl := plcs_length k.args
      refine ⟨Nat.zero_le _, fun R hR => ?_⟩
      have sR := same_new (o := .lst []) hR
      refine ⟨_, rfl, a, _, 0, _, rfl, rfl, SqT.same sR q1, rfl, b, rfl, ⟨us, SqT.same sR q2⟩, ?_⟩
      refine for_it walk_tup (fun i σ H2 => ∃ sl, σ = [some (V.ref a), some (V.ref R), sl] ∧ H2 R = some (.lst (((k.args.take i).map txtA).map V.str)) ∧ Same H H2) ⟨_, rfl, upd_same, sR⟩ (fun i σ H2 _ ⟨_, _, _, s2⟩ => SqT.same s2 q2) (fun i z σ H2 H3 hi ⟨sl, hσ, hR2, s2⟩ y => ?_) (fun σ H2 ⟨sl, hσ, hR2, s2⟩ => ?_)
      · subst hσ
        obtain ⟨rfl, hz⟩ := y
        obtain ⟨k1, hk1, d1⟩ := dpAll_getV q3 hz
        have hm1 := List.mem_of_getElem? hk1
        have ho1 := ordKs_mem hm1
        have hp1 := plcs_mem hm1
        have hw1 := wdss_mem hwa.2 hm1
        have d3 := Dp.same s2 d1
        obtain ⟨a1, b1, us1, rfl, p1, p2, p3⟩ := dp_kd d3
        have hl1 : us1.length = k1.args.length := by have := dpAll_length p3; rwa [kdDs_length] at this
        have fin : ∀ H4, Same H3 H4 → rAppend (.ref R) [.str (txtA k1)] H4 fun _ H5 => ∃ sl, [some (V.ref a), some (V.ref R), some (V.ref a1)] = [some (V.ref a), some (V.ref R), sl] ∧ H5 R = some (.lst (((k.args.take (i + 1)).map txtA).map V.str)) ∧ Same H H5 := fun H4 s4 => by
          refine ⟨R, _, _, rfl, rfl, s4 _ _ hR2, ?_, _, rfl, ?_, same_put (Same.trans s2 s4) hR⟩
          · rw [List.length_map, List.length_map, List.length_take]
            exact szlt (by omega)
          · rw [upd_same, take_snoc hk1, List.map_append, List.map_append]
            rfl
        refine ⟨_, rfl, .inl ⟨rfl, _, SqL.of hR2⟩, _, rfl, a1, _, 0, _, rfl, rfl, p1, rfl, Nat.zero_le _, fun t ht => ?_⟩
        have s4 := same_new (o := .tup []) ht
        refine ⟨b1, t, us1, rfl, rfl, .inr ⟨SqT.same s4 p2, SqT.of upd_same⟩, _, rfl, ?_⟩
        have hlt := txt_len hw1
        have e1 : (Str.ofString "(").length = 1 := by decide +kernel
        have e2 : (Str.ofString ")").length = 1 := by decide +kernel
        by_cases hk0 : k1.args = []
        · have hu0 : us1 = [] := List.length_eq_zero_iff.mp (by rw [hl1, hk0]; rfl)
          subst hu0
          refine iteT ⟨_, rfl, _, k1, rfl, Dp.same s4 d3, hw1, by omega, by omega, fun H5 s5 => ?_⟩
          have := fin H5 (Same.trans s4 s5)
          rw [txtA_at hk0] at this
          exact this
        · have hu0 : us1.isEmpty = false := by
            cases us1 with
            | nil => rw [List.length_nil] at hl1; exact absurd (List.length_eq_zero_iff.mp hl1.symm) hk0
            | cons _ _ => rfl
          rw [hu0]
          refine iteF ⟨_, rfl, _, k1, rfl, Dp.same s4 d3, hw1, by omega, by omega, fun H5 s5 => ⟨_, _, rfl, rfl, szl (by rw [e1]; omega), _, _, rfl, rfl, szl (by rw [len_app, e1, e2]; omega), ?_⟩⟩
          have := fin H5 (Same.trans s4 s5)
          rw [txtA_parts hk0] at this
          exact this
      · subst hσ
        rw [show k.args.take us.length = k.args by rw [hl]; exact List.take_length] at hR2
        refine ⟨⟨_, rfl⟩, _, rfl, _, rfl, a, _, 1, _, rfl, rfl, SqT.same s2 q1, rfl, szl (by show 1 ≤ 16777216; decide), fun p hp0 => ?_⟩
        have s4 := same_new (o := .lst [V.str k.atom]) hp0
        refine ⟨R, p, _, _, rfl, rfl, s4 _ _ hR2, upd_same, ?_, fun q hq => ?_⟩
        · rw [List.length_map, List.length_map]
          exact szl (by show _ + 1 ≤ _; omega)
        have s5 := same_new (o := .lst ((k.args.map txtA).map V.str ++ [V.str k.atom])) hq
        have hsum : ((k.args.map txtA ++ [k.atom]).map (·.length)).sum ≤ 1000 := by
          have h1 := sum_txtA hwa.2
          have h2 := word_len hwa.1
          rw [List.map_append, List.sum_append]
          show _ + (k.atom.length + 0) ≤ _
          omega
        have hlen : (k.args.map txtA ++ [k.atom]).length ≤ 20 := by
          rw [List.length_append, List.length_map]
          show _ + 1 ≤ _
          omega
        have e1 : (Str.ofString " -> ").length = 4 := by decide +kernel
        refine ⟨_, q, k.args.map txtA ++ [k.atom], rfl, rfl, .inl (SqL.of (by rw [upd_same, List.map_append]; rfl)), by rw [e1]; omega, ?_⟩
        rw [txt_of_rows]
        exact k0 _ (Same.trans s2 (Same.trans s4 s5))
end
end Fp
/-! W26: _law_atoms_of, _law_kinds_under, _law_made_kind -/
namespace Fp
open PySem PySem.Spec PyProof.Rows L2 TL
theorem dpAll_cat {K : PySem.W.Frag} {H : Hp} : ∀ {vs ws : List V} {ks ls : List Kd}, DpAll K H vs (kdDs ks) → DpAll K H ws (kdDs ls) → DpAll K H (vs ++ ws) (kdDs (ks ++ ls)) := by
  intro vs ws ks ls h1 h2
  rw [kdDs_map] at *
  rw [List.map_append]
  generalize ks.map kdD = ds at h1
  induction ds generalizing vs with
  | nil => cases h1; exact h2
  | cons d ds ih =>
    cases h1 with
    | cons h t => exact .cons h (ih t)
section
variable {P : Program} {w : World} {K : PySem.W.Frag} {mg : Str → Option Value} {base : Heap}
abbrev s__law_atoms_of : Stmt := top 74
abbrev N__law_atoms_of : List Str := ["_law_kind_here", "_law_found", "_law_one"]
theorem sc__law_atoms_of : FnScope N__law_atoms_of ["_law_kind_here"] (defScope s__law_atoms_of) := ⟨rfl, rfl, rfl, by decide +kernel, rfl, by decide +kernel, by decide +kernel⟩
def sp_law_atoms_of (K : PySem.W.Frag) (n : Nat) : Sp := fun vs H Q _ => ∃ v k, vs = [v] ∧ Dp K H v (kdD k) ∧ plc k ≤ 15 ∧ ordK k < n ∧ ∀ p H', Same H H' → H p = none → H' p = some (.lst ((atomsK k).map V.str)) → Q (.ref p) H'
theorem ok_law_atoms_of {f : Addr} {fd : FuncData} (F : Fun K "_law_atoms_of" "_law_atoms_of" s__law_atoms_of f fd) (hm : mg "_law_atoms_of" = some (.ref f)) (hkp : PySem.W.keepIn K (.ref f) = true) (hbd : Binds K fd ["_law_kind_here"] []) : ∀ n : Nat, FnOk P w K mg base CX0 (n + 1) f fd ["_law_kind_here"] (sp_law_atoms_of K n)
  | 0 => ⟨fun vs H Q E h => by obtain ⟨v, k, _, _, _, z, _⟩ := h; omega, fun A outer s H args us vs Q E hr e0 hb r q => by obtain ⟨v, k, _, _, _, z, _⟩ := q; omega⟩
  | n + 1 => by
    have c__law_atoms_of : Cal P w K mg base CX0 (n + 1) "_law_atoms_of" (sp_law_atoms_of K n) := ⟨f, fd, _, ok_law_atoms_of F hm hkp hbd n, hm, hkp, hbd⟩
    refine F.ok sc__law_atoms_of (fun vs H Q E h => ?_) (fun cdv A outer s H vs Q E hr h => ?_)
    · obtain ⟨v, k, rfl, _⟩ := h
      rfl
    · obtain ⟨v, k, rfl, d, hp, hn, k0⟩ := h
      refine ⟨_, (pss_cons (ps_set (i := 1) sc__law_atoms_of.nd rfl (Or.inl rfl) (pe_lst pa_nil))
        (pss_cons (ps_for PassesOwn.never rfl (pi_tup (pe_ix ix_tup (pv 0) pe_int (fun _ _ => rfl))) (pg_name (i := 2) sc__law_atoms_of.nd rfl (Or.inl rfl)) (pss_one (ps_set (i := 1) sc__law_atoms_of.nd rfl (Or.inl rfl) (pe_op op_cat (pv 1) (pe_c c__law_atoms_of hr (hk := Nat.le_refl _) (ha := (pa_cons (pv 2) pa_nil)))))))
        (pss_one (ps_ret (pe_op op_cat (pv 1) (pe_lst (pa_cons (pe_ix ix_tup (pv 0) pe_int (fun _ _ => rfl)) pa_nil))))))), ?_⟩
      obtain ⟨a, b, us, rfl, q1, q2, q3⟩ := dp_kd d
      have hpa := plc_args k
      have hoa := ordK_args k
      have hl : us.length = k.args.length := by have := dpAll_length q3; rwa [kdDs_length] at this
      refine ⟨Nat.zero_le _, fun R hR => ?_⟩
      have sR := same_new (o := .lst []) hR
      refine ⟨_, rfl, a, _, 0, _, rfl, rfl, SqT.same sR q1, rfl, b, rfl, ⟨us, SqT.same sR q2⟩, ?_⟩
      refine for_it walk_tup (fun i σ H2 => ∃ R sl, σ = [some (V.ref a), some (V.ref R), sl] ∧ H2 R = some (.lst ((atomsKs (k.args.take i)).map V.str)) ∧ Same H H2) ⟨_, _, rfl, upd_same, sR⟩ (fun i σ H2 _ ⟨_, _, _, _, s2⟩ => SqT.same s2 q2) (fun i z σ H2 H3 hi ⟨R, sl, hσ, hR2, s2⟩ y => ?_) (fun σ H2 ⟨R, sl, hσ, hR2, s2⟩ => ?_)
      · subst hσ
        obtain ⟨rfl, hz⟩ := y
        obtain ⟨k1, hk1, d1⟩ := dpAll_getV q3 hz
        have hm1 := List.mem_of_getElem? hk1
        have ho1 := ordKs_mem hm1
        have hp1 := plcs_mem hm1
        have ht := plcs_take k.args i
        refine ⟨_, rfl, _, rfl, z, k1, rfl, Dp.same s2 d1, by omega, by omega, fun p H4 s4 hpn hp4 => ?_⟩
        refine ⟨R, p, _, _, rfl, rfl, s4 _ _ hR2, hp4, szl (by rw [List.length_map, List.length_map, atomsKs_len, atomsK_len]; omega), fun q hq => ?_⟩
        have s5 := same_new (o := .lst ((atomsKs (k.args.take i)).map V.str ++ (atomsK k1).map V.str)) hq
        refine ⟨q, _, rfl, ?_, Same.trans s2 (Same.trans s4 s5)⟩
        rw [upd_same, take_snoc hk1, atomsKs_snoc, List.map_append]
      · subst hσ
        rw [show k.args.take us.length = k.args by rw [hl]; exact List.take_length] at hR2
        refine ⟨_, rfl, _, rfl, a, _, 1, _, rfl, rfl, SqT.same s2 q1, rfl, szl (by show 1 ≤ 16777216; decide), fun p hp0 => ?_⟩
        have s4 := same_new (o := .lst [V.str k.atom]) hp0
        refine ⟨R, p, _, _, rfl, rfl, s4 _ _ hR2, upd_same, szl (by rw [List.length_map, atomsKs_len]; show _ + 1 ≤ _; omega), fun q hq => ?_⟩
        have s24 := Same.trans s2 s4
        have s5 := same_new (o := .lst ((atomsKs k.args).map V.str ++ [V.str k.atom])) hq
        refine k0 q _ (Same.trans s24 s5) (Same.free s24 hq) ?_
        rw [upd_same, atomsK_args, List.map_append]
        rfl
/-! ### _law_kinds_under -/
abbrev s__law_kinds_under : Stmt := top 83
abbrev N__law_kinds_under : List Str := ["_law_kind_here", "_law_found", "_law_one"]
theorem sc__law_kinds_under : FnScope N__law_kinds_under ["_law_kind_here"] (defScope s__law_kinds_under) := ⟨rfl, rfl, rfl, by decide +kernel, rfl, by decide +kernel, by decide +kernel⟩
def sp_law_kinds_under (K : PySem.W.Frag) (n : Nat) : Sp := fun vs H Q _ => ∃ v k, vs = [v] ∧ Dp K H v (kdD k) ∧ plc k ≤ 15 ∧ ordK k < n ∧ ∀ p ws H', Same H H' → H p = none → H' p = some (.lst ws) → DpAll K H' ws (kdDs (undersK k)) → Q (.ref p) H'
theorem dpAll_same {K : PySem.W.Frag} {H H' : Hp} (s : Same H H') {vs : List V} {ks : List Kd} (h : DpAll K H vs (kdDs ks)) : DpAll K H' vs (kdDs ks) := by
  rw [kdDs_map] at *
  generalize ks.map kdD = ds at h
  induction ds generalizing vs with
  | nil => cases h; exact .nil
  | cons d ds ih =>
    cases h with
    | cons h t => exact .cons (Dp.same s h) (ih t)
theorem ok_law_kinds_under {f : Addr} {fd : FuncData} (F : Fun K "_law_kinds_under" "_law_kinds_under" s__law_kinds_under f fd) (hm : mg "_law_kinds_under" = some (.ref f)) (hkp : PySem.W.keepIn K (.ref f) = true) (hbd : Binds K fd ["_law_kind_here"] []) : ∀ n : Nat, FnOk P w K mg base CX0 (n + 1) f fd ["_law_kind_here"] (sp_law_kinds_under K n)
  | 0 => ⟨fun vs H Q E h => by obtain ⟨v, k, _, _, _, z, _⟩ := h; omega, fun A outer s H args us vs Q E hr e0 hb r q => by obtain ⟨v, k, _, _, _, z, _⟩ := q; omega⟩
  | n + 1 => by
    have c__law_kinds_under : Cal P w K mg base CX0 (n + 1) "_law_kinds_under" (sp_law_kinds_under K n) := ⟨f, fd, _, ok_law_kinds_under F hm hkp hbd n, hm, hkp, hbd⟩
    refine F.ok sc__law_kinds_under (fun vs H Q E h => ?_) (fun cdv A outer s H vs Q E hr h => ?_)
    · obtain ⟨v, k, rfl, _⟩ := h
      rfl
    · obtain ⟨v, k, rfl, d, hp, hn, k0⟩ := h
      refine ⟨_, (pss_cons (ps_set (i := 1) sc__law_kinds_under.nd rfl (Or.inl rfl) (pe_lst (pa_cons (pv 0) pa_nil)))
        (pss_cons (ps_for PassesOwn.never rfl (pi_tup (pe_ix ix_tup (pv 0) pe_int (fun _ _ => rfl))) (pg_name (i := 2) sc__law_kinds_under.nd rfl (Or.inl rfl)) (pss_one (ps_set (i := 1) sc__law_kinds_under.nd rfl (Or.inl rfl) (pe_op op_cat (pv 1) (pe_c c__law_kinds_under hr (hk := Nat.le_refl _) (ha := (pa_cons (pv 2) pa_nil)))))))
        (pss_one (ps_ret (pv 1))))), ?_⟩
      have d0 := d
      obtain ⟨a, b, us, rfl, q1, q2, q3⟩ := dp_kd d
      have hpa := plc_args k
      have hoa := ordK_args k
      have hl : us.length = k.args.length := by have := dpAll_length q3; rwa [kdDs_length] at this
      refine ⟨_, rfl, szl (by show 1 ≤ 16777216; decide), fun R hR => ?_⟩
      have sR := same_new (o := .lst [V.ref a]) hR
      refine ⟨_, rfl, a, _, 0, _, rfl, rfl, SqT.same sR q1, rfl, b, rfl, ⟨us, SqT.same sR q2⟩, ?_⟩
      refine for_it walk_tup (fun i σ H2 => ∃ R sl ws, σ = [some (V.ref a), some (V.ref R), sl] ∧ H2 R = some (.lst ws) ∧ DpAll K H2 ws (kdDs (k :: undersKs (k.args.take i))) ∧ H R = none ∧ Same H H2) ⟨_, _, _, rfl, upd_same, .cons (Dp.same sR d0) .nil, hR, sR⟩ (fun i σ H2 _ ⟨_, _, _, _, _, _, _, s2⟩ => SqT.same s2 q2) (fun i z σ H2 H3 hi ⟨R, sl, ws, hσ, hR2, hws, hRn, s2⟩ y => ?_) (fun σ H2 ⟨R, sl, ws, hσ, hR2, hws, hRn, s2⟩ => ?_)
      · subst hσ
        obtain ⟨rfl, hz⟩ := y
        obtain ⟨k1, hk1, d1⟩ := dpAll_getV q3 hz
        have hm1 := List.mem_of_getElem? hk1
        have ho1 := ordKs_mem hm1
        have hp1 := plcs_mem hm1
        have ht := plcs_take k.args i
        have hwl : ws.length = 1 + plcs (k.args.take i) := by
          have := dpAll_length hws
          rw [kdDs_length, List.length_cons, undersKs_len] at this
          omega
        refine ⟨_, rfl, _, rfl, z, k1, rfl, Dp.same s2 d1, by omega, by omega, fun p ws2 H4 s4 hpn hp4 hw4 => ?_⟩
        have hwl2 : ws2.length = plc k1 := by
          have := dpAll_length hw4
          rwa [kdDs_length, undersK_len] at this
        refine ⟨R, p, _, _, rfl, rfl, s4 _ _ hR2, hp4, szl (by omega), fun q hq => ?_⟩
        have s24 := Same.trans s2 s4
        have s5 := same_new (o := .lst (ws ++ ws2)) hq
        refine ⟨q, _, _, rfl, upd_same, ?_, Same.free s24 hq, Same.trans s24 s5⟩
        rw [take_snoc hk1, undersKs_snoc]
        exact dpAll_cat (ks := k :: undersKs (k.args.take i)) (dpAll_same (Same.trans s4 s5) hws) (dpAll_same s5 hw4)
      · subst hσ
        rw [show k.args.take us.length = k.args by rw [hl]; exact List.take_length, ← undersK_args] at hws
        exact ⟨_, rfl, k0 R ws H2 s2 hRn hR2 hws⟩
end
end Fp
/-! W27: _law_made_kind, _law_kind -/
namespace Fp
open PySem PySem.Spec PyProof.Rows L2 TL
section
variable {P : Program} {w : World} {K : PySem.W.Frag} {mg : Str → Option Value} {base : Heap}
abbrev s__law_made_kind : Stmt := top 76
abbrev N__law_made_kind : List Str := ["_law_kind_here", "_law_one"]
theorem sc__law_made_kind : FnScope N__law_made_kind ["_law_kind_here"] (defScope s__law_made_kind) := ⟨rfl, rfl, rfl, by decide +kernel, rfl, by decide +kernel, by decide +kernel⟩
def sp_law_made_kind (K : PySem.W.Frag) (CT : Addr) (n : Nat) : Sp := fun vs H Q _ => ∃ v k, vs = [v] ∧ Dp K H v (kdD k) ∧ wds k = true ∧ plc k ≤ 15 ∧ ordK k < n ∧ ordK k ≤ 4 ∧ ∀ v' H', Same H H' → TyO K CT H' v' k → Q v' H'
theorem ok_law_made_kind {CT CI f : Addr} {fd : FuncData} (F : Fun K "_law_made_kind" "_law_made_kind" s__law_made_kind f fd) (N : Nm mg) (T : Tyf K mg CT) (hm : mg "_law_made_kind" = some (.ref f)) (hkp : PySem.W.keepIn K (.ref f) = true) (hbd : Binds K fd ["_law_kind_here"] [])
    (c_make : MkC P w K mg base (L2.CX P w) 2 "Type" CT (sp_Type_init K CT CI) []) : ∀ n : Nat, FnOk P w K mg base CX0 (n + 3) f fd ["_law_kind_here"] (sp_law_made_kind K CT n)
  | 0 => ⟨fun vs H Q E h => by obtain ⟨v, k, _, _, _, _, z, _⟩ := h; omega, fun A outer s H args us vs Q E hr e0 hb r q => by obtain ⟨v, k, _, _, _, _, z, _⟩ := q; omega⟩
  | n + 1 => by
    have c_in : Cal P w K mg base CX0 (n + 3) "_law_made_kind" (sp_law_made_kind K CT n) := ⟨f, fd, _, ok_law_made_kind F N T hm hkp hbd c_make n, hm, hkp, hbd⟩
    refine FnOk.quiet (sp := sp_law_made_kind K CT (n + 1)) (F.okX sc__law_made_kind (fun vs H Q E h => ?_) (fun cdv A outer s H vs Q E hr h => ?_)) (fun vs H Q E h => h)
    · obtain ⟨v, k, rfl, _⟩ := h
      rfl
    · obtain ⟨v, k, rfl, d, hw, hp, hn, h5, kQ⟩ := h
      refine ⟨_, (pss_one (ps_ret (pe_mkx c_make hr (passes_call (takes_of rfl rfl rfl rfl) (fun _ _ _ _ h => h)) (hk := by omega) (ha := (pa_cons (pe_callTy call_tuple_of (by rfl) N.tuple (by decide +kernel) (pa_cons (pe_lc (own := [("_law_one", 1)]) (g := gName 1) (tt := tYes) (te := tCall (sp_law_made_kind K CT n) [] E0 (tCons (tVar 1) tNil)) rfl sc__law_made_kind.nd (pi_tup (pe_ix ix_tup (pv 0) pe_int (fun _ _ => rfl))) (blkOk_by (N := N__law_made_kind) (sc := defScope s__law_made_kind) (by decide +kernel)) (fun _ _ _ _ _ => pg_name (i := 1) sc__law_made_kind.nd rfl (Or.inl rfl)) (fun _ _ _ _ _ => pts_nil) (fun _ _ _ _ _ => (pe_c c_in hr (hk := Nat.le_refl _) (ha := (pa_cons (pv 1) pa_nil))))) pa_nil)) (pa_cons (pe_ix ix_tup (pv 0) pe_int (fun _ _ => rfl)) pa_nil)))))), ?_⟩
      obtain ⟨a, b, us, rfl, q1, q2, q3⟩ := dp_kd d
      have hwa := wds_args hw
      have hpa := plc_args k
      have hoa := ordK_args k
      have hl : us.length = k.args.length := by have := dpAll_length q3; rwa [kdDs_length] at this
      have hpl := plcs_length k.args
      refine ⟨_, rfl, a, _, 0, _, rfl, rfl, q1, rfl, b, rfl, ⟨_, q2⟩, fun D hD => ?_⟩
      refine lc_same (tt := tYes) (te := tCall (sp_law_made_kind K CT n) [] E0 (tCons (tVar 1) tNil)) walk_tup hD (by omega) (fun H2 s2 => SqT.same s2 q2) (fun i acc H => TyOs K CT H acc (k.args.take i)) (fun i acc H H' l hl s r => r.sameL (s.sL hl rfl)) (fun H2 => .nil) (fun i acc H2 r => by rw [r.length, List.length_take]; omega) (fun i z H2 H3 acc hi s2 hl2 r y Qy Qn hy hn => ?_) (fun H2 acc s2 hacc r => ?_)
      · obtain ⟨rfl, hz⟩ := y
        obtain ⟨k1, hk1, d1⟩ := dpAll_getV q3 hz
        have hm1 := List.mem_of_getElem? hk1
        have etk := take_snoc hk1
        have ho1 := ordKs_mem hm1
        have hp1 := plcs_mem hm1
        refine ⟨rfl, _, rfl, z, k1, rfl, Dp.same s2 d1, wdss_mem hwa.2 hm1, by omega, by omega, by omega, fun v' H4 s4 ty => hy _ _ s4 ?_⟩
        rw [etk]
        exact (r.same s4).snoc ty
      · rw [List.take_of_length_le (by omega)] at r
        refine ⟨D, acc, rfl, .inl ⟨SqL.of hacc, fun l hl => ?_⟩⟩
        have s3 := Same.trans s2 (same_new (o := .tup acc) hl)
        refine ⟨_, rfl, a, _, 1, _, rfl, rfl, SqT.same s3 q1, rfl, fun o dx ho hdx hne => ?_⟩
        have ek : Kd.mk k.args k.atom = k := Kd.eta k
        refine ⟨upd H2 l (.tup acc), o, dx, l, acc, k.args, k.atom, rfl, same_upd (same_new hdx) (by rw [upd_ne hne.symm]; exact ho), ho, upd_same, SqT.of upd_same, r.same (same_new hl), by rw [ek]; exact hw, by rw [ek]; omega, fun hf H4 s4 ty => ⟨rfl, ?_⟩, fun hf H4 s4 => ?_⟩
        · rw [ek] at hf ty
          exact kQ _ _ (Same.trans s3 s4) ty
        · rw [ek] at hf
          exact absurd ⟨hp, h5⟩ hf
/-! ### _law_kind -/
abbrev s__law_kind : Stmt := top 75
abbrev N__law_kind : List Str := ["_law_dice_here", "_law_atoms", "_law_order", "_law_most", "_law_inputs", "_law_left", "_law_turn", "_law_size", "_law_one"]
theorem sc__law_kind : FnScope N__law_kind ["_law_dice_here", "_law_atoms", "_law_order", "_law_most"] (defScope s__law_kind) := ⟨rfl, rfl, rfl, by decide +kernel, rfl, by decide +kernel, by decide +kernel⟩
/-- a drawn kind: its atoms, places, order -/
def KdIn (A : List Str) (m o : Nat) (k : Kd) : Prop := (∀ x ∈ atomsK k, x ∈ A) ∧ plc k ≤ m ∧ ordK k ≤ o
def sp_law_kind (K : PySem.W.Frag) (n : Nat) : Sp := fun vs H Q _ => ∃ (D p : Addr) (A : List Str) (o m : Nat), vs = [.ref D, .ref p, .int (o : Int), .int (m : Int)] ∧ DiO H D ∧ SqL K H p (A.map V.str) ∧ p ≠ D ∧ A ≠ [] ∧ A.length ≤ 1000 ∧ 1 ≤ m ∧ m ≤ 15 ∧ o < n ∧ ∀ v k H', SameB D H H' → DiO H' D → Dp K H' v (kdD k) → KdIn A m o k → Q v H'
theorem atomsKs_mem {ks : List Kd} {x : Str} (h : x ∈ atomsKs ks) : ∃ k ∈ ks, x ∈ atomsK k := by
  induction ks with
  | nil => rw [atomsKs] at h; cases h
  | cons k ks ih =>
    rw [atomsKs] at h
    rcases List.mem_append.mp h with h | h
    · exact ⟨k, by simp, h⟩
    · obtain ⟨k', h1, h2⟩ := ih h
      exact ⟨k', by simp [h1], h2⟩
theorem SameB.put {D R : Addr} {H H' : Hp} {o : HO} (s : SameB D H H') (hR : H R = none) : SameB D H (upd H' R o) := fun b u hb e => by
  rw [upd_ne (ne_of_none e hR)]
  exact s b u hb e
theorem DiO.put {H : Hp} {D R : Addr} {o : HO} (h : DiO H D) (hR : R ≠ D) : DiO (upd H R o) D := by
  obtain ⟨x, y, z, h⟩ := h
  exact ⟨x, y, z, by rw [upd_ne hR.symm]; exact h⟩
theorem dice_sL {D : Addr} {H H' : Hp} (s : SameB D H H') (h : DiO H D) : SameL H H' := by
  obtain ⟨x, y, z, h⟩ := h
  exact SameB.sL s h rfl
theorem ok_law_kind {f : Addr} {fd : FuncData} (F : Fun K "_law_kind" "_law_kind" s__law_kind f fd) (N : Nm mg) (hm : mg "_law_kind" = some (.ref f)) (hkp : PySem.W.keepIn K (.ref f) = true) (hbd : Binds K fd ["_law_dice_here", "_law_atoms", "_law_order", "_law_most"] [])
    (c__law_roll : Cal P w K mg base CX0 1 "_law_roll" sp_law_roll) (c__law_pick : Cal P w K mg base CX0 2 "_law_pick" (sp_law_pick K)) (c__law_atoms_of : ∀ n, Cal P w K mg base CX0 (n + 1) "_law_atoms_of" (sp_law_atoms_of K n)) : ∀ n : Nat, FnOk P w K mg base CX0 (n + 3) f fd ["_law_dice_here", "_law_atoms", "_law_order", "_law_most"] (sp_law_kind K n)
  | 0 => ⟨fun vs H Q E h => by obtain ⟨D, p, A, o, m, _, _, _, _, _, _, _, _, z, _⟩ := h; omega, fun A outer s H args us vs Q E hr e0 hb r q => by obtain ⟨D, p, A, o, m, _, _, _, _, _, _, _, _, z, _⟩ := q; omega⟩
  | n + 1 => by
    have c__law_kind : Cal P w K mg base CX0 (n + 3) "_law_kind" (sp_law_kind K n) := ⟨f, fd, _, ok_law_kind F N hm hkp hbd c__law_roll c__law_pick c__law_atoms_of n, hm, hkp, hbd⟩
    have c_at := c__law_atoms_of (n + 1)
    refine F.ok sc__law_kind (fun vs H Q E h => ?_) (fun cdv A outer s H vs Q E hr h => ?_)
    · obtain ⟨D, p, A, o, m, rfl, _⟩ := h
      rfl
    · obtain ⟨D, p, A, o, m, rfl, hD, hp, hne, hA0, hAl, hm1, hm2, hon, kQ⟩ := h
      refine ⟨_, (pss_cons (ps_par (i := 4) (j := 5) (by rfl) sc__law_kind.nd rfl rfl (by decide) rfl rfl (pa_cons (pe_lst pa_nil) (pa_cons (pe_op op_sub (pv 3) pe_int) pa_nil)) (by rfl))
        (pss_cons (ps_for PassesOwn.never rfl (pi_range1 (by rfl) N.range (pa_cons (pe_ifExp (pt_cmpR op_gt (pv 2) pe_int (nomark _)) (pe_c c__law_roll hr (hk := by omega) (ha := (pa_cons (pv 0) (pa_cons pe_int pa_nil)))) pe_int) pa_nil)) (pg_name (i := 6) sc__law_kind.nd rfl (Or.inl rfl)) (pss_one (ps_if (pt_cmpR op_gt (pv 5) pe_int (nomark _)) (pss_cons (ps_set (i := 7) sc__law_kind.nd rfl (Or.inl rfl) (pe_c c__law_pick hr (hk := by omega) (ha := (pa_cons (pv 0) (pa_cons (pe_lst (pa_cons pe_int (pa_cons (pe_callB (call_min2 rfl) (by rfl) N.min (by decide +kernel) (pa_cons pe_int (pa_cons (pv 5) pa_nil))) (pa_cons (pv 5) pa_nil)))) pa_nil)))))
        (pss_cons (ps_set (i := 8) sc__law_kind.nd rfl (Or.inl rfl) (pe_c c__law_kind hr (hk := Nat.le_refl _) (ha := (pa_cons (pv 0) (pa_cons (pv 1) (pa_cons (pe_c c__law_pick hr (hk := by omega) (ha := (pa_cons (pv 0) (pa_cons (pe_lst (pa_cons pe_int (pa_cons pe_int (pa_cons (pe_op op_sub (pv 2) pe_int) pa_nil)))) pa_nil)))) (pa_cons (pv 7) pa_nil)))))))
        (pss_cons (ps_expr (pe_bm PySem.F.plainAttrs_list PySem.F.slot_list_append PySem.F.type_list_append mt_append (pv 4) (pa_cons (pv 8) pa_nil)))
        (pss_one (ps_set (i := 5) sc__law_kind.nd rfl (Or.inl rfl) (pe_op op_sub (pv 5) (pe_callB call_len_seq (by rfl) N.len (by decide +kernel) (pa_cons (pe_c c_at hr (hk := by omega) (ha := (pa_cons (pv 8) pa_nil))) pa_nil)))))))) pss_nil)))
        (pss_one (ps_ret (pe_tup (pa_cons (pe_callTy call_tuple_of (by rfl) N.tuple (by decide +kernel) (pa_cons (pv 4) pa_nil)) (pa_cons (pe_c c__law_pick hr (hk := by omega) (ha := (pa_cons (pv 0) (pa_cons (pv 1) pa_nil)))) pa_nil))))))), ?_⟩
      refine ⟨Nat.zero_le _, fun R hR => ?_⟩
      have sR := same_new (o := .lst []) hR
      have hR1 : (upd H R (.lst [])) R = some (.lst []) := upd_same
      have hRD := hD.ne hR
      generalize (upd H R (.lst [])) = H1 at *
      refine ⟨_, rfl, _, _, rfl, rfl, _, _, rfl, ?_⟩
      have rd : ∀ Qv : VK, (∀ (j : Nat) H2, j ≤ 3 → (o = 0 → j = 0) → SameB D H1 H2 → DiO H2 D → Qv (.int (j : Int)) H2) → tIf (tTest (tOp (rI0 fun i j => V.bl (decide (j < i))) (tVar 2) (tC (V.int 0)))) (tCall sp_law_roll [] E0 (tCons (tVar 0) (tCons (tC (V.int 4)) tNil))) (tC (V.int 0)) [some (.ref D), some (.ref p), some (.int (o : Int)), some (.int (m : Int)), some (.ref R), some (.int ((m : Int) - 1)), none, none, none] H1 Qv := fun Qv kq => by
        by_cases ho : o = 0
        · exact ⟨_, rfl, _, _, rfl, rfl, _, rfl, iteFo (decide_eq_false (by omega)) (kq 0 _ (by decide) (fun _ => rfl) (sB (Same.refl _)) (hD.same sR))⟩
        · exact ⟨_, rfl, _, _, rfl, rfl, _, rfl, iteTo (decide_eq_true (by omega)) ⟨_, rfl, D, 4, rfl, hD.same sR, by decide, by decide, fun r H2 h1 h2 h3 => kq r H2 (by omega) (fun z => absurd z ho) h2 h3⟩⟩
      refine rd _ fun j H2 hj hj0 hs2 hD2 => ?_
      refine ⟨(j : Int), rfl, by omega, by omega, ?_⟩
      rw [show ((j : Nat) : Int).toNat = j from rfl]
      have em : (m : Int) - 1 = ((m - 1 : Nat) : Int) := by omega
      refine for_it walk_range (fun i σ H3 => ∃ (left : Nat) (vs : List V) (ks : List Kd) (s6 s7 s8 : Option V), σ = [some (.ref D), some (.ref p), some (.int (o : Int)), some (.int (m : Int)), some (.ref R), some (.int (left : Int)), s6, s7, s8] ∧ H3 R = some (.lst vs) ∧ DpAll K H3 vs (kdDs ks) ∧ plcs ks + left + 1 = m ∧ (∀ k ∈ ks, (∀ x ∈ atomsK k, x ∈ A) ∧ ordK k + 1 ≤ o) ∧ SameB D H H3 ∧ DiO H3 D)
        ⟨m - 1, [], [], _, _, _, by rw [← em]; rfl, hs2 _ _ hRD hR1, .nil, by rw [plcs_nil]; omega, (fun k hk => by cases hk), (sB sR).trans hs2, hD2⟩ (fun _ _ _ _ _ => True.intro) (fun i x σ Hx H3 hi ⟨left, vs, ks, s6, s7, s8, hσ, hR3, hdp, hpl, hks, hs3, hD3⟩ y => ?_) (fun σ H3 ⟨left, vs, ks, s6, s7, s8, hσ, hR3, hdp, hpl, hks, hs3, hD3⟩ => ?_)
      · subst hσ
        obtain ⟨rfl, rfl⟩ := y
        have ho1 : 1 ≤ o := by
          by_cases z : o = 0
          · have := hj0 z; omega
          · omega
        refine ⟨_, rfl, _, _, rfl, rfl, _, rfl, ?_⟩
        by_cases hleft : left = 0
        · exact iteFo (decide_eq_false (by omega)) ⟨left, vs, ks, _, _, _, rfl, hR3, hdp, hpl, hks, hs3, hD3⟩
        refine iteTo (decide_eq_true (by omega)) ?_
        refine ⟨_, rfl, _, rfl, _, _, rfl, _, rfl, szl (by show 3 ≤ 16777216; decide), fun q hq => ?_⟩
        refine ⟨D, q, _, rfl, hD3.same (same_new hq), SqL.of upd_same, hD3.ne hq, by show 1 ≤ 3; decide, by show 3 ≤ 1000000; decide, fun v H5 hv hs5 hD5 => ?_⟩
        obtain ⟨sz, rfl, hsz1, hsz2⟩ : ∃ sz : Nat, v = .int (sz : Int) ∧ 1 ≤ sz ∧ sz ≤ left := by
          simp only [List.mem_cons, List.not_mem_nil, or_false] at hv
          rcases hv with rfl | rfl | rfl
          · exact ⟨1, rfl, Nat.le_refl _, by omega⟩
          · by_cases h3 : (left : Int) < 3
            · exact ⟨left, by rw [if_pos h3], by omega, Nat.le_refl _⟩
            · exact ⟨3, by rw [if_neg h3]; rfl, by decide, by omega⟩
          · exact ⟨left, rfl, by omega, Nat.le_refl _⟩
        have hs35 : SameB D H3 H5 := SameB.new hq hs5
        have hs05 := hs3.trans hs35
        refine ⟨_, rfl, _, rfl, _, rfl, _, rfl, _, _, rfl, rfl, szl (by show 3 ≤ 16777216; decide), fun q2 hq2 => ?_⟩
        refine ⟨D, q2, _, rfl, hD5.same (same_new hq2), SqL.of upd_same, hD5.ne hq2, by show 1 ≤ 3; decide, by show 3 ≤ 1000000; decide, fun v2 H6 hv2 hs6 hD6 => ?_⟩
        obtain ⟨o2, rfl, ho2⟩ : ∃ o2 : Nat, v2 = .int (o2 : Int) ∧ o2 + 1 ≤ o := by
          simp only [List.mem_cons, List.not_mem_nil, or_false] at hv2
          rcases hv2 with rfl | rfl | rfl
          · exact ⟨0, rfl, ho1⟩
          · exact ⟨0, rfl, ho1⟩
          · exact ⟨o - 1, by congr 1; omega, by omega⟩
        have hs36 : SameB D H3 H6 := hs35.trans (SameB.new hq2 hs6)
        have hs06 := hs3.trans hs36
        refine ⟨_, rfl, D, p, A, o2, sz, rfl, hD6, SqL.sameB hs06 hne hp, hne, hA0, hAl, hsz1, by omega, by omega, fun v3 k3 H7 hs7 hD7 d3 hk3 => ?_⟩
        have hs37 : SameB D H3 H7 := hs36.trans hs7
        have hs07 := hs3.trans hs37
        have hR7 := hs37 _ _ hRD hR3
        have sl : SameL H3 H7 := dice_sL hs37 hD3
        have sl8 : SameL H7 (upd H7 R (.lst (vs ++ [v3]))) := sameL_upd hR7 rfl
        obtain ⟨hka, hkp, hko⟩ := hk3
        have hvl : vs.length = ks.length := by have := dpAll_length hdp; rwa [kdDs_length] at this
        have hkl := plcs_length ks
        refine ⟨_, rfl, .inl ⟨rfl, _, SqL.of hR7⟩, _, rfl, R, vs, v3, rfl, rfl, hR7, szlt (by omega), ?_⟩
        have d8 : Dp K (upd H7 R (.lst (vs ++ [v3]))) v3 (kdD k3) := Dp.sameL sl8 (noL_kd k3) d3
        have dp8 : DpAll K (upd H7 R (.lst (vs ++ [v3]))) vs (kdDs ks) := DpAll.sameL (SameL.trans sl sl8) (noL_kds ks) hdp
        have hR8 : (upd H7 R (.lst (vs ++ [v3]))) R = some (.lst (vs ++ [v3])) := upd_same
        have hs08 : SameB D H (upd H7 R (.lst (vs ++ [v3]))) := hs07.put hR
        have hD8 : DiO (upd H7 R (.lst (vs ++ [v3]))) D := hD7.put hRD
        generalize (upd H7 R (.lst (vs ++ [v3]))) = H8 at *
        refine ⟨_, rfl, _, rfl, v3, k3, rfl, d8, by omega, by omega, fun q3 H9 s9 _ hq3 => ?_⟩
        refine ⟨q3, _, rfl, .inl (SqL.of hq3), _, _, rfl, rfl, ?_⟩
        have hlv : (left : Int) - (((atomsK k3).map V.str).length : Int) = ((left - plc k3 : Nat) : Int) := by
          rw [List.length_map, atomsK_len]
          omega
        refine ⟨left - plc k3, vs ++ [v3], ks ++ [k3], some (V.int (0 + (i : Int))), some (V.int (sz : Int)), some v3, by rw [← hlv]; rfl, s9 _ _ hR8, dpAll_cat (dpAll_same s9 dp8) (.cons (Dp.same s9 d8) .nil), ?_, ?_, hs08.trans (sB s9), hD8.same s9⟩
        · have : ∀ l : List Kd, plcs (l ++ [k3]) = plcs l + plc k3 := fun l => by
            induction l with
            | nil => rw [List.nil_append, plcs_cons, plcs_nil]; omega
            | cons a l ih => rw [List.cons_append, plcs_cons, plcs_cons, ih]; omega
          rw [this]
          omega
        · intro k hk
          rcases List.mem_append.mp hk with hk | hk
          · exact hks k hk
          · rw [List.mem_singleton.mp hk]
            exact ⟨hka, by omega⟩
      · subst hσ
        have hvl : vs.length = ks.length := by have := dpAll_length hdp; rwa [kdDs_length] at this
        have hkl := plcs_length ks
        refine ⟨_, rfl, R, _, rfl, .inl ⟨SqL.of hR3, fun l hl => ?_⟩⟩
        have hlD := hD3.ne hl
        refine ⟨_, rfl, _, rfl, D, p, _, rfl, hD3.same (same_new hl), SqL.sameB (hs3.trans (sB (same_new hl))) hne hp, hne, ?_, by rw [List.length_map]; omega, fun v H5 hv hs5 hD5 => ?_⟩
        · rw [List.length_map]
          exact List.length_pos_iff.mpr hA0
        obtain ⟨x, hx, rfl⟩ := List.mem_map.mp hv
        have hl5 : H5 l = some (.tup vs) := hs5 _ _ hlD upd_same
        have sl5 : SameL H3 H5 := SameL.trans (sL (same_new hl)) (dice_sL hs5 (hD3.same (same_new hl)))
        refine ⟨szl (by show 2 ≤ 16777216; decide), fun q hq => ?_⟩
        have s6 := same_new (o := .tup [V.ref l, V.str x]) hq
        refine kQ _ (.mk ks x) _ (hs3.trans ((SameB.new hl hs5).trans (sB s6))) (hD5.same s6) (dp_mk (SqT.of upd_same) (SqT.of (s6 _ _ hl5)) (dpAll_same s6 (DpAll.sameL sl5 (noL_kds ks) hdp))) ⟨?_, by rw [plc_mk]; omega, by rw [ordK_mk]; exact ordKs_le fun k hk => (hks k hk).2⟩
        intro z hz
        rw [atomsK_args] at hz
        rcases List.mem_append.mp hz with hz | hz
        · obtain ⟨k', h1, h2⟩ := atomsKs_mem hz
          exact (hks k' h1).1 z h2
        · rw [List.mem_singleton.mp hz]
          exact hx
end
end Fp
/-! W28: _law_library -/
namespace Fp
open PySem PySem.Spec PyProof.Rows L2 TL
/-- a dict's entries are these parts, the kinds as tuples -/
inductive KvD (K : PySem.W.Frag) (H : Hp) : List (Key × V) → List (Str × Kd) → Prop
  | nil : KvD K H [] []
  | cons {v : V} {x : Str} {k : Kd} {kvs : List (Key × V)} {ps : List (Str × Kd)} (h : Dp K H v (kdD k)) (t : KvD K H kvs ps) : KvD K H ((.inr x, v) :: kvs) ((x, k) :: ps)
theorem KvD.sameL {K : PySem.W.Frag} {H H' : Hp} (e : SameL H H') : ∀ {kvs : List (Key × V)} {ps : List (Str × Kd)}, KvD K H kvs ps → KvD K H' kvs ps
  | _, _, .nil => .nil
  | _, _, .cons (k := k) h t => .cons (Dp.sameL e (noL_kd k) h) (KvD.sameL e t)
theorem KvD.same {K : PySem.W.Frag} {H H' : Hp} (e : Same H H') {kvs : List (Key × V)} {ps : List (Str × Kd)} (h : KvD K H kvs ps) : KvD K H' kvs ps := h.sameL (sL e)
theorem KvD.length {K : PySem.W.Frag} {H : Hp} : ∀ {kvs : List (Key × V)} {ps : List (Str × Kd)}, KvD K H kvs ps → kvs.length = ps.length
  | _, _, .nil => rfl
  | _, _, .cons h t => by rw [List.length_cons, List.length_cons, t.length]
theorem KvD.get {K : PySem.W.Frag} {H : Hp} : ∀ {kvs : List (Key × V)} {ps : List (Str × Kd)} {i : Nat} {c : Key} {v : V}, KvD K H kvs ps → kvs[i]? = some (c, v) → ∃ x k, ps[i]? = some (x, k) ∧ c = .inr x ∧ Dp K H v (kdD k)
  | _, _, 0, c, v, .cons h t, e => by
    have e' := Option.some.inj e
    cases e'
    exact ⟨_, _, rfl, rfl, h⟩
  | _, _, i + 1, c, v, .cons h t, e => t.get (i := i) e
theorem KvD.snoc {K : PySem.W.Frag} {H : Hp} : ∀ {kvs : List (Key × V)} {ps : List (Str × Kd)} {x : Str} {v : V} {k : Kd}, KvD K H kvs ps → Dp K H v (kdD k) → KvD K H (kvs ++ [(.inr x, v)]) (ps ++ [(x, k)])
  | _, _, _, _, _, .nil, h => .cons h .nil
  | _, _, _, _, _, .cons h t, h2 => .cons h (t.snoc h2)
theorem KvD.keys {K : PySem.W.Frag} {H : Hp} : ∀ {kvs : List (Key × V)} {ps : List (Str × Kd)}, KvD K H kvs ps → kvs.map (fun kv => kv.1) = (ps.map Prod.fst).map Sum.inr
  | _, _, .nil => rfl
  | _, _, .cons h t => by rw [List.map_cons, List.map_cons, List.map_cons, t.keys]
theorem kvd_val {K : PySem.W.Frag} {H : Hp} (x : Str) : ∀ {kvs : List (Key × V)} {ps : List (Str × Kd)}, KvD K H kvs ps → (valV kvs (.inr x) = none ∧ kOf ps x = none) ∨ ∃ v k, valV kvs (.inr x) = some v ∧ kOf ps x = some k ∧ Dp K H v (kdD k)
  | _, _, .nil => .inl ⟨rfl, rfl⟩
  | _, _, .cons (x := y) (v := v) (k := k) (kvs := kvs) (ps := ps) h t => by
    by_cases e : y = x
    · exact .inr ⟨v, k, valV_pos (p := (Sum.inr y, v)) (by rw [e]), kOf_pos (p := (y, k)) e, h⟩
    · have e2 : ¬ (Sum.inr y : Key) = .inr x := fun z => e (Sum.inr.inj z)
      rw [valV_neg (p := (Sum.inr y, v)) e2, kOf_neg (p := (y, k)) e]
      exact kvd_val x t
def A4 : List Str := ["a", "b", "c", "n"]
/-- a drawn library -/
structure LibP (ps : List (Str × Kd)) : Prop where
  nd : (ps.map Prod.fst).Nodup
  each : ∀ p ∈ ps, isWord p.1 = true ∧ KdIn A4 4 2 p.2
  ne : 1 ≤ ps.length
  le : ps.length ≤ 5
mutual
theorem wds_of_atoms : ∀ k : Kd, (∀ x ∈ atomsK k, isWord x = true) → wds k = true
  | .mk as a, h => by
    rw [wds_mk, Bool.and_eq_true]
    rw [atomsK] at h
    exact ⟨h a (by simp), wdss_of_atoms as fun x hx => h x (by simp [hx])⟩
theorem wdss_of_atoms : ∀ ks : List Kd, (∀ x ∈ atomsKs ks, isWord x = true) → wdss ks = true
  | [], _ => by rw [wdss_nil]
  | k :: ks, h => by
    rw [wdss_cons, Bool.and_eq_true]
    rw [atomsKs] at h
    exact ⟨wds_of_atoms k fun x hx => h x (by simp [hx]), wdss_of_atoms ks fun x hx => h x (by simp [hx])⟩
end
theorem A4_word {x : Str} (h : x ∈ A4) : isWord x = true := by
  have : A4.all isWord = true := by decide +kernel
  exact List.all_eq_true.mp this x h
theorem kdIn_wds {m o : Nat} {k : Kd} (h : KdIn A4 m o k) : wds k = true := wds_of_atoms k fun x hx => A4_word (h.1 x hx)
theorem KdIn.mono {A B : List Str} {m m' o o' : Nat} {k : Kd} (h : KdIn A m o k) (hA : ∀ x ∈ A, x ∈ B) (h1 : m ≤ m') (h2 : o ≤ o') : KdIn B m' o' k := ⟨fun x hx => hA x (h.1 x hx), Nat.le_trans h.2.1 h1, Nat.le_trans h.2.2 h2⟩
section
variable {P : Program} {w : World} {K : PySem.W.Frag} {mg : Str → Option Value} {base : Heap}
def sp_law_library (K : PySem.W.Frag) : Sp := fun vs H Q _ => ∃ D, vs = [.ref D] ∧ DiO H D ∧ ∀ d kvs ps H', SameB D H H' → DiO H' D → H d = none → H' d = some (.dK kvs) → KvD K H' kvs ps → LibP ps → Q (.ref d) H'
abbrev s__law_library : Stmt := top 77
abbrev N__law_library : List Str := ["_law_dice_here", "_law_way", "_law_found", "_law_atoms", "_law_name"]
theorem sc__law_library : FnScope N__law_library ["_law_dice_here"] (defScope s__law_library) := ⟨rfl, rfl, rfl, by decide +kernel, rfl, by decide +kernel, by decide +kernel⟩
theorem SameB.none {D q : Addr} {H H' : Hp} (s : SameB D H H') (hq : q ≠ D) (h : H' q = none) : H q = none := by
  cases e : H q with
  | none => rfl
  | some u =>
    have := s _ _ hq e
    rw [h] at this
    cases this
theorem strs_of_perm {ys zs : List V} {xs : List Str} (h : (ys ++ zs).Perm (xs.map V.str)) (hn : xs.Nodup) : ∃ ns : List Str, ys = ns.map V.str ∧ ns.Nodup ∧ ∀ x ∈ ns, x ∈ xs := by
  obtain ⟨l, hl, e⟩ := perm_lift V.str h xs rfl
  refine ⟨l.take ys.length, ?_, (List.take_sublist _ _).nodup (hl.nodup_iff.mpr hn), fun x hx => hl.mem_iff.mp (List.mem_of_mem_take hx)⟩
  rw [List.map_take, e, List.take_left]
theorem ok_law_library {f : Addr} {fd : FuncData} (F : Fun K "_law_library" "_law_library" s__law_library f fd) (N : Nm mg) (c__law_roll : Cal P w K mg base CX0 1 "_law_roll" sp_law_roll) (c__law_pick : Cal P w K mg base CX0 2 "_law_pick" (sp_law_pick K)) (c__law_some : Cal P w K mg base CX0 2 "_law_some" (sp_law_some K))
    (c__law_kind : Cal P w K mg base CX0 6 "_law_kind" (sp_law_kind K 3)) (c__law_known_library : Cal P w K mg base CX0 3 "_law_known_library" (sp_law_library K)) : FnOk P w K mg base CX0 7 f fd ["_law_dice_here"] (sp_law_library K) := by
  refine F.ok sc__law_library (fun vs H Q E h => ?_) (fun cdv A outer s H vs Q E hr h => ?_)
  · obtain ⟨D, rfl, _⟩ := h
    rfl
  · obtain ⟨D, rfl, hD, k⟩ := h
    refine ⟨_, (pss_cons (ps_par (i := 1) (j := 2) (by rfl) sc__law_library.nd rfl rfl (by decide) rfl rfl (pa_cons (pe_c c__law_roll hr (ha := (pa_cons (pv 0) (pa_cons pe_int pa_nil)))) (pa_cons pe_dnewK pa_nil)) (by rfl))
      (pss_cons (ps_if (pt_cmpR op_eq (pv 1) pe_int (nomark _)) (pss_one (ps_ret (pe_c c__law_known_library hr (ha := (pa_cons (pv 0) pa_nil))))) pss_nil)
      (pss_cons (ps_set (i := 3) sc__law_library.nd rfl (Or.inl rfl) (pe_c c__law_pick hr (ha := (pa_cons (pv 0) (pa_cons (pe_lst (pa_cons (pe_lst (pa_cons pe_str (pa_cons pe_str pa_nil))) (pa_cons (pe_lst (pa_cons pe_str (pa_cons pe_str (pa_cons pe_str pa_nil)))) (pa_cons (pe_lst (pa_cons pe_str (pa_cons pe_str (pa_cons pe_str pa_nil)))) pa_nil)))) pa_nil)))))
      (pss_cons (ps_for PassesOwn.never rfl (pi_list (pe_c c__law_some hr (ha := (pa_cons (pv 0) (pa_cons (pe_lst (pa_cons pe_str (pa_cons pe_str (pa_cons pe_str (pa_cons pe_str (pa_cons pe_str pa_nil)))))) (pa_cons (pe_op op_add pe_int (pe_c c__law_roll hr (ha := (pa_cons (pv 0) (pa_cons pe_int pa_nil))))) pa_nil)))))) (pg_name (i := 4) sc__law_library.nd rfl (Or.inl rfl)) (pss_one (ps_asg (pe_c c__law_kind hr (ha := (pa_cons (pv 0) (pa_cons (pv 3) (pa_cons (pe_c c__law_pick hr (ha := (pa_cons (pv 0) (pa_cons (pe_lst (pa_cons pe_int (pa_cons pe_int (pa_cons pe_int (pa_cons pe_int pa_nil))))) pa_nil)))) (pa_cons pe_int pa_nil)))))) (pg_sub (pv 2) (pv 4) (set_dict (hu_of hr))))))
      (pss_one (ps_ret (pv 2))))))), ?_⟩
    refine ⟨_, rfl, D, 8, rfl, hD, by decide, by decide, fun way H1 hway hs1 hD1 => ?_⟩
    intro d hd
    have hdD := hD1.ne hd
    have hdH := hs1.none hdD hd
    have hD2 : DiO (upd H1 d (.dK [])) D := hD1.put hdD
    have hs2 : SameB D H (upd H1 d (.dK [])) := hs1.put hdH
    have hd2 : (upd H1 d (.dK [])) d = some (.dK []) := upd_same
    generalize (upd H1 d (.dK [])) = H2 at *
    refine ⟨_, _, rfl, ?_⟩
    refine ⟨_, rfl, rfl, _, rfl, ?_⟩
    rw [dec_int]
    by_cases hw0 : way = 0
    · refine iteTo (by rw [hw0]; rfl) ⟨_, rfl, D, rfl, hD2, fun d' kvs ps H' h1 h2 h3 h4 h5 h6 => ?_⟩
      exact k d' kvs ps H' (hs2.trans h1) h2 (hs2.none (hD2.ne h3) h3) h4 h5 h6
    refine iteFo (by have : ¬ ((way : Int) = 0) := by omega
                     simpa using this) ?_
    refine ⟨_, rfl, szl (by show 2 ≤ 16777216; decide), fun l1 hl1 => ⟨szl (by show 3 ≤ 16777216; decide), fun l2 hl2 => ⟨szl (by show 3 ≤ 16777216; decide), fun l3 hl3 => ⟨szl (by show 3 ≤ 16777216; decide), fun l4 hl4 => ?_⟩⟩⟩⟩
    have t1 := same_new (o := .lst [V.str "a", V.str "b"]) hl1
    have e1 : (upd H2 l1 (.lst [V.str "a", V.str "b"])) l1 = some (.lst ((["a", "b"] : List Str).map V.str)) := upd_same
    generalize (upd H2 l1 (.lst [V.str "a", V.str "b"])) = H3 at *
    have t2 := same_new (o := .lst [V.str "a", V.str "b", V.str "c"]) hl2
    have e2 : (upd H3 l2 (.lst [V.str "a", V.str "b", V.str "c"])) l2 = some (.lst ((["a", "b", "c"] : List Str).map V.str)) := upd_same
    generalize (upd H3 l2 (.lst [V.str "a", V.str "b", V.str "c"])) = H4 at *
    have t3 := same_new (o := .lst [V.str "a", V.str "b", V.str "c"]) hl3
    have e3 : (upd H4 l3 (.lst [V.str "a", V.str "b", V.str "c"])) l3 = some (.lst ((["a", "b", "c"] : List Str).map V.str)) := upd_same
    generalize (upd H4 l3 (.lst [V.str "a", V.str "b", V.str "c"])) = H5 at *
    have t4 := same_new (o := .lst [V.ref l1, V.ref l2, V.ref l3]) hl4
    have e4 : (upd H5 l4 (.lst [V.ref l1, V.ref l2, V.ref l3])) l4 = some (.lst [V.ref l1, V.ref l2, V.ref l3]) := upd_same
    have hD5 := hD2.same (Same.trans t1 (Same.trans t2 t3))
    have n1 : l1 ≠ D := hD2.ne hl1
    have n2 : l2 ≠ D := (hD2.same t1).ne hl2
    have n3 : l3 ≠ D := (hD2.same (Same.trans t1 t2)).ne hl3
    have n4 : l4 ≠ D := hD5.ne hl4
    have hD6 := hD5.same t4
    have m1 : l1 ≠ d := fun z => by rw [z, hd2] at hl1; cases hl1
    have m2 : l2 ≠ d := fun z => by rw [z, t1 _ _ hd2] at hl2; cases hl2
    have m3 : l3 ≠ d := fun z => by rw [z, t2 _ _ (t1 _ _ hd2)] at hl3; cases hl3
    have e1' := t4 _ _ (t3 _ _ (t2 _ _ e1))
    have e2' := t4 _ _ (t3 _ _ e2)
    have e3' := t4 _ _ e3
    have hs6 : SameB D H (upd H5 l4 (.lst [V.ref l1, V.ref l2, V.ref l3])) := hs2.trans (sB (Same.trans t1 (Same.trans t2 (Same.trans t3 t4))))
    have hd6 := t4 _ _ (t3 _ _ (t2 _ _ (t1 _ _ hd2)))
    generalize (upd H5 l4 (.lst [V.ref l1, V.ref l2, V.ref l3])) = H6 at *
    refine ⟨D, l4, _, rfl, hD6, SqL.of e4, n4, by show 1 ≤ 3; decide, by show 3 ≤ 1000000; decide, fun v H7 hv hs67 hD7 => ?_⟩
    obtain ⟨p, A, rfl, hp7, hpD, hpd, hA, hA0, hAl⟩ : ∃ (p : Addr) (A : List Str), v = .ref p ∧ H7 p = some (.lst (A.map V.str)) ∧ p ≠ D ∧ p ≠ d ∧ (∀ x ∈ A, x ∈ A4) ∧ A ≠ [] ∧ A.length ≤ 3 := by
      simp only [List.mem_cons, List.not_mem_nil, or_false] at hv
      rcases hv with rfl | rfl | rfl
      · exact ⟨l1, _, rfl, hs67 _ _ n1 e1', n1, m1, by decide +kernel, by simp, by decide⟩
      · exact ⟨l2, _, rfl, hs67 _ _ n2 e2', n2, m2, by decide +kernel, by simp, by decide⟩
      · exact ⟨l3, _, rfl, hs67 _ _ n3 e3', n3, m3, by decide +kernel, by simp, by decide⟩
    have hd7 := hs67 _ _ hdD hd6
    have hs7 := hs6.trans hs67
    refine ⟨_, rfl, szl (by show 5 ≤ 16777216; decide), fun q hq => ?_⟩
    have t8 := same_new (o := .lst [V.str "f", V.str "g", V.str "h", V.str "k", V.str "z"]) hq
    have e8 : (upd H7 q (.lst [V.str "f", V.str "g", V.str "h", V.str "k", V.str "z"])) q = some (.lst ((["f", "g", "h", "k", "z"] : List Str).map V.str)) := upd_same
    have n8 : q ≠ D := hD7.ne hq
    have hD8 := hD7.same t8
    have hd8 := t8 _ _ hd7
    have hp8 := t8 _ _ hp7
    have hs8 := hs7.trans (sB t8)
    generalize (upd H7 q (.lst [V.str "f", V.str "g", V.str "h", V.str "k", V.str "z"])) = H8 at *
    refine ⟨_, rfl, D, 5, rfl, hD8, by decide, by decide, fun r H9 hr9 hs89 hD9 => ⟨_, _, rfl, rfl, ?_⟩⟩
    refine ⟨D, q, 1 + r, _, by rw [show ((1 + r : Nat) : Int) = 1 + (r : Int) by omega]; rfl, hD9, SqL.of (hs89 _ _ n8 e8), by decide, by omega, fun q2 ys zs H10 hpm hyl hs910 hD10 hq2n hq2 => ?_⟩
    obtain ⟨ns, rfl, hnd, hns⟩ := strs_of_perm hpm (by decide +kernel)
    rw [List.length_map] at hyl
    have hd10 := hs910 _ _ hdD (hs89 _ _ hdD hd8)
    have hp10 := hs910 _ _ hpD (hs89 _ _ hpD hp8)
    have hs10 := (hs8.trans hs89).trans hs910
    have n10 : q2 ≠ D := hD9.ne hq2n
    have m10 : q2 ≠ d := fun z => by rw [z, hs89 _ _ hdD hd8] at hq2n; cases hq2n
    have hml : (ns.map V.str).length = ns.length := List.length_map ..
    have hn5 : ns.length ≤ 5 ∧ 1 ≤ ns.length := by rw [hyl]; exact ⟨Nat.min_le_right _ _, by show 1 ≤ min (1 + r) 5; omega⟩
    refine ⟨q2, rfl, ⟨_, SqL.of hq2⟩, ?_⟩
    refine for_it walk_list (fun i σ H' => ∃ kvs ps s4, σ = [some (.ref D), some (.int (way : Int)), some (.ref d), some (.ref p), s4] ∧ H' d = some (.dK kvs) ∧ KvD K H' kvs ps ∧ ps.map Prod.fst = ns.take i ∧ (∀ x ∈ ps, KdIn A4 4 2 x.2) ∧ SameB D H H' ∧ DiO H' D ∧ H' p = some (.lst (A.map V.str)) ∧ H' q2 = some (.lst (ns.map V.str)))
      ⟨[], [], _, rfl, hd10, .nil, rfl, (fun x hx => by cases hx), hs10, hD10, hp10, hq2⟩ (fun i σ H' _ ⟨_, _, _, _, _, _, _, _, _, _, _, h⟩ => SqL.of h) (fun i z σ Hx H11 hi ⟨kvs, ps, s4, hσ, hd11, hkv, hfst, hks, hs11, hD11, hp11, hq11⟩ y => ?_) (fun σ H11 ⟨kvs, ps, s4, hσ, hd11, hkv, hfst, hks, hs11, hD11, hp11, hq11⟩ => ?_)
    · subst hσ
      obtain ⟨rfl, hz⟩ := y
      rw [List.getElem?_map] at hz
      obtain ⟨x, hx, rfl⟩ := Option.map_eq_some_iff.mp hz
      refine ⟨_, rfl, _, rfl, _, rfl, szl (by show 4 ≤ 16777216; decide), fun q3 hq3 => ?_⟩
      have t12 := same_new (o := .lst [V.int 0, V.int 1, V.int 1, V.int 2]) hq3
      refine ⟨D, q3, _, rfl, hD11.same t12, SqL.of upd_same, hD11.ne hq3, by show 1 ≤ 4; decide, by show 4 ≤ 1000000; decide, fun v2 H12 hv2 hs12 hD12 => ?_⟩
      obtain ⟨o2, rfl, ho2⟩ : ∃ o2 : Nat, v2 = .int (o2 : Int) ∧ o2 ≤ 2 := by
        simp only [List.mem_cons, List.not_mem_nil, or_false] at hv2
        rcases hv2 with rfl | rfl | rfl | rfl
        · exact ⟨0, rfl, by decide⟩
        · exact ⟨1, rfl, by decide⟩
        · exact ⟨1, rfl, by decide⟩
        · exact ⟨2, rfl, by decide⟩
      have hs1112 : SameB D H11 H12 := SameB.new hq3 hs12
      refine ⟨D, p, A, o2, 4, rfl, hD12, SqL.of (hs1112 _ _ hpD hp11), hpD, hA0, by omega, by decide, by decide, by omega, fun v3 k3 H13 hs13 hD13 d3 hk3 => ?_⟩
      have hs1113 := hs1112.trans hs13
      have hd13 := hs1113 _ _ hdD hd11
      have hkv13 := hkv.sameL (dice_sL hs1113 hD11)
      have hnew : x ∉ ps.map Prod.fst := fun z => by
        rw [hfst] at z
        have h2 : (ns.take (i + 1)).Nodup := (List.take_sublist _ _).nodup hnd
        rw [take_snoc hx, List.nodup_append] at h2
        exact h2.2.2 _ z _ (by simp) rfl
      have hno : valV kvs (.inr x) = none := by
        rcases kvd_val x hkv13 with ⟨z, _⟩ | ⟨v', k', _, h2, _⟩
        · exact z
        · rw [kOf_none hnew] at h2; cases h2
      have sl : SameL H13 (upd H13 d (.dK (kvs ++ [(Sum.inr x, v3)]))) := sameL_upd hd13 rfl
      have hpl : ps.length ≤ 5 := by
        have := congrArg List.length hfst
        rw [List.length_map, List.length_take] at this
        omega
      refine ⟨_, rfl, _, rfl, d, upd H13 d (.dK (kvs ++ [(Sum.inr x, v3)])), rfl, .inl ⟨kvs, .inr x, hd13, rfl, szlt (by rw [hkv13.length]; omega), by rw [putK_new v3 hno]⟩, kvs ++ [(Sum.inr x, v3)], ps ++ [(x, k3)], _, rfl, upd_same, (hkv13.sameL sl).snoc (Dp.sameL sl (noL_kd k3) d3), ?_, ?_, (hs11.trans hs1113).put hdH, hD13.put hdD, ?_, ?_⟩
      · rw [List.map_append, hfst, take_snoc hx]
        rfl
      · intro y hy
        rcases List.mem_append.mp hy with hy | hy
        · exact hks y hy
        · rw [List.mem_singleton.mp hy]
          exact hk3.mono hA (by decide) ho2
      · rw [upd_ne hpd]; exact hs1113 _ _ hpD hp11
      · rw [upd_ne m10]; exact hs1113 _ _ n10 hq11
    · subst hσ
      rw [hml, List.take_length] at hfst
      have hpl : ps.length = ns.length := by
        have := congrArg List.length hfst
        rwa [List.length_map] at this
      refine ⟨_, rfl, k d kvs ps H11 hs11 hD11 hdH hd11 hkv ⟨by rw [hfst]; exact hnd, fun x hx => ⟨?_, hks x hx⟩, by omega, by omega⟩⟩
      have h1 : x.1 ∈ ns := by rw [← hfst]; exact List.mem_map.mpr ⟨x, hx, rfl⟩
      have h2 := hns _ h1
      have : (["f", "g", "h", "k", "z"] : List Str).all isWord = true := by decide +kernel
      exact List.all_eq_true.mp this _ h2
end
end Fp
/-! W29: _law_known_library -/
namespace Fp
open PySem PySem.Spec PyProof.Rows L2 TL
theorem valV_mem {k : Key} : ∀ {kvs : List (Key × V)}, k ∉ kvs.map Prod.fst → valV kvs k = none
  | [], _ => rfl
  | p :: kvs, h => by
    rw [List.map_cons, List.mem_cons, not_or] at h
    rw [valV_neg (fun z => h.1 z.symm)]
    exact valV_mem h.2
theorem mergeK_new : ∀ (more acc : List (Key × V)), (∀ k ∈ more.map Prod.fst, k ∉ acc.map Prod.fst) → (more.map Prod.fst).Nodup → mergeK acc more = acc ++ more
  | [], acc, _, _ => by rw [List.append_nil]; rfl
  | p :: more, acc, h, hn => by
    rw [List.map_cons, List.nodup_cons] at hn
    show mergeK (putK acc p.1 p.2) more = _
    rw [putK_new p.2 (valV_mem (h p.1 (by simp))), mergeK_new more _ (fun k hk => ?_) hn.2, List.append_assoc]
    · rfl
    · rw [List.map_append, List.mem_append, not_or]
      refine ⟨h k (by rw [List.map_cons]; exact List.mem_cons_of_mem _ hk), fun z => ?_⟩
      rw [List.map_cons, List.map_nil, List.mem_singleton] at z
      exact hn.1 (by rw [← z]; exact hk)
theorem KvD.nodup {K : PySem.W.Frag} {H : Hp} {kvs : List (Key × V)} {ps : List (Str × Kd)} (h : KvD K H kvs ps) (n : (ps.map Prod.fst).Nodup) : (kvs.map Prod.fst).Nodup := by
  have e : kvs.map Prod.fst = (ps.map Prod.fst).map Sum.inr := h.keys
  rw [e]
  generalize ps.map Prod.fst = l at n
  induction l with
  | nil => exact List.nodup_nil
  | cons a l ih =>
    rw [List.nodup_cons] at n
    rw [List.map_cons, List.nodup_cons]
    refine ⟨fun z => ?_, ih n.2⟩
    obtain ⟨b, hb, e⟩ := List.mem_map.mp z
    rw [Sum.inr.inj e] at hb
    exact n.1 hb
theorem KvD.drop {K : PySem.W.Frag} {H : Hp} {y : Str} : ∀ {kvs : List (Key × V)} {ps : List (Str × Kd)}, KvD K H kvs ps → KvD K H (dropK kvs (.inr y)) (ps.filter fun p => decide (p.1 ≠ y))
  | _, _, .nil => .nil
  | _, _, .cons (x := x) (v := v) (k := k) (kvs := kvs) (ps := ps) h t => by
    have ih := KvD.drop (y := y) t
    unfold dropK at ih ⊢
    by_cases e : x = y
    · rw [List.filter_cons_of_neg (by simp [e]), List.filter_cons_of_neg (by simp [e])]
      exact ih
    · rw [List.filter_cons_of_pos (by simp [e]), List.filter_cons_of_pos (by simp [e])]
      exact .cons h ih
/-! what an expression makes: a kind, a dict of kinds -/
section
variable {K : PySem.W.Frag} {σ : L2.St} {H : Hp}
def EvK (K : PySem.W.Frag) (σ : L2.St) (H : Hp) (te : TE) (k : Kd) : Prop := ∀ H1, Same H H1 → ∀ Q : VK, (∀ v H2, Same H1 H2 → Dp K H2 v (kdD k) → Q v H2) → te σ H1 Q
theorem evK_atom (x : Str) : EvK K σ H (tTup (tCons (tTup tNil) (tCons (tC (.str x)) tNil))) (.mk [] x) := fun H1 _ Q q => by
  refine ⟨Nat.zero_le _, fun t ht => ⟨szl (by show 2 ≤ 16777216; decide), fun u hu => ?_⟩⟩
  have s1 := same_new (o := .tup []) ht
  have s2 := same_new (o := .tup [V.ref t, V.str x]) hu
  exact q _ _ (Same.trans s1 s2) (dp_mk (SqT.of upd_same) (SqT.of (s2 _ _ upd_same)) .nil)
theorem evK_var {i : Nat} {v : V} {k : Kd} (hi : σ[i]? = some (some v)) (hd : Dp K H v (kdD k)) : EvK K σ H (tVar i) k := fun H1 s Q q => ⟨v, hi, q v H1 (Same.refl _) (Dp.same s hd)⟩
theorem evK_one {te : TE} {k : Kd} (h : EvK K σ H te k) (x : Str) : EvK K σ H (tTup (tCons (tTup (tCons te tNil)) (tCons (tC (.str x)) tNil))) (.mk [k] x) := fun H1 s Q q => by
  refine h H1 s _ fun v H2 s2 d => ⟨szl (by show 1 ≤ 16777216; decide), fun t ht => ⟨szl (by show 2 ≤ 16777216; decide), fun u hu => ?_⟩⟩
  have s3 := same_new (o := .tup [v]) ht
  have s4 := same_new (o := .tup [V.ref t, V.str x]) hu
  exact q _ _ (Same.trans s2 (Same.trans s3 s4)) (dp_mk (SqT.of upd_same) (SqT.of (s4 _ _ upd_same)) (.cons (Dp.same (Same.trans s3 s4) d) .nil))
theorem evK_two {te tf : TE} {k l : Kd} (h : EvK K σ H te k) (h' : EvK K σ H tf l) (x : Str) : EvK K σ H (tTup (tCons (tTup (tCons te (tCons tf tNil))) (tCons (tC (.str x)) tNil))) (.mk [k, l] x) := fun H1 s Q q => by
  refine h H1 s _ fun v H2 s2 d => h' H2 (Same.trans s s2) _ fun v' H3 s3 d' => ⟨szl (by show 2 ≤ 16777216; decide), fun t ht => ⟨szl (by show 2 ≤ 16777216; decide), fun u hu => ?_⟩⟩
  have s4 := same_new (o := .tup [v, v']) ht
  have s5 := same_new (o := .tup [V.ref t, V.str x]) hu
  have s45 := Same.trans s4 s5
  exact q _ _ (Same.trans s2 (Same.trans s3 s45)) (dp_mk (SqT.of upd_same) (SqT.of (s5 _ _ upd_same)) (.cons (Dp.same (Same.trans s3 s45) d) (.cons (Dp.same s45 d') .nil)))
theorem tup4 {a b c d : TE} {Q : VK} (h : a σ H fun v1 H1 => b σ H1 fun v2 H2 => c σ H2 fun v3 H3 => d σ H3 fun v4 H4 => 4 ≤ sizeLine ∧ ∀ p, H4 p = none → Q (.ref p) (upd H4 p (.tup [v1, v2, v3, v4]))) : tTup (tCons a (tCons b (tCons c (tCons d tNil)))) σ H Q := h
theorem lst3 {a b c : TE} {Q : VK} (h : a σ H fun v1 H1 => b σ H1 fun v2 H2 => c σ H2 fun v3 H3 => 3 ≤ sizeLine ∧ ∀ p, H3 p = none → Q (.ref p) (upd H3 p (.lst [v1, v2, v3]))) : tLst (tCons a (tCons b (tCons c tNil))) σ H Q := h
theorem seq_i {a b : TS} {D : Ends} (h : a { D with nx := b D } σ H) : tSeq a b D σ H := h
theorem asg_i {te : TE} {g : TG} {D : Ends} (h : te σ H fun x H1 => g x σ H1 D.nx) : tAsg te g D σ H := h
inductive EvPs (K : PySem.W.Frag) (σ : L2.St) (H : Hp) : List (TE × TE) → List (Str × Kd) → Prop
  | nil : EvPs K σ H [] []
  | cons {te : TE} {x : Str} {k : Kd} {trs : List (TE × TE)} {ps : List (Str × Kd)} (h : EvK K σ H te k) (t : EvPs K σ H trs ps) : EvPs K σ H ((tC (.str x), te) :: trs) ((x, k) :: ps)
theorem evPs_run : ∀ {trs : List (TE × TE)} {ps : List (Str × Kd)}, EvPs K σ H trs ps → ∀ H1, Same H H1 → ∀ R : List (V × V) → Hp → Prop, (∀ kvs H2, Same H1 H2 → KvD K H2 kvs ps → R (kvs.map fun kv => (kV kv.1, kv.2)) H2) → tPairs trs σ H1 R
  | _, _, .nil, H1, s, R, q => q [] H1 (Same.refl _) .nil
  | _, _, .cons (x := x) h t, H1, s, R, q => h H1 s _ fun v H2 s2 d => evPs_run t H2 (Same.trans s s2) _ fun kvs H3 s3 r => q ((.inr x, v) :: kvs) H3 (Same.trans s2 s3) (.cons (Dp.same s3 d) r)
def EvD (K : PySem.W.Frag) (σ : L2.St) (H : Hp) (te : TE) (ps : List (Str × Kd)) : Prop := ∀ H1, Same H H1 → ∀ Q : VK, (∀ d kvs H2, Same H1 H2 → H1 d = none → H2 d = some (.dK kvs) → KvD K H2 kvs ps → Q (.ref d) H2) → te σ H1 Q
theorem evD_disp {trs : List (TE × TE)} {ps : List (Str × Kd)} (h : EvPs K σ H trs ps) (hn : (ps.map Prod.fst).Nodup) (hl : ps.length ≤ 15) : EvD K σ H (tDisp trs) ps := fun H1 s Q q => by
  intro p hp
  have s1 := same_new (o := .dK []) hp
  refine evPs_run h _ (Same.trans s s1) _ fun kvs H2 s2 r => ?_
  have hp2 := s2 _ _ (upd_same (H := H1) (a := p) (o := .dK []))
  refine ⟨hp2, kvs, rfl, by rw [r.length]; exact hl, ?_⟩
  rw [mergeK_new kvs [] (fun _ _ z => by cases z) (r.nodup hn), List.nil_append]
  exact q p kvs _ (same_put (Same.trans s1 s2) hp) hp upd_same (r.sameL (sameL_upd hp2 rfl))
end
theorem cons_i {K : PySem.W.Frag} {σ : L2.St} {H : Hp} {a : TE} {b : TA} {Q : List V → Hp → Prop} (h : a σ H fun x H1 => b σ H1 fun xs H2 => Q (x :: xs) H2) : tCons a b σ H Q := h
/-- dicts of kinds, one behind the other -/
inductive DsO (K : PySem.W.Frag) (H : Hp) : List V → List (List (Str × Kd)) → Prop
  | nil : DsO K H [] []
  | cons {d : Addr} {kvs : List (Key × V)} {ps : List (Str × Kd)} {vs : List V} {pss : List (List (Str × Kd))} (h : H d = some (.dK kvs)) (r : KvD K H kvs ps) (t : DsO K H vs pss) : DsO K H (.ref d :: vs) (ps :: pss)
theorem DsO.keep {K : PySem.W.Frag} {H H' : Hp} (hd : ∀ b kvs, H b = some (.dK kvs) → H' b = some (.dK kvs)) (sl : SameL H H') : ∀ {vs : List V} {pss : List (List (Str × Kd))}, DsO K H vs pss → DsO K H' vs pss
  | _, _, .nil => .nil
  | _, _, .cons h r t => .cons (hd _ _ h) (r.sameL sl) (DsO.keep hd sl t)
theorem DsO.same {K : PySem.W.Frag} {H H' : Hp} (s : Same H H') {vs : List V} {pss : List (List (Str × Kd))} (h : DsO K H vs pss) : DsO K H' vs pss := h.keep (fun b kvs e => s _ _ e) (sL s)
theorem DsO.snoc {K : PySem.W.Frag} {H : Hp} {d : Addr} {kvs : List (Key × V)} {ps : List (Str × Kd)} (h : H d = some (.dK kvs)) (r : KvD K H kvs ps) : ∀ {vs : List V} {pss : List (List (Str × Kd))}, DsO K H vs pss → DsO K H (vs ++ [.ref d]) (pss ++ [ps])
  | _, _, .nil => .cons h r .nil
  | _, _, .cons h' r' t => .cons h' r' (DsO.snoc h r t)
theorem DsO.lst {K : PySem.W.Frag} {H : Hp} {S : Addr} {xs ys : List V} (hS : H S = some (.lst xs)) {vs : List V} {pss : List (List (Str × Kd))} (h : DsO K H vs pss) : DsO K (upd H S (.lst ys)) vs pss :=
  h.keep (fun b kvs e => by rw [upd_ne (fun z => by rw [z, hS] at e; cases e)]; exact e) (sameL_upd hS rfl)
theorem DsO.mem {K : PySem.W.Frag} {H : Hp} {v : V} : ∀ {vs : List V} {pss : List (List (Str × Kd))}, DsO K H vs pss → v ∈ vs → ∃ d kvs ps, v = .ref d ∧ H d = some (.dK kvs) ∧ KvD K H kvs ps ∧ ps ∈ pss
  | _, _, .nil, h => by cases h
  | _, _, .cons h r t, hv => by
    rcases List.mem_cons.mp hv with rfl | hv
    · exact ⟨_, _, _, rfl, h, r, by simp⟩
    · obtain ⟨d, kvs, ps, h1, h2, h3, h4⟩ := t.mem hv
      exact ⟨d, kvs, ps, h1, h2, h3, by simp [h4]⟩
/-! the five libraries -/
abbrev ka : Kd := .mk [] "a"
abbrev kb : Kd := .mk [] "b"
abbrev kc : Kd := .mk [] "c"
abbrev kn : Kd := .mk [] "n"
abbrev L1 : List (Str × Kd) := [("z", kn), ("s", .mk [kn] "n")]
abbrev L2' : List (Str × Kd) := [("f", .mk [ka] "b"), ("g", .mk [kb] "c")]
abbrev L3 : List (Str × Kd) := [("k", .mk [.mk [ka] "b"] "c"), ("x", kb)]
abbrev L4 : List (Str × Kd) := [("k", .mk [.mk [ka] "b"] "a"), ("g", .mk [ka] "b"), ("y", ka)]
abbrev L5 : List (Str × Kd) := [("p", .mk [ka, kb] "c"), ("y", ka), ("w", kb), ("h", .mk [kc] "a")]
def libB (ps : List (Str × Kd)) : Bool := decide ((ps.map Prod.fst).Nodup) && (ps.all (fun p => isWord p.1 && ((atomsK p.2).all (fun x => decide (x ∈ A4)) && (decide (plc p.2 ≤ 4) && decide (ordK p.2 ≤ 2)))) && (decide (1 ≤ ps.length) && decide (ps.length ≤ 5)))
theorem libB_ok {ps : List (Str × Kd)} (h : libB ps = true) : LibP ps := by
  unfold libB at h
  simp only [Bool.and_eq_true, decide_eq_true_eq, List.all_eq_true] at h
  obtain ⟨h1, h2, h3, h4⟩ := h
  exact ⟨h1, fun p hp => ⟨(h2 p hp).1, (h2 p hp).2.1, (h2 p hp).2.2.1, (h2 p hp).2.2.2⟩, h3, h4⟩
def noX (ps : List (Str × Kd)) : List (Str × Kd) := ps.filter fun p => decide (p.1 ≠ Str.ofString "x")
def needW (qs : List (Str × Kd)) : Bool := (kOf qs (Str.ofString "k")).isSome && !(kOf qs (Str.ofString "g")).isSome
theorem known_ok : ∀ ps ∈ [L1, L2', L3, L4, L5], ps.length ≤ 10 ∧ ((needW (noX ps) = false ∧ libB (noX ps) = true) ∨ (needW (noX ps) = true ∧ (kOf (noX ps) (Str.ofString "w")).isSome = false ∧ libB (noX ps ++ [(Str.ofString "w", kb)]) = true)) := by
  intro ps h
  simp only [List.mem_cons, List.not_mem_nil, or_false] at h
  rcases h with rfl | rfl | rfl | rfl | rfl
  · exact ⟨by decide, .inl ⟨by decide +kernel, by decide +kernel⟩⟩
  · exact ⟨by decide, .inl ⟨by decide +kernel, by decide +kernel⟩⟩
  · exact ⟨by decide, .inr ⟨by decide +kernel, by decide +kernel, by decide +kernel⟩⟩
  · exact ⟨by decide, .inl ⟨by decide +kernel, by decide +kernel⟩⟩
  · exact ⟨by decide, .inl ⟨by decide +kernel, by decide +kernel⟩⟩
section
variable {P : Program} {w : World} {K : PySem.W.Frag} {mg : Str → Option Value} {base : Heap}
abbrev s__law_known_library : Stmt := top 78
abbrev N__law_known_library : List Str := ["_law_dice_here", "_law_a", "_law_b", "_law_c", "_law_n", "_law_some_here", "_law_found"]
theorem sc__law_known_library : FnScope N__law_known_library ["_law_dice_here"] (defScope s__law_known_library) := ⟨rfl, rfl, rfl, by decide +kernel, rfl, by decide +kernel, by decide +kernel⟩
theorem ok_law_known_library {f : Addr} {fd : FuncData} (F : Fun K "_law_known_library" "_law_known_library" s__law_known_library f fd) (N : Nm mg) (c__law_pick : Cal P w K mg base CX0 2 "_law_pick" (sp_law_pick K)) : FnOk P w K mg base CX0 3 f fd ["_law_dice_here"] (sp_law_library K) := by
  refine F.ok sc__law_known_library (fun vs H Q E h => ?_) (fun cdv A outer s H vs Q E hr h => ?_)
  · obtain ⟨D, rfl, _⟩ := h
    rfl
  · obtain ⟨D, rfl, hD, k⟩ := h
    refine ⟨_, (pss_cons (ps_asg (pe_tup (pa_cons (pe_tup (pa_cons (pe_tup pa_nil) (pa_cons pe_str pa_nil))) (pa_cons (pe_tup (pa_cons (pe_tup pa_nil) (pa_cons pe_str pa_nil))) (pa_cons (pe_tup (pa_cons (pe_tup pa_nil) (pa_cons pe_str pa_nil))) (pa_cons (pe_tup (pa_cons (pe_tup pa_nil) (pa_cons pe_str pa_nil))) pa_nil))))) (pg_tup (by rfl) (pgs_cons (pg_name (i := 1) sc__law_known_library.nd rfl (Or.inl rfl)) (pgs_cons (pg_name (i := 2) sc__law_known_library.nd rfl (Or.inl rfl)) (pgs_cons (pg_name (i := 3) sc__law_known_library.nd rfl (Or.inl rfl)) (pgs_cons (pg_name (i := 4) sc__law_known_library.nd rfl (Or.inl rfl)) pgs_nil))))))
      (pss_cons (ps_set (i := 5) sc__law_known_library.nd rfl (Or.inl rfl) (pe_lst (pa_cons (pe_disp (pps_cons pe_str (pv 4) (pps_cons pe_str (pe_tup (pa_cons (pe_tup (pa_cons (pv 4) pa_nil)) (pa_cons pe_str pa_nil))) pps_nil)) (by rfl) (by rfl) (fun z => by cases z) (by decide)) (pa_cons (pe_disp (pps_cons pe_str (pe_tup (pa_cons (pe_tup (pa_cons (pv 1) pa_nil)) (pa_cons pe_str pa_nil))) (pps_cons pe_str (pe_tup (pa_cons (pe_tup (pa_cons (pv 2) pa_nil)) (pa_cons pe_str pa_nil))) pps_nil)) (by rfl) (by rfl) (fun z => by cases z) (by decide)) (pa_cons (pe_disp (pps_cons pe_str (pe_tup (pa_cons (pe_tup (pa_cons (pe_tup (pa_cons (pe_tup (pa_cons (pv 1) pa_nil)) (pa_cons pe_str pa_nil))) pa_nil)) (pa_cons pe_str pa_nil))) (pps_cons pe_str (pv 2) pps_nil)) (by rfl) (by rfl) (fun z => by cases z) (by decide)) pa_nil)))))
      (pss_cons (ps_expr (pe_bm PySem.F.plainAttrs_list PySem.F.slot_list_append PySem.F.type_list_append mt_append (pv 5) (pa_cons (pe_disp (pps_cons pe_str (pe_tup (pa_cons (pe_tup (pa_cons (pe_tup (pa_cons (pe_tup (pa_cons (pv 1) pa_nil)) (pa_cons pe_str pa_nil))) pa_nil)) (pa_cons pe_str pa_nil))) (pps_cons pe_str (pe_tup (pa_cons (pe_tup (pa_cons (pv 1) pa_nil)) (pa_cons pe_str pa_nil))) (pps_cons pe_str (pv 1) pps_nil))) (by rfl) (by rfl) (fun z => by cases z) (by decide)) pa_nil)))
      (pss_cons (ps_expr (pe_bm PySem.F.plainAttrs_list PySem.F.slot_list_append PySem.F.type_list_append mt_append (pv 5) (pa_cons (pe_disp (pps_cons pe_str (pe_tup (pa_cons (pe_tup (pa_cons (pv 1) (pa_cons (pv 2) pa_nil))) (pa_cons pe_str pa_nil))) (pps_cons pe_str (pv 1) (pps_cons pe_str (pv 2) (pps_cons pe_str (pe_tup (pa_cons (pe_tup (pa_cons (pv 3) pa_nil)) (pa_cons pe_str pa_nil))) pps_nil)))) (by rfl) (by rfl) (fun z => by cases z) (by decide)) pa_nil)))
      (pss_cons (ps_set (i := 6) sc__law_known_library.nd rfl (Or.inl rfl) (pe_callTy (call_dictP rfl) (by rfl) N.dict (by decide +kernel) (pa_cons (LiI.pe_listItems rfl (pe_c c__law_pick hr (ha := (pa_cons (pv 0) (pa_cons (pv 5) pa_nil)))) (by rfl) N.list (by decide +kernel)) pa_nil)))
      (C8.pss_cut (ps_expr (pe_dpop2 (pv 6) pe_str pe_non ⟨rfl, rfl, rfl, rfl⟩))
      (pss_cons (ps_if (PW.pt (pw_and (pt_cmp (pc_din (hu_of hr) pe_str (pv 6))) (pw_and1 (pt_cmp (pc_dnotin (hu_of hr) pe_str (pv 6)))))) (pss_one (ps_asg (pv 2) (pg_sub (pv 6) pe_str (set_dict (hu_of hr))))) pss_nil)
      (pss_one (ps_ret (pv 6)))))))))), ?_⟩
    refine seq_i (asg_i (tup4 ?_))
    refine evK_atom (K := K) "a" H (Same.refl _) _ fun va H1 s1 da => ?_
    refine evK_atom (K := K) "b" H1 (Same.refl _) _ fun vb H2 s2 db => ?_
    refine evK_atom (K := K) "c" H2 (Same.refl _) _ fun vc H3 s3 dc => ?_
    refine evK_atom (K := K) "n" H3 (Same.refl _) _ fun vn H4 s4 dn => ?_
    refine ⟨szl (by show 4 ≤ 16777216; decide), fun t ht => ?_⟩
    have s5 := same_new (o := .tup [va, vb, vc, vn]) ht
    have e5 : (upd H4 t (.tup [va, vb, vc, vn])) t = some (.tup [va, vb, vc, vn]) := upd_same
    generalize (upd H4 t (.tup [va, vb, vc, vn])) = H5 at *
    have s05 := Same.trans s1 (Same.trans s2 (Same.trans s3 (Same.trans s4 s5)))
    replace da := Dp.same (Same.trans s2 (Same.trans s3 (Same.trans s4 s5))) da
    replace db := Dp.same (Same.trans s3 (Same.trans s4 s5)) db
    replace dc := Dp.same (Same.trans s4 s5) dc
    replace dn := Dp.same s5 dn
    refine ⟨t, _, rfl, SqT.of e5, rfl, _, _, rfl, _, _, rfl, _, _, rfl, _, _, rfl, rfl, ?_⟩
    have xa : ∀ {s5 s6 : Option V}, EvK K [some (V.ref D), some va, some vb, some vc, some vn, s5, s6] H5 (tVar 1) ka := evK_var rfl da
    have xb : ∀ {s5 s6 : Option V}, EvK K [some (V.ref D), some va, some vb, some vc, some vn, s5, s6] H5 (tVar 2) kb := evK_var rfl db
    have xc : ∀ {s5 s6 : Option V}, EvK K [some (V.ref D), some va, some vb, some vc, some vn, s5, s6] H5 (tVar 3) kc := evK_var rfl dc
    have xn : ∀ {s5 s6 : Option V}, EvK K [some (V.ref D), some va, some vb, some vc, some vn, s5, s6] H5 (tVar 4) kn := evK_var rfl dn
    dsimp only
    refine seq_i (asg_i (lst3 ?_))
    refine evD_disp (σ := [some (V.ref D), some va, some vb, some vc, some vn, none, none]) (H := H5) (.cons xn (.cons (evK_one xn "n") .nil)) (ps := L1) (by decide +kernel) (by decide) H5 (Same.refl _) _ fun d1 kv1 H6 s6 _ e6 r6 => ?_
    refine evD_disp (σ := [some (V.ref D), some va, some vb, some vc, some vn, none, none]) (H := H5) (.cons (evK_one xa "b") (.cons (evK_one xb "c") .nil)) (ps := L2') (by decide +kernel) (by decide) H6 s6 _ fun d2 kv2 H7 s7 _ e7 r7 => ?_
    refine evD_disp (σ := [some (V.ref D), some va, some vb, some vc, some vn, none, none]) (H := H5) (.cons (evK_one (evK_one xa "b") "c") (.cons xb .nil)) (ps := L3) (by decide +kernel) (by decide) H7 (Same.trans s6 s7) _ fun d3 kv3 H8 s8 _ e8 r8 => ?_
    refine ⟨szl (by show 3 ≤ 16777216; decide), fun S hS => ?_⟩
    have s58 := Same.trans s6 (Same.trans s7 s8)
    have ds8 : DsO K H8 [V.ref d1, V.ref d2, V.ref d3] [L1, L2', L3] := .cons (s8 _ _ (s7 _ _ e6)) (r6.same (Same.trans s7 s8)) (.cons (s8 _ _ e7) (r7.same s8) (.cons e8 r8 .nil))
    have s9 := same_new (o := .lst [V.ref d1, V.ref d2, V.ref d3]) hS
    have e9 : (upd H8 S (.lst [V.ref d1, V.ref d2, V.ref d3])) S = some (.lst [V.ref d1, V.ref d2, V.ref d3]) := upd_same
    have ds9 := ds8.same s9
    have hS5 : H5 S = none := Same.free s58 hS
    have s59 := Same.trans s58 s9
    generalize (upd H8 S (.lst [V.ref d1, V.ref d2, V.ref d3])) = H9 at *
    refine ⟨_, rfl, .inl ⟨rfl, _, SqL.of e9⟩, ?_⟩
    refine cons_i (K := K) (evD_disp (K := K) (σ := [some (V.ref D), some va, some vb, some vc, some vn, some (V.ref S), none]) (H := H5) (.cons (evK_one (evK_one xa "b") "a") (.cons (evK_one xa "b") (.cons xa .nil))) (ps := L4) (by decide +kernel) (by decide) H9 s59 _ fun d4 kv4 H10 s10 _ e10 r10 => ?_)
    have e10S := s10 _ _ e9
    refine ⟨S, _, _, rfl, rfl, e10S, szlt (by show 3 < 16777216; decide), ?_⟩
    have ds11 := (DsO.snoc e10 r10 (ds9.same s10)).lst (ys := [V.ref d1, V.ref d2, V.ref d3] ++ [V.ref d4]) e10S
    have s511 : Same H5 (upd H10 S (.lst ([V.ref d1, V.ref d2, V.ref d3] ++ [V.ref d4]))) := same_put (Same.trans s59 s10) hS5
    have e11 : (upd H10 S (.lst ([V.ref d1, V.ref d2, V.ref d3] ++ [V.ref d4]))) S = some (.lst ([V.ref d1, V.ref d2, V.ref d3] ++ [V.ref d4])) := upd_same
    generalize (upd H10 S (.lst ([V.ref d1, V.ref d2, V.ref d3] ++ [V.ref d4]))) = H11 at *
    refine ⟨_, rfl, .inl ⟨rfl, _, SqL.of e11⟩, ?_⟩
    refine cons_i (K := K) (evD_disp (K := K) (σ := [some (V.ref D), some va, some vb, some vc, some vn, some (V.ref S), none]) (H := H5) (.cons (evK_two xa xb "c") (.cons xa (.cons xb (.cons (evK_one xc "a") .nil)))) (ps := L5) (by decide +kernel) (by decide) H11 s511 _ fun d5 kv5 H12 s12 _ e12 r12 => ?_)
    have e12S := s12 _ _ e11
    refine ⟨S, _, _, rfl, rfl, e12S, szlt (by show 4 < 16777216; decide), ?_⟩
    have ds13 := (DsO.snoc e12 r12 (ds11.same s12)).lst (ys := [V.ref d1, V.ref d2, V.ref d3] ++ [V.ref d4] ++ [V.ref d5]) e12S
    have s513 : Same H5 (upd H12 S (.lst ([V.ref d1, V.ref d2, V.ref d3] ++ [V.ref d4] ++ [V.ref d5]))) := same_put (Same.trans s511 s12) hS5
    have e13 : (upd H12 S (.lst ([V.ref d1, V.ref d2, V.ref d3] ++ [V.ref d4] ++ [V.ref d5]))) S = some (.lst ([V.ref d1, V.ref d2, V.ref d3] ++ [V.ref d4] ++ [V.ref d5])) := upd_same
    generalize (upd H12 S (.lst ([V.ref d1, V.ref d2, V.ref d3] ++ [V.ref d4] ++ [V.ref d5]))) = H13 at *
    have s013 := Same.trans s05 s513
    have hD13 := hD.same s013
    have hSD : S ≠ D := (hD.same s05).ne hS5
    refine ⟨_, rfl, _, rfl, D, S, _, rfl, hD13, SqL.of e13, hSD, by show 1 ≤ 5; decide, by show 5 ≤ 1000000; decide, fun v H14 hv hs14 hD14 => ?_⟩
    obtain ⟨d, kvs, ps, rfl, hd14, hkv14, hps⟩ := (ds13.keep (fun b kvs e => hs14 _ _ (fun z => by obtain ⟨_, _, _, h⟩ := hD13; rw [z, h] at e; cases e) e) (dice_sL hs14 hD13)).mem hv
    obtain ⟨hpl, hcase⟩ := known_ok ps hps
    have dvb := Dp.sameL (dice_sL hs14 hD13) (noL_kd kb) (Dp.same s513 db)
    refine ⟨d, kvs, rfl, hd14, fun H15 p ts s15 hp hts hpts hpl15 hprs => ?_⟩
    refine ⟨p, ts, kvs, rfl, SqL.of hpl15, Paired.mapP hprs fun _ _ h => SqT.of h, fun f0 hf0 => ?_⟩
    have eM : mergeK [] kvs = kvs := by
      have nd : (ps.map Prod.fst).Nodup := by
        simp only [List.mem_append, List.mem_cons, List.not_mem_nil, or_false, List.cons_append, List.nil_append] at hps
        rcases hps with rfl | rfl | rfl | rfl | rfl <;> decide +kernel
      rw [mergeK_new kvs [] (fun _ _ z => by cases z) (hkv14.nodup nd), List.nil_append]
    rw [eM]
    have s16 := same_new (o := .dK kvs) hf0
    have e16 : (upd H15 f0 (.dK kvs)) f0 = some (.dK kvs) := upd_same
    have s1516 : Same H14 (upd H15 f0 (.dK kvs)) := Same.trans s15 s16
    have hf14 : H14 f0 = none := Same.free s15 hf0
    generalize (upd H15 f0 (.dK kvs)) = H16 at *
    have hD16 := hD14.same s1516
    have hs016 : SameB D H H16 := ((sB s013).trans hs14).trans (sB s1516)
    have hfD : f0 ≠ D := hD14.ne hf14
    have hfH : H f0 = none := ((sB s013).trans hs14).none hfD hf14
    have kv16 := hkv14.same s1516
    have db16 := Dp.same s1516 dvb
    refine ⟨fun σ H' => ∃ kvs', σ = [some (V.ref D), some va, some vb, some vc, some vn, some (V.ref S), some (.ref f0)] ∧ H' f0 = some (.dK kvs') ∧ KvD K H' kvs' (noX ps) ∧ Dp K H' vb (kdD kb) ∧ SameB D H H' ∧ DiO H' D, ?_, ?_⟩
    · refine ⟨_, rfl, f0, rfl, .inl ⟨_, .inl e16⟩, kvs, .inr (Str.ofString "x"), e16, rfl, fun v hv => ?_, fun hn => ?_⟩
      · have sl : SameL H16 (upd H16 f0 (.dK (dropK kvs (.inr (Str.ofString "x"))))) := sameL_upd e16 rfl
        exact ⟨_, rfl, upd_same, kv16.drop.sameL sl, Dp.sameL sl (noL_kd kb) db16, hs016.put hfH, hD16.put hfD⟩
      · have e0 : noX ps = ps := by
          rcases kvd_val (Str.ofString "x") kv16 with ⟨_, z⟩ | ⟨_, _, z, _, _⟩
          · unfold noX
            rw [List.filter_eq_self]
            intro p hp
            rw [decide_eq_true_eq]
            intro e
            have : (kOf ps (Str.ofString "x")).isSome = true := by
              unfold kOf
              rw [Option.isSome_map, List.find?_isSome]
              exact ⟨p, hp, by simpa using e⟩
            rw [z] at this
            cases this
          · rw [hn] at z; cases z
        exact ⟨kvs, rfl, e16, by rw [e0]; exact kv16, db16, hs016, hD16⟩
    · rintro σ H17 ⟨kvs', rfl, e17, kv17, db17, hs17, hD17⟩
      have val : ∀ x : Str, (valV kvs' (.inr x)).isSome = (kOf (noX ps) x).isSome := fun x => by
        rcases kvd_val x kv17 with ⟨h1, h2⟩ | ⟨v, k, h1, h2, _⟩
        · rw [h1, h2]; rfl
        · rw [h1, h2]; rfl
      refine ⟨_, rfl, f0, _, rfl, DGet.k (k := .inr (Str.ofString "k")) e17, _, rfl, ?_⟩
      rw [val]
      have skip : needW (noX ps) = false → Q (.ref f0) H17 := fun h => by
        rcases hcase with ⟨_, h2⟩ | ⟨h1, _⟩
        · exact k f0 kvs' (noX ps) H17 hs17 hD17 hfH e17 kv17 (libB_ok h2)
        · rw [h] at h1; cases h1
      cases bk : (kOf (noX ps) (Str.ofString "k")).isSome with
      | false => exact iteF ⟨_, rfl, skip (by unfold needW; rw [bk]; rfl)⟩
      | true =>
        refine iteT ⟨_, rfl, f0, _, rfl, DGet.k (k := .inr (Str.ofString "g")) e17, _, rfl, ?_⟩
        rw [val]
        cases bg : (kOf (noX ps) (Str.ofString "g")).isSome with
        | true => exact iteF ⟨_, rfl, skip (by unfold needW; rw [bk, bg]; rfl)⟩
        | false =>
          have hneed : needW (noX ps) = true := by unfold needW; rw [bk, bg]; rfl
          rcases hcase with ⟨h1, _⟩ | ⟨_, h2, h3⟩
          · rw [hneed] at h1; cases h1
          have hno : valV kvs' (.inr (Str.ofString "w")) = none := by
            have := val (Str.ofString "w")
            rw [h2] at this
            exact Option.isSome_eq_false_iff.mp this |> fun z => by simpa using z
          have hl17 : kvs'.length ≤ 10 := by
            rw [kv17.length]
            exact Nat.le_trans (List.length_filter_le _ _) hpl
          have sl : SameL H17 (upd H17 f0 (.dK (kvs' ++ [(Sum.inr (Str.ofString "w"), vb)]))) := sameL_upd e17 rfl
          refine iteT ⟨_, rfl, _, rfl, f0, upd H17 f0 (.dK (kvs' ++ [(Sum.inr (Str.ofString "w"), vb)])), rfl, .inl ⟨kvs', .inr (Str.ofString "w"), e17, rfl, szlt (by omega), by rw [putK_new vb hno]⟩, ?_⟩
          exact ⟨_, rfl, k f0 _ _ _ (hs17.put hfH) (hD17.put hfD) hfH upd_same ((kv17.sameL sl).snoc (Dp.sameL sl (noL_kd kb) db17)) (libB_ok h3)⟩
end
end Fp
/-! W30: _law_lines, _law_made, _law_library_atoms, _law_goal -/
namespace Fp
open PySem PySem.Spec PyProof.Rows L2 TL
theorem lineOf_app (x : Str) (k : Kd) : x ++ Str.ofString " : " ++ txt k = lineOf (x, k) := by
  apply ext_l
  rw [lineOf_tl, tl_app2, tl_app2, colon_tl, List.append_assoc]
theorem valV_at {c : Key} {v : V} : ∀ {kvs : List (Key × V)}, (kvs.map Prod.fst).Nodup → (c, v) ∈ kvs → valV kvs c = some v
  | p :: kvs, hn, h => by
    rw [List.map_cons, List.nodup_cons] at hn
    rcases List.mem_cons.mp h with e | h
    · rw [valV_pos (by rw [← e]), ← e]
    · rw [valV_neg (fun z => hn.1 (by rw [z]; exact List.mem_map.mpr ⟨_, h, rfl⟩))]
      exact valV_at hn.2 h
theorem made_pairs {K : PySem.W.Frag} {CT : Addr} {H : Hp} : ∀ {ps : List (Str × Kd)} {acc : List V}, acc.length = ps.length → (∀ (i : Nat) (y : V), acc[i]? = some y → ∃ (q : Str × Kd) (v : V) (t : Addr), ps[i]? = some q ∧ y = .ref t ∧ H t = some (.tup [.str q.1, v]) ∧ TyO K CT H v q.2) →
    ∃ (ts : List Addr) (kvs : List (Key × V)), acc = ts.map V.ref ∧ Paired (fun (p : Addr) (kv : Key × V) => H p = some (.tup [kV kv.1, kv.2])) ts kvs ∧ KvO K CT H kvs ps ∧ kvs.map Prod.fst = (ps.map Prod.fst).map Sum.inr
  | [], [], _, _ => ⟨[], [], rfl, .nil, .nil, rfl⟩
  | q :: ps, y :: acc, hl, h => by
    obtain ⟨q', v, t, h1, rfl, h3, h4⟩ := h 0 y rfl
    have e := Option.some.inj h1
    subst e
    obtain ⟨ts, kvs, e1, e2, e3, e4⟩ := made_pairs (ps := ps) (acc := acc) (by simpa using hl) fun i y e => h (i + 1) y (by simpa using e)
    obtain ⟨x, k⟩ := q
    exact ⟨t :: ts, (.inr x, v) :: kvs, by rw [e1]; rfl, .cons h3 e2, .cons h4 e3, by rw [List.map_cons, e4]; rfl⟩
  | [], _ :: _, hl, _ => by simp at hl
  | _ :: _, [], hl, _ => by simp at hl
theorem nodup_inr {l : List Str} (n : l.Nodup) : (l.map (Sum.inr : Str → Key)).Nodup := by
  induction l with
  | nil => exact List.nodup_nil
  | cons a l ih =>
    rw [List.nodup_cons] at n
    rw [List.map_cons, List.nodup_cons]
    refine ⟨fun z => ?_, ih n.2⟩
    obtain ⟨b, hb, e⟩ := List.mem_map.mp z
    rw [Sum.inr.inj e] at hb
    exact n.1 hb
section
variable {P : Program} {w : World} {K : PySem.W.Frag} {mg : Str → Option Value} {base : Heap}
/-! ### _law_lines -/
abbrev s__law_lines : Stmt := top 79
abbrev N__law_lines : List Str := ["_law_library_here", "_law_name"]
theorem sc__law_lines : FnScope N__law_lines ["_law_library_here"] (defScope s__law_lines) := ⟨rfl, rfl, rfl, by decide +kernel, rfl, by decide +kernel, by decide +kernel⟩
def sp_law_lines (K : PySem.W.Frag) : Sp := fun vs H Q _ => ∃ d kvs ps, vs = [.ref d] ∧ H d = some (.dK kvs) ∧ KvD K H kvs ps ∧ LibP ps ∧ ∀ (q : Addr) (ps' : List (Str × Kd)) (H' : Hp), Same H H' → H q = none → ps'.Perm ps → sortedS (ps'.map Prod.fst) = true → H' q = some (.lst ((ps'.map lineOf).map V.str)) → Q (.ref q) H'
theorem ok_law_lines {f : Addr} {fd : FuncData} (F : Fun K "_law_lines" "_law_lines" s__law_lines f fd) (N : Nm mg) (c__law_text : Cal P w K mg base CX0 4 "_law_text" (sp_law_text K 3)) : FnOk P w K mg base CX0 5 f fd ["_law_library_here"] (sp_law_lines K) := by
  refine F.ok sc__law_lines (fun vs H Q E h => ?_) (fun cdv A outer s H vs Q E hr h => ?_)
  · obtain ⟨d, kvs, ps, rfl, _⟩ := h
    rfl
  · obtain ⟨d, kvs, ps, rfl, hd, hkv, hL, k⟩ := h
    refine ⟨_, (pss_one (ps_ret (pe_lc (own := [("_law_name", 1)]) (g := gName 1) (tt := tYes) rfl sc__law_lines.nd (pi_list (pe_callB (call_sortedD rfl) (by rfl) N.sorted (by decide +kernel) (pa_cons (pv 0) pa_nil))) (blkOk_by (N := N__law_lines) (sc := defScope s__law_lines) (by decide +kernel)) (fun _ _ _ _ _ => pg_name (i := 1) sc__law_lines.nd rfl (Or.inl rfl)) (fun _ _ _ _ _ => pts_nil) (fun _ _ _ _ _ => (pe_op op_add_str (pe_op op_add_str (pv 1) pe_str) (pe_c c__law_text hr (ha := (pa_cons (pe_dget (hu_of hr) (pv 0) (pv 1) (fun _ _ => rfl)) pa_nil)))))))), ?_⟩
    have hle := hL.le
    refine ⟨_, rfl, d, kvs, ps.map Prod.fst, rfl, .inl hd, hkv.keys, by rw [List.length_map]; omega, fun ys p hperm hsort hp => ?_⟩
    have s1 := same_new (o := .lst (ys.map V.str)) hp
    have e1 : (upd H p (.lst (ys.map V.str))) p = some (.lst (ys.map V.str)) := upd_same
    generalize (upd H p (.lst (ys.map V.str))) = H1 at *
    have hyl : ys.length = ps.length := by rw [hperm.length_eq, List.length_map]
    have hml : (ys.map V.str).length = ys.length := List.length_map ..
    refine ⟨p, rfl, ⟨_, SqL.of e1⟩, fun D hD => ?_⟩
    refine lc_each walk_list hD (by omega) (fun H2 s2 => SqL.of (s2 _ _ e1)) (fun i y _ => ∃ q, (byNames ps ys)[i]? = some q ∧ y = .str (lineOf q)) (fun i y H2 H3 l _ _ r => r) (fun i z H2 H3 hi s2 hl2 y Qy hy => ?_) (fun H2 acc s2 hacc hla hr2 => ?_)
    · obtain ⟨rfl, hz⟩ := y
      rw [List.getElem?_map] at hz
      obtain ⟨x, hx, rfl⟩ := Option.map_eq_some_iff.mp hz
      have hxm : x ∈ ps.map Prod.fst := hperm.mem_iff.mp (List.mem_of_getElem? hx)
      obtain ⟨⟨x1, k1⟩, hk1, e⟩ := List.mem_map.mp hxm
      rw [show x1 = x from e] at hk1
      have hko := kOf_mem hL.nd hk1
      obtain ⟨hxw, hkin⟩ := hL.each _ hk1
      dsimp only at hxw hkin
      obtain ⟨v, hv, dk⟩ : ∃ v, valV kvs (.inr x) = some v ∧ Dp K H v (kdD k1) := by
        rcases kvd_val x hkv with ⟨_, z⟩ | ⟨v, k2, h1, h2, h3⟩
        · rw [hko] at z; cases z
        · rw [hko] at h2
          cases h2
          exact ⟨v, h1, h3⟩
      have s3 := Same.trans s1 s2
      have l1 := word_len hxw
      have hwk := kdIn_wds hkin
      obtain ⟨hka, hkp, hko2⟩ := hkin
      have l2 := txt_len hwk
      have l3 := len_colon
      refine ⟨rfl, _, rfl, _, _, rfl, rfl, szl (by rw [l3]; omega), ?_⟩
      refine ⟨_, rfl, _, rfl, d, v, rfl, by rw [← hv]; exact DGet.k (k := .inr x) (s3 _ _ hd), v, k1, rfl, Dp.same s3 dk, hwk, by omega, by omega, fun H4 s4 => ⟨_, _, rfl, rfl, szl (by rw [len_app, l3]; omega), ?_⟩⟩
      rw [lineOf_app]
      refine hy _ _ s4 ⟨(x, k1), ?_, rfl⟩
      unfold byNames
      rw [List.getElem?_map, hx]
      show some (x, (kOf ps x).getD _) = _
      rw [hko]
      rfl
    have e4 : acc = ((byNames ps ys).map lineOf).map V.str := by
      rw [List.map_map]
      refine eq_map_of (by rw [hla, hml]; unfold byNames; rw [List.length_map]) fun i y e => ?_
      obtain ⟨q, h1, h2⟩ := hr2 i y e
      exact ⟨q, h1, h2⟩
    rw [e4] at hacc
    exact k D (byNames ps ys) H2 (Same.trans s1 s2) (Same.free s1 hD) (byNames_perm hL.nd hperm) (by rw [byNames_fst]; exact hsort) hacc
/-! ### _law_made -/
abbrev s__law_made : Stmt := top 80
abbrev N__law_made : List Str := ["_law_library_here", "_law_name"]
theorem sc__law_made : FnScope N__law_made ["_law_library_here"] (defScope s__law_made) := ⟨rfl, rfl, rfl, by decide +kernel, rfl, by decide +kernel, by decide +kernel⟩
def sp_law_made (K : PySem.W.Frag) (CL : Addr) : Sp := fun vs H Q _ => ∃ d kvs ps, vs = [.ref d] ∧ H d = some (.dK kvs) ∧ KvD K H kvs ps ∧ LibP ps ∧ ∀ (v : V) (ps' : List (Str × Kd)) (H' : Hp), Same H H' → ps'.Perm ps → sortedS (ps'.map Prod.fst) = true → LibO K CL H' v (ps'.map lineOf) → Q v H'
theorem ok_law_made {CT CL CIL f : Addr} {fd : FuncData} (F : Fun K "_law_made" "_law_made" s__law_made f fd) (N : Nm mg) (c__law_made_kind : Cal P w K mg base CX0 6 "_law_made_kind" (sp_law_made_kind K CT 3)) (c_make : MkC P w K mg base (L2.CX P w) 3 "Library" CL (sp_Library_init K CT CL CIL) []) : FnOk P w K mg base CX0 7 f fd ["_law_library_here"] (sp_law_made K CL) := by
  refine FnOk.quiet (sp := sp_law_made K CL) (F.okX sc__law_made (fun vs H Q E h => ?_) (fun cdv A outer s H vs Q E hr h => ?_)) (fun vs H Q E h => h)
  · obtain ⟨d, kvs, ps, rfl, _⟩ := h
    rfl
  · obtain ⟨d, kvs, ps, rfl, hd, hkv, hL, k⟩ := h
    refine ⟨_, (pss_one (ps_ret (pe_mkx c_make hr (passes_call (takes_of rfl rfl rfl rfl) (fun _ _ _ _ h => h)) (ha := (pa_cons (pe_callTy (call_dictP rfl) (by rfl) N.dict (by decide +kernel) (pa_cons (pe_lock (pe_lc (own := [("_law_name", 1)]) (g := gName 1) (tt := tYes) (te := tTup (tCons (tVar 1) (tCons (tCall (sp_law_made_kind K CT 3) [] E0 (tCons (tDGet (tVar 0) (tVar 1)) tNil)) tNil))) rfl sc__law_made.nd (pi_keys (pv 0)) (blkOk_by (N := N__law_made) (sc := defScope s__law_made) (by decide +kernel)) (fun _ _ _ _ _ => pg_name (i := 1) sc__law_made.nd rfl (Or.inl rfl)) (fun _ _ _ _ _ => pts_nil) (fun _ _ _ _ _ => (pe_tup (pa_cons (pv 1) (pa_cons (pe_c c__law_made_kind hr (ha := (pa_cons (pe_dget (hu_of hr) (pv 0) (pv 1) (fun _ _ => rfl)) pa_nil))) pa_nil)))))) pa_nil)) pa_nil))))), ?_⟩
    have hle := hL.le
    have hlen := hkv.length
    refine ⟨d, _, hd, True.intro, fun od => ?_⟩
    have sl : SameL H (upd H d (.frz od (.dK kvs))) := sameL_upd hd rfl
    have hd1 : (upd H d (.frz od (.dK kvs))) d = some (.frz od (.dK kvs)) := upd_same
    refine ⟨_, rfl, d, od, rfl, .inl ⟨kvs, hd1, fun D hD => ?_⟩⟩
    have nDd : d ≠ D := ne_of_none hd1 hD
    refine lc_each (g := gName 1) (te := tTup (tCons (tVar 1) (tCons (tCall (sp_law_made_kind K CT 3) [] E0 (tCons (tDGet (tVar 0) (tVar 1)) tNil)) tNil))) walk_keys hD (by omega) (fun H2 s2 => s2 _ _ hd1) (fun i y H' => ∃ q v t, ps[i]? = some q ∧ y = .ref t ∧ H' t = some (.tup [.str q.1, v]) ∧ TyO K CT H' v q.2) (fun i y H2 H3 l hl sb ⟨q, v, t, h1, h2, h3, h4⟩ => ⟨q, v, t, h1, h2, (sb.sL hl rfl) _ _ rfl h3, h4.sameL (sb.sL hl rfl)⟩) (fun i z H2 H3 hi s2 hl2 y Qy hy => ?_) (fun H2 acc s2 hacc hla hr2 => ?_)
    · obtain ⟨rfl, c, v, hc, rfl⟩ := y
      obtain ⟨x, k1, hx, rfl, dk⟩ := hkv.get hc
      obtain ⟨hxw, hkin⟩ := hL.each _ (List.mem_of_getElem? hx)
      dsimp only at hxw hkin
      have hwk := kdIn_wds hkin
      obtain ⟨hka, hkp, hko2⟩ := hkin
      have hv : valV kvs (.inr x) = some v := valV_at (hkv.nodup hL.nd) (List.mem_of_getElem? hc)
      have dk2 := Dp.sameL (SameL.trans sl (Fp.sL s2)) (noL_kd k1) dk
      refine ⟨rfl, _, rfl, _, rfl, _, rfl, d, v, rfl, .inl ⟨kvs, .inr x, .inr ⟨od, s2 _ _ hd1⟩, rfl, hv.symm⟩, v, k1, rfl, dk2, hwk, by omega, by omega, by omega, fun v' H4 s4 ty => ⟨szl (by show 2 ≤ 16777216; decide), fun t ht => ?_⟩⟩
      have s5 := same_new (o := .tup [V.str x, v']) ht
      exact hy _ _ (Same.trans s4 s5) ⟨(x, k1), v', t, hx, rfl, upd_same, ty.same s5⟩
    have sb := lock_back hd s2
    have hd2 := s2 _ _ hd1
    have sl2 : SameL H2 (upd H2 d (.dK kvs)) := sameL_upd hd2 rfl
    obtain ⟨ts, kvs2, e1, e2, e3, e4⟩ := made_pairs (K := K) (CT := CT) (H := upd H2 d (.dK kvs)) (by rw [hla, hlen]) (fun i y e => by
      obtain ⟨q, v, t, h1, h2, h3, h4⟩ := hr2 i y e
      exact ⟨q, v, t, h1, h2, sl2 _ _ rfl h3, h4.sameL sl2⟩)
    have hD3 : (upd H2 d (.dK kvs)) D = some (.lst (ts.map V.ref)) := by rw [upd_ne nDd.symm, hacc, e1]
    refine ⟨hd2, D, ts, kvs2, rfl, SqL.of hD3, Paired.mapP e2 fun _ _ h => SqT.of h, fun p hp => ?_⟩
    rw [mergeK_new kvs2 [] (fun _ _ z => by cases z) (by rw [e4]; exact nodup_inr hL.nd), List.nil_append]
    generalize (upd H2 d (.dK kvs)) = H3 at *
    have s3 := same_new (o := .dK kvs2) hp
    intro o dx ho hdx hne
    refine ⟨upd H3 p (.dK kvs2), o, dx, _, ps, rfl, same_upd (same_new hdx) (by rw [upd_ne hne.symm]; exact ho), ho, upd_same, .inr ⟨p, kvs2, rfl, upd_same, e3.same s3⟩, ⟨fun q hq => (hL.each q hq).1, hL.nd, by omega, fun q hq => ⟨kdIn_wds (hL.each q hq).2, by have := (hL.each q hq).2.2.1; omega⟩⟩, fun h8 H6 ps' s6 hp' hs' hL' => ⟨rfl, k _ ps' H6 (Same.trans sb (Same.trans s3 s6)) hp' hs' hL'⟩, fun h8 => absurd h8 (by omega)⟩
end
end Fp
/-! W31: _law_library_atoms, _law_goal -/
namespace Fp
open PySem PySem.Spec PyProof.Rows L2 TL
section
variable {P : Program} {w : World} {K : PySem.W.Frag} {mg : Str → Option Value} {base : Heap}
abbrev s__law_library_atoms : Stmt := top 81
abbrev N__law_library_atoms : List Str := ["_law_library_here", "_law_found", "_law_name"]
theorem sc__law_library_atoms : FnScope N__law_library_atoms ["_law_library_here"] (defScope s__law_library_atoms) := ⟨rfl, rfl, rfl, by decide +kernel, rfl, by decide +kernel, by decide +kernel⟩
def sp_law_library_atoms (K : PySem.W.Frag) : Sp := fun vs H Q _ => ∃ d kvs ps, vs = [.ref d] ∧ H d = some (.dK kvs) ∧ KvD K H kvs ps ∧ LibP ps ∧ ∀ (p : Addr) (ys : List Str) (H' : Hp), Same H H' → H p = none → H' p = some (.lst (ys.map V.str)) → (∀ x ∈ ys, x ∈ A4) → ys.length ≤ 100 → Q (.ref p) H'
theorem ok_law_library_atoms {f : Addr} {fd : FuncData} (F : Fun K "_law_library_atoms" "_law_library_atoms" s__law_library_atoms f fd) (N : Nm mg) (c__law_atoms_of : Cal P w K mg base CX0 4 "_law_atoms_of" (sp_law_atoms_of K 3)) : FnOk P w K mg base CX0 5 f fd ["_law_library_here"] (sp_law_library_atoms K) := by
  refine F.ok sc__law_library_atoms (fun vs H Q E h => ?_) (fun cdv A outer s H vs Q E hr h => ?_)
  · obtain ⟨d, kvs, ps, rfl, _⟩ := h
    rfl
  · obtain ⟨d, kvs, ps, rfl, hd, hkv, hL, k⟩ := h
    refine ⟨_, (pss_cons (ps_set (i := 1) sc__law_library_atoms.nd rfl (Or.inl rfl) (pe_lst pa_nil))
      (pss_cons (ps_lock (ps_for PassesOwn.never rfl (pi_keys (pv 0)) (pg_name (i := 2) sc__law_library_atoms.nd rfl (Or.inl rfl)) (pss_one (ps_set (i := 1) sc__law_library_atoms.nd rfl (Or.inl rfl) (pe_op op_cat (pv 1) (pe_c c__law_atoms_of hr (ha := (pa_cons (pe_dget (hu_of hr) (pv 0) (pv 2) (fun _ _ => rfl)) pa_nil))))))))
      (pss_one (ps_ret (pe_callB (cr_sortTx rfl) (by rfl) N.sorted (by decide +kernel) (pa_cons (pe_callTy (cr_setTx rfl) (by rfl) N.set (by decide +kernel) (pa_cons (pv 1) pa_nil)) pa_nil)))))), ?_⟩
    have hle := hL.le
    have hlen := hkv.length
    refine ⟨Nat.zero_le _, fun R hR => ?_⟩
    have s1 := same_new (o := .lst []) hR
    have e1 : (upd H R (.lst [])) R = some (.lst (([] : List Str).map V.str)) := upd_same
    have hd1 := s1 _ _ hd
    generalize (upd H R (.lst [])) = H1 at *
    refine ⟨d, _, hd1, True.intro, fun od => ?_⟩
    have nRd : R ≠ d := ne_of e1 hd1 (by intro z; cases z)
    have sl : SameL H1 (upd H1 d (.frz od (.dK kvs))) := sameL_upd hd1 rfl
    have hd2 : (upd H1 d (.frz od (.dK kvs))) d = some (.frz od (.dK kvs)) := upd_same
    refine ⟨_, rfl, d, od, rfl, .inl ⟨kvs, hd2, ?_⟩⟩
    refine for_it walk_keys (fun i σ H2 => ∃ (R : Addr) (xs : List Str) (s2 : Option V), σ = [some (.ref d), some (.ref R), s2] ∧ H2 R = some (.lst (xs.map V.str)) ∧ (∀ x ∈ xs, x ∈ A4) ∧ xs.length ≤ 4 * i ∧ Same (upd H1 d (.frz od (.dK kvs))) H2)
      ⟨R, [], _, rfl, by rw [upd_ne nRd]; exact e1, (fun x hx => by cases hx), Nat.le_refl _, Same.refl _⟩ (fun i σ H2 _ ⟨_, _, _, _, _, _, _, s2⟩ => s2 _ _ hd2) (fun i z σ Hx H2 hi ⟨R, xs, sx, hσ, hR2, hxs, hxl, s2⟩ y => ?_) (fun σ H2 ⟨R, xs, sx, hσ, hR2, hxs, hxl, s2⟩ => ?_)
    · subst hσ
      obtain ⟨rfl, c, v, hc, rfl⟩ := y
      obtain ⟨x, k1, hx, rfl, dk⟩ := hkv.get hc
      obtain ⟨hxw, hka, hkp, hko⟩ := hL.each _ (List.mem_of_getElem? hx)
      dsimp only at hka hkp hko
      have hv : valV kvs (.inr x) = some v := valV_at (hkv.nodup hL.nd) (List.mem_of_getElem? hc)
      have dk2 := Dp.sameL (SameL.trans (Fp.sL s1) (SameL.trans sl (Fp.sL s2))) (noL_kd k1) dk
      refine ⟨_, rfl, _, rfl, _, rfl, d, v, rfl, .inl ⟨kvs, .inr x, .inr ⟨od, s2 _ _ hd2⟩, rfl, hv.symm⟩, v, k1, rfl, dk2, by omega, by omega, fun p H4 s4 hpn hp4 => ?_⟩
      have hal := atomsK_len k1
      refine ⟨R, p, _, _, rfl, rfl, s4 _ _ hR2, hp4, szl (by rw [List.length_map, List.length_map]; omega), fun q hq => ?_⟩
      have s5 := same_new (o := .lst (xs.map V.str ++ (atomsK k1).map V.str)) hq
      refine ⟨q, xs ++ atomsK k1, _, rfl, by rw [upd_same, List.map_append], ?_, by rw [List.length_append]; omega, Same.trans s2 (Same.trans s4 s5)⟩
      intro y hy
      rcases List.mem_append.mp hy with hy | hy
      · exact hxs y hy
      · exact hka y hy
    · subst hσ
      have nR2 : R ≠ d := ne_of hR2 (s2 _ _ hd2) (by intro z; cases z)
      have sb := Same.trans s1 (lock_back hd1 s2)
      have hR3 : (upd H2 d (.dK kvs)) R = some (.lst (xs.map V.str)) := by rw [upd_ne nR2]; exact hR2
      refine ⟨s2 _ _ hd2, ?_⟩
      generalize (upd H2 d (.dK kvs)) = H3 at *
      have hsl := seen_len xs.reverse
      rw [List.length_reverse] at hsl
      refine ⟨_, rfl, R, xs, rfl, SqL.of hR3, by omega, fun a ha => ?_⟩
      have s4 := same_new (o := TxO P w a (seen xs.reverse)) ha
      refine ⟨a, _, rfl, upd_same, by omega, fun ys p hperm hsort hp => ?_⟩
      have s5 := same_new (o := .lst (ys.map V.str)) hp
      have s45 := Same.trans sb s4
      refine k p ys _ (Same.trans s45 s5) (Same.free s45 hp) upd_same (fun x hx => ?_) (by rw [hperm.length_eq]; omega)
      have h1 := hperm.mem_iff.mp hx
      exact hxs x (List.mem_reverse.mp (mem_seen.mp h1))
/-! ### _law_goal -/
abbrev s__law_goal : Stmt := top 82
abbrev N__law_goal : List Str := ["_law_dice_here", "_law_library_here", "_law_atoms"]
theorem sc__law_goal : FnScope N__law_goal ["_law_dice_here", "_law_library_here"] (defScope s__law_goal) := ⟨rfl, rfl, rfl, by decide +kernel, rfl, by decide +kernel, by decide +kernel⟩
def A5 : List Str := ["a", "b", "c", "n", "d"]
theorem A4_A5 {x : Str} (h : x ∈ A4) : x ∈ A5 := by
  have : A4.all (fun x => decide (x ∈ A5)) = true := by decide +kernel
  simpa using List.all_eq_true.mp this x h
def sp_law_goal (K : PySem.W.Frag) : Sp := fun vs H Q _ => ∃ D d kvs ps, vs = [.ref D, .ref d] ∧ DiO H D ∧ H d = some (.dK kvs) ∧ KvD K H kvs ps ∧ LibP ps ∧ ∀ v k H', SameB D H H' → DiO H' D → Dp K H' v (kdD k) → KdIn A5 5 2 k → Q v H'
theorem ok_law_goal {f : Addr} {fd : FuncData} (F : Fun K "_law_goal" "_law_goal" s__law_goal f fd) (N : Nm mg) (c__law_library_atoms : Cal P w K mg base CX0 5 "_law_library_atoms" (sp_law_library_atoms K)) (c__law_pick : Cal P w K mg base CX0 2 "_law_pick" (sp_law_pick K)) (c__law_kind : Cal P w K mg base CX0 6 "_law_kind" (sp_law_kind K 3)) : FnOk P w K mg base CX0 7 f fd ["_law_dice_here", "_law_library_here"] (sp_law_goal K) := by
  refine F.ok sc__law_goal (fun vs H Q E h => ?_) (fun cdv A outer s H vs Q E hr h => ?_)
  · obtain ⟨D, d, kvs, ps, rfl, _⟩ := h
    rfl
  · obtain ⟨D, d, kvs, ps, rfl, hD, hd, hkv, hL, k⟩ := h
    refine ⟨_, (pss_cons (ps_set (i := 2) sc__law_goal.nd rfl (Or.inl rfl) (pe_c c__law_library_atoms hr (ha := (pa_cons (pv 1) pa_nil))))
      (pss_one (ps_ret (pe_c c__law_kind hr (ha := (pa_cons (pv 0) (pa_cons (pe_op op_cat (pe_op op_cat (pv 2) (pv 2)) (pe_lst (pa_cons pe_str pa_nil))) (pa_cons (pe_c c__law_pick hr (ha := (pa_cons (pv 0) (pa_cons (pe_lst (pa_cons pe_int (pa_cons pe_int (pa_cons pe_int (pa_cons pe_int pa_nil))))) pa_nil)))) (pa_cons pe_int pa_nil))))))))), ?_⟩
    refine ⟨_, rfl, d, kvs, ps, rfl, hd, hkv, hL, fun p ys H1 s1 hpn hp1 hys hyl => ?_⟩
    refine ⟨_, rfl, _, rfl, _, rfl, p, p, _, _, rfl, rfl, hp1, hp1, szl (by rw [List.length_map]; omega), fun q hq => ?_⟩
    have s2 := same_new (o := .lst (ys.map V.str ++ ys.map V.str)) hq
    have e2 : (upd H1 q (.lst (ys.map V.str ++ ys.map V.str))) q = some (.lst (ys.map V.str ++ ys.map V.str)) := upd_same
    generalize (upd H1 q (.lst (ys.map V.str ++ ys.map V.str))) = H2 at *
    refine ⟨szl (by show 1 ≤ 16777216; decide), fun r hr0 => ?_⟩
    have s3 := same_new (o := .lst [V.str (Str.ofString "d")]) hr0
    have e3 : (upd H2 r (.lst [V.str (Str.ofString "d")])) r = some (.lst [V.str (Str.ofString "d")]) := upd_same
    have e2' := s3 _ _ e2
    generalize (upd H2 r (.lst [V.str (Str.ofString "d")])) = H3 at *
    refine ⟨q, r, _, _, rfl, rfl, e2', e3, szl (by rw [List.length_append, List.length_map]; show _ + 1 ≤ _; omega), fun t ht => ?_⟩
    have s4 := same_new (o := .lst (ys.map V.str ++ ys.map V.str ++ [V.str (Str.ofString "d")])) ht
    have e4 : (upd H3 t (.lst (ys.map V.str ++ ys.map V.str ++ [V.str (Str.ofString "d")]))) t = some (.lst ((ys ++ ys ++ [Str.ofString "d"]).map V.str)) := by rw [upd_same, List.map_append, List.map_append]; rfl
    have s03 := Same.trans s1 (Same.trans s2 s3)
    have htD : t ≠ D := (hD.same s03).ne ht
    have s04 := Same.trans s03 s4
    generalize (upd H3 t (.lst (ys.map V.str ++ ys.map V.str ++ [V.str (Str.ofString "d")]))) = H4 at *
    have hD4 := hD.same s04
    refine ⟨_, rfl, szl (by show 4 ≤ 16777216; decide), fun u hu => ?_⟩
    have s5 := same_new (o := .lst [V.int 0, V.int 1, V.int 1, V.int 2]) hu
    refine ⟨D, u, _, rfl, hD4.same s5, SqL.of upd_same, hD4.ne hu, by show 1 ≤ 4; decide, by show 4 ≤ 1000000; decide, fun v2 H6 hv2 hs6 hD6 => ?_⟩
    obtain ⟨o2, rfl, ho2⟩ : ∃ o2 : Nat, v2 = .int (o2 : Int) ∧ o2 ≤ 2 := by
      simp only [List.mem_cons, List.not_mem_nil, or_false] at hv2
      rcases hv2 with rfl | rfl | rfl | rfl
      · exact ⟨0, rfl, by decide⟩
      · exact ⟨1, rfl, by decide⟩
      · exact ⟨1, rfl, by decide⟩
      · exact ⟨2, rfl, by decide⟩
    have hs46 : SameB D H4 H6 := SameB.new hu hs6
    refine ⟨D, t, ys ++ ys ++ [Str.ofString "d"], o2, 5, rfl, hD6, SqL.of (hs46 _ _ htD e4), htD, by simp, by rw [List.length_append, List.length_append]; show _ + 1 ≤ _; omega, by decide, by decide, by omega, fun v3 k3 H7 hs7 hD7 d3 hk3 => ?_⟩
    refine k v3 k3 H7 ((sB s04).trans (hs46.trans hs7)) hD7 d3 (hk3.mono (fun x hx => ?_) (Nat.le_refl _) ho2)
    rcases List.mem_append.mp hx with hx | hx
    · rcases List.mem_append.mp hx with hx | hx
      · exact A4_A5 (hys x hx)
      · exact A4_A5 (hys x hx)
    · rw [List.mem_singleton.mp hx]
      decide +kernel
end
end Fp
/-! R10: list(d.values()) -/
namespace Fp
open PySem PySem.Spec PyProof.Rows L2
theorem kv_snd : ∀ {kvs : List (Key × V)} {vs : List (Key × Value)}, KV kvs vs → Vals (kvs.map Prod.snd) (vs.map Prod.snd)
  | _, _, .nil => .nil
  | _, _, .cons r t => .cons r.2 (kv_snd t)
theorem snd_at : ∀ {us : List Value} {vs : List (Key × Value)}, us.length = vs.length → (∀ (j : Nat) (u : Value), us[j]? = some u → ∃ k, vs[j]? = some (k, u)) → us = vs.map Prod.snd
  | [], [], _, _ => rfl
  | u :: us, q :: vs, hl, h => by
    obtain ⟨k, e⟩ := h 0 u rfl
    have e' : q = (k, u) := Option.some.inj e
    rw [List.map_cons, e', ← snd_at (us := us) (vs := vs) (by simpa using hl) fun j u e => h (j + 1) u (by simpa using e)]
  | [], _ :: _, hl, _ => by simp at hl
  | _ :: _, [], hl, _ => by simp at hl
def tListVals (te : TE) : TE := fun σ H Q => te σ H fun x H1 => ∃ (d : Addr) (kvs : List (Key × V)), x = .ref d ∧ H1 d = some (.dK kvs) ∧ ∀ p, H1 p = none → Q (.ref p) (upd H1 p (.lst (kvs.map Prod.snd)))
section
variable {X : Cx} {e : Expr} {te : TE} {p apos cpos pos : Pos}
theorem pe_listVals (hc : X.calm = true) (he : PE X e te) (hg : Gl X "list") (hm : X.mg "list" = none) (hv : bootBuiltins "list" = some (.type "list")) (hbase : attributeBase e "values" X.env (eval e X.env) = eval e X.env := by rfl) (hline : (apos.endLine == cpos.line) = true := by rfl)
    (hs : starEach [.Call (.Attribute e "values" apos) [] [] cpos] X.env = (false, eval (.Call (.Attribute e "values" apos) [] [] cpos) X.env) :: starEach [] X.env := by rfl) :
    PE X (.Call (.Name "list" p) [.Call (.Attribute e "values" apos) [] [] cpos] [] pos) (tListVals te) := by
  refine ⟨fun pn s0 τ G Qv J hq => ?_⟩
  refine wpAny_Call_Name_kw (ld_blt J hg hm hv (PyProof.Rows.callWith_type1 ?_ hs rfl))
  rw [hs]
  show wpAny _ _ (spliced ((false, eval (.Call (.Attribute e "values" apos) [] [] cpos) X.env) :: backTo pos (starEach [] X.env))) _ _ s0
  refine Calls.spliced_cons (wpAny_Call_method (T := "dict") (id := "dict.values") hbase rfl hline F.plainAttrs_dict F.slot_dict_values F.type_dict_values (thn (he.run pn s0 τ G _ J hq) fun u s1 ⟨x, G1, J1, rx, d, kvs, ex, hd, q⟩ => ?_))
  subst ex
  obtain rfl : u = Value.ref d := rx
  obtain ⟨hz, hs0, vs, kv, hdo⟩ := J1.hok d _ hd
  obtain ⟨ep, hat⟩ := hdo.dictAt
  have hl : kvs.length = vs.length := Paired.length kv
  have J2 : Inv X pn τ G1 { s1 with heap := s1.heap.push { cls := .type "dict_values", data := .fields #[.ref d] } } := J1.kept (t' := s1.toks) fun b ob q => Heap.get?_push_of_some _ q
  refine ⟨hdo.typeIs, hdo.mapOf.noDict, ?_⟩
  show wpAny _ _ (callWith cpos (.builtin "dict.values") [.ref d] [] []) _ X.xe s1
  refine method_meetsIn F.slot_dict_values F.entry_dict_values rfl (PySem.evalArgs_none ⟨rfl, hdo.typeIs, F.args_dict_values_1 _, _, meets_dict_values (mixKind X.prog X.w) d hs0, ⟨vs, hdo⟩, Calls.spliced_nil ?_⟩)
  refine PySem.W.kdl_call (PySem.W.kdl_values (knd := mixKind X.prog X.w) (kvs := vs) (ep := ep) (r := s1.heap.objs.size) (d := d)) (J1.ok.hd hc) ⟨⟨_, Heap.get?_push_size _ rfl, rfl, rfl⟩, hat.push _⟩ (by rw [← hl]; exact hz) fun h' tk acc c' hk hD hacc => ?_
  have ea : acc.toList = vs.map Prod.snd := snd_at (by rw [Array.length_toList]; exact hacc.1) fun j u e => hacc.2 j u (by rw [← Array.getElem?_toList]; exact e)
  refine ⟨.ref _, upd G1 _ (.lst (kvs.map Prod.snd)), J2.laid (t' := tk) hk (Nat.le_refl _)
    (show ObjOk X.prog X.w _ _ _ (.lst (kvs.map Prod.snd)) from ⟨by rw [List.length_map]; exact hz, acc.toList, c', by rw [ea]; exact kv_snd kv, by rw [Array.toArray_toList]; exact hD⟩), rfl, q _ (J2.hok.fresh (Nat.le_refl _))⟩
end
end Fp
/-! W32: _law_kind_dict -/
namespace Fp
open PySem PySem.Spec PyProof.Rows L2 TL
mutual
theorem unders_prop : ∀ (k : Kd), wds k = true → ∀ j ∈ undersK k, wds j = true ∧ plc j ≤ plc k ∧ ordK j ≤ ordK k
  | .mk as a, h, j, hj => by
    rw [undersK] at hj
    have h' := h
    rw [wds_mk, Bool.and_eq_true] at h'
    rcases List.mem_cons.mp hj with rfl | hj
    · exact ⟨h, Nat.le_refl _, Nat.le_refl _⟩
    · obtain ⟨h1, h2, h3⟩ := unders_props as h'.2 j hj
      rw [plc_mk, ordK_mk]
      exact ⟨h1, by omega, by omega⟩
theorem unders_props : ∀ (ks : List Kd), wdss ks = true → ∀ j ∈ undersKs ks, wds j = true ∧ plc j ≤ plcs ks ∧ ordK j + 1 ≤ ordKs ks
  | [], _, j, hj => by rw [undersKs] at hj; cases hj
  | k :: ks, h, j, hj => by
    rw [undersKs] at hj
    rw [wdss_cons, Bool.and_eq_true] at h
    rw [plcs_cons, ordKs_cons]
    rcases List.mem_append.mp hj with hj | hj
    · obtain ⟨h1, h2, h3⟩ := unders_prop k h.1 j hj
      exact ⟨h1, by omega, by omega⟩
    · obtain ⟨h1, h2, h3⟩ := unders_props ks h.2 j hj
      exact ⟨h1, by omega, by omega⟩
end
theorem undersKs_mem {ks : List Kd} {j : Kd} : j ∈ undersKs ks ↔ ∃ k ∈ ks, j ∈ undersK k := by
  induction ks with
  | nil => rw [undersKs]; simp
  | cons k ks ih => rw [undersKs, List.mem_append, ih]; simp
theorem undersK_self (k : Kd) : k ∈ undersK k := by rw [undersK_args]; simp
theorem undersK_arg {k j : Kd} (h : j ∈ k.args) : j ∈ undersK k := by
  rw [undersK_args]
  exact List.mem_cons_of_mem _ (undersKs_mem.mpr ⟨j, h, undersK_self j⟩)
mutual
theorem undersK_trans : ∀ (k : Kd) (j : Kd), j ∈ undersK k → ∀ i ∈ undersK j, i ∈ undersK k
  | .mk as a, j, hj, i, hi => by
    rw [undersK] at hj ⊢
    rcases List.mem_cons.mp hj with rfl | hj
    · rw [undersK] at hi; exact hi
    · exact List.mem_cons_of_mem _ (undersKs_trans as j hj i hi)
theorem undersKs_trans : ∀ (ks : List Kd) (j : Kd), j ∈ undersKs ks → ∀ i ∈ undersK j, i ∈ undersKs ks
  | [], j, hj, i, hi => by rw [undersKs] at hj; cases hj
  | k :: ks, j, hj, i, hi => by
    rw [undersKs] at hj ⊢
    rcases List.mem_append.mp hj with hj | hj
    · exact List.mem_append_left _ (undersK_trans k j hj i hi)
    · exact List.mem_append_right _ (undersKs_trans ks j hj i hi)
end
/-- a kind that may be written -/
def KdOk (k : Kd) : Prop := wds k = true ∧ plc k ≤ 5 ∧ ordK k ≤ 2
theorem txt_inj {j k : Kd} (hj : KdOk j) (hk : KdOk k) (e : txt j = txt k) : j = k := by
  have h1 := parse_txt hj.1 (by have := hj.2.2; omega) (by have := hj.2.1; omega)
  have h2 := parse_txt hk.1 (by have := hk.2.2; omega) (by have := hk.2.1; omega)
  rw [e, h2] at h1
  exact (Option.some.inj h1).symm
theorem kdOk_under {ks : List Kd} (h : ∀ k ∈ ks, KdOk k) {j : Kd} (hj : j ∈ undersKs ks) : KdOk j := by
  obtain ⟨k, hk, hjk⟩ := undersKs_mem.mp hj
  obtain ⟨h1, h2, h3⟩ := h k hk
  obtain ⟨g1, g2, g3⟩ := unders_prop k h1 j hjk
  exact ⟨g1, by omega, by omega⟩
/-- the dict from texts to kinds: it has all of U -/
def KT (K : PySem.W.Frag) (H : Hp) (kvs : List (Key × V)) (U : List Kd) : Prop := ∀ k ∈ U, ∃ v, valV kvs (.inr (txt k)) = some v ∧ Dp K H v (kdD k)
theorem KT.sameL {K : PySem.W.Frag} {H H' : Hp} {kvs : List (Key × V)} {U : List Kd} (s : SameL H H') (h : KT K H kvs U) : KT K H' kvs U := fun k hk => by
  obtain ⟨v, h1, h2⟩ := h k hk
  exact ⟨v, h1, Dp.sameL s (noL_kd k) h2⟩
theorem KT.put {K : PySem.W.Frag} {H : Hp} {kvs : List (Key × V)} {U : List Kd} {k1 : Kd} {v : V} (hU : ∀ k ∈ U, KdOk k) (h1 : KdOk k1) (h : KT K H kvs U) (d : Dp K H v (kdD k1)) : KT K H (putK kvs (.inr (txt k1)) v) (U ++ [k1]) := fun k hk => by
  rw [valV_put]
  by_cases e : txt k = txt k1
  · rw [if_pos (by rw [e])]
    have : k = k1 := by
      rcases List.mem_append.mp hk with hk | hk
      · exact txt_inj (hU k hk) h1 e
      · exact List.mem_singleton.mp hk
    rw [this]
    exact ⟨v, rfl, d⟩
  · rw [if_neg (fun z => e (Sum.inr.inj z))]
    rcases List.mem_append.mp hk with hk | hk
    · exact h k hk
    · exact absurd (by rw [List.mem_singleton.mp hk]) e
theorem kvd_snd {K : PySem.W.Frag} {H : Hp} : ∀ {kvs : List (Key × V)} {ps : List (Str × Kd)}, KvD K H kvs ps → DpAll K H (kvs.map Prod.snd) (kdDs (ps.map Prod.snd))
  | _, _, .nil => .nil
  | _, _, .cons h t => .cons h (kvd_snd t)
section
variable {P : Program} {w : World} {K : PySem.W.Frag} {mg : Str → Option Value} {base : Heap}
abbrev s__law_kind_dict : Stmt := top 84
abbrev N__law_kind_dict : List Str := ["_law_library_here", "_law_goal_here", "_law_found", "_law_kind_here", "_law_one"]
theorem sc__law_kind_dict : FnScope N__law_kind_dict ["_law_library_here", "_law_goal_here"] (defScope s__law_kind_dict) := ⟨rfl, rfl, rfl, by decide +kernel, rfl, by decide +kernel, by decide +kernel⟩
def sp_law_kind_dict (K : PySem.W.Frag) : Sp := fun vs H Q _ => ∃ d kvs ps gv g, vs = [.ref d, gv] ∧ H d = some (.dK kvs) ∧ KvD K H kvs ps ∧ Dp K H gv (kdD g) ∧ (∀ k ∈ ps.map Prod.snd ++ [g], KdOk k) ∧ ps.length ≤ 5 ∧
  ∀ (e : Addr) (kvs' : List (Key × V)) (H' : Hp), Same H H' → H e = none → H' e = some (.dK kvs') → KT K H' kvs' (undersKs (ps.map Prod.snd ++ [g])) → kvs'.length ≤ 100 → Q (.ref e) H'
theorem ok_law_kind_dict {f : Addr} {fd : FuncData} (F : Fun K "_law_kind_dict" "_law_kind_dict" s__law_kind_dict f fd) (N : Nm mg) (c__law_kinds_under : Cal P w K mg base CX0 4 "_law_kinds_under" (sp_law_kinds_under K 3)) (c__law_text : Cal P w K mg base CX0 4 "_law_text" (sp_law_text K 3)) : FnOk P w K mg base CX0 5 f fd ["_law_library_here", "_law_goal_here"] (sp_law_kind_dict K) := by
  refine F.ok sc__law_kind_dict (fun vs H Q E h => ?_) (fun cdv A outer s H vs Q E hr h => ?_)
  · obtain ⟨d, kvs, ps, gv, g, rfl, _⟩ := h
    rfl
  · obtain ⟨d, kvs, ps, gv, g, rfl, hd, hkv, hg, hok, hpl, k⟩ := h
    refine ⟨_, (pss_cons (ps_set (i := 2) sc__law_kind_dict.nd rfl (Or.inl rfl) pe_dnewK)
      (pss_cons (ps_for PassesOwn.never rfl (pi_list (pe_op op_cat (pe_listVals rfl (pv 0) (by rfl) N.list (by decide +kernel)) (pe_lst (pa_cons (pv 1) pa_nil)))) (pg_name (i := 3) sc__law_kind_dict.nd rfl (Or.inl rfl)) (pss_one (ps_for PassesOwn.never rfl (pi_list (pe_c c__law_kinds_under hr (ha := (pa_cons (pv 3) pa_nil)))) (pg_name (i := 4) sc__law_kind_dict.nd rfl (Or.inl rfl)) (pss_one (ps_asg (pv 4) (pg_sub (pv 2) (pe_c c__law_text hr (ha := (pa_cons (pv 4) pa_nil))) (set_dict (hu_of hr))))))))
      (pss_one (ps_ret (pv 2))))), ?_⟩
    intro D hD
    have sD := same_new (o := .dK []) hD
    have eD : (upd H D (.dK [])) D = some (.dK []) := upd_same
    generalize (upd H D (.dK [])) = H1 at *
    have hlen := hkv.length
    refine ⟨_, rfl, d, kvs, rfl, sD _ _ hd, fun p hp => ?_⟩
    have s2 := same_new (o := .lst (kvs.map Prod.snd)) hp
    have e2 : (upd H1 p (.lst (kvs.map Prod.snd))) p = some (.lst (kvs.map Prod.snd)) := upd_same
    generalize (upd H1 p (.lst (kvs.map Prod.snd))) = H2 at *
    refine ⟨_, rfl, szl (by show 1 ≤ 16777216; decide), fun q hq => ?_⟩
    have s3 := same_new (o := .lst [gv]) hq
    have e3 : (upd H2 q (.lst [gv])) q = some (.lst [gv]) := upd_same
    have e2' := s3 _ _ e2
    generalize (upd H2 q (.lst [gv])) = H3 at *
    refine ⟨p, q, _, _, rfl, rfl, e2', e3, szl (by rw [List.length_map]; show _ + 1 ≤ _; omega), fun r hr0 => ?_⟩
    have s4 := same_new (o := .lst (kvs.map Prod.snd ++ [gv])) hr0
    have e4 : (upd H3 r (.lst (kvs.map Prod.snd ++ [gv]))) r = some (.lst (kvs.map Prod.snd ++ [gv])) := upd_same
    have s04 := Same.trans sD (Same.trans s2 (Same.trans s3 s4))
    have eD4 := s4 _ _ (s3 _ _ (s2 _ _ eD))
    generalize (upd H3 r (.lst (kvs.map Prod.snd ++ [gv]))) = H4 at *
    have hws : DpAll K H (kvs.map Prod.snd ++ [gv]) (kdDs (ps.map Prod.snd ++ [g])) := dpAll_cat (kvd_snd hkv) (.cons hg .nil)
    have nrD : r ≠ D := fun z => by rw [z, eD4] at e4; cases e4
    have hwl : (kvs.map Prod.snd ++ [gv]).length = (ps.map Prod.snd ++ [g]).length := by rw [List.length_append, List.length_append, List.length_map, List.length_map, hlen]; rfl
    have hkl : (ps.map Prod.snd ++ [g]).length ≤ 6 := by rw [List.length_append, List.length_map]; show _ + 1 ≤ 6; omega
    generalize kvs.map Prod.snd ++ [gv] = ws at *
    generalize ps.map Prod.snd ++ [g] = ks at *
    refine ⟨r, rfl, ⟨_, SqL.of e4⟩, ?_⟩
    refine for_it walk_list (fun i σ H5 => ∃ (kv5 : List (Key × V)) (s3 s4 : Option V), σ = [some (.ref d), some gv, some (.ref D), s3, s4] ∧ H5 D = some (.dK kv5) ∧ KT K H5 kv5 (undersKs (ks.take i)) ∧ kv5.length ≤ 5 * i ∧ Same H H5 ∧ H5 r = some (.lst ws))
      ⟨[], _, _, rfl, eD4, (fun j hj => by rw [List.take_zero, undersKs] at hj; cases hj), Nat.le_refl _, s04, e4⟩ (fun i σ H5 _ ⟨_, _, _, _, _, _, _, _, h⟩ => SqL.of h) (fun i z σ Hx H5 hi ⟨kv5, s3', s4', hσ, hD5, hKT, hl5, s05, hr5⟩ y => ?_) (fun σ H5 ⟨kv5, s3', s4', hσ, hD5, hKT, hl5, s05, hr5⟩ => ?_)
    · subst hσ
      obtain ⟨rfl, hz⟩ := y
      obtain ⟨k1, hk1, d1⟩ := dpAll_getV hws hz
      have hk1m := List.mem_of_getElem? hk1
      have hk1ok := hok k1 hk1m
      refine ⟨_, rfl, z, k1, rfl, Dp.same s05 d1, by have := hk1ok.2.1; omega, by have := hk1ok.2.2; omega, fun u us H6 s6 hun hu6 hus => ?_⟩
      refine ⟨u, rfl, ⟨_, SqL.of hu6⟩, ?_⟩
      have nuD : u ≠ D := fun z => by rw [z, hD5] at hun; cases hun
      have husl : us.length = (undersK k1).length := by have := dpAll_length hus; rwa [kdDs_length] at this
      have hul := undersK_len k1
      refine for_it walk_list (fun j σ H7 => ∃ (kv7 : List (Key × V)) (s4 : Option V), σ = [some (.ref d), some gv, some (.ref D), some z, s4] ∧ H7 D = some (.dK kv7) ∧ KT K H7 kv7 (undersKs (ks.take i) ++ (undersK k1).take j) ∧ kv7.length ≤ 5 * i + j ∧ Same H H7 ∧ H7 r = some (.lst ws) ∧ H7 u = some (.lst us) ∧ DpAll K H7 us (kdDs (undersK k1)))
        ⟨kv5, _, rfl, s6 _ _ hD5, by rw [List.take_zero, List.append_nil]; exact hKT.sameL (Fp.sL s6), by omega, Same.trans s05 s6, s6 _ _ hr5, hu6, hus⟩ (fun j σ H7 _ ⟨_, _, _, _, _, _, _, _, h, _⟩ => SqL.of h) (fun j z2 σ Hx H7 hj ⟨kv7, s4', hσ, hD7, hKT7, hl7, s07, hr7, hu7, hus7⟩ y => ?_) (fun σ H7 ⟨kv7, s4', hσ, hD7, hKT7, hl7, s07, hr7, hu7, hus7⟩ => ?_)
      · subst hσ
        obtain ⟨rfl, hz2⟩ := y
        obtain ⟨k2, hk2, d2⟩ := dpAll_getV hus7 hz2
        have hk2ok : KdOk k2 := kdOk_under hok (undersKs_mem.mpr ⟨k1, hk1m, List.mem_of_getElem? hk2⟩)
        refine ⟨_, rfl, _, rfl, _, rfl, z2, k2, rfl, d2, hk2ok.1, by have := hk2ok.2.1; omega, by have := hk2ok.2.2; omega, fun H8 s8 => ?_⟩
        have hD8 := s8 _ _ hD7
        have sl : SameL H8 (upd H8 D (.dK (putK kv7 (.inr (txt k2)) z2))) := sameL_upd hD8 rfl
        have hpk := length_putK kv7 (Sum.inr (txt k2)) z2
        have hk1p := hk1ok.2.1
        refine ⟨D, _, rfl, .inl ⟨kv7, .inr (txt k2), hD8, rfl, szlt (by omega), rfl⟩, putK kv7 (.inr (txt k2)) z2, _, rfl, upd_same, ?_, by omega, same_put (Same.trans s07 s8) hD, by rw [upd_ne nrD]; exact s8 _ _ hr7, by rw [upd_ne nuD]; exact s8 _ _ hu7, DpAll.sameL (SameL.trans (Fp.sL s8) sl) (noL_kds _) hus7⟩
        rw [take_snoc hk2, ← List.append_assoc]
        refine KT.put (fun j hj => ?_) hk2ok (hKT7.sameL (SameL.trans (Fp.sL s8) sl)) (Dp.sameL (SameL.trans (Fp.sL s8) sl) (noL_kd k2) d2)
        rcases List.mem_append.mp hj with hj | hj
        · exact kdOk_under (fun k hk => hok k (List.mem_of_mem_take hk)) hj
        · exact kdOk_under hok (undersKs_mem.mpr ⟨k1, hk1m, List.mem_of_mem_take hj⟩)
      · subst hσ
        rw [husl, List.take_length] at hKT7
        refine ⟨kv7, _, _, rfl, hD7, ?_, ?_, s07, hr7⟩
        · rw [take_snoc hk1, undersKs_snoc]
          exact hKT7
        · have hk1p := hk1ok.2.1
          omega
    · subst hσ
      rw [hwl, List.take_length] at hKT
      exact ⟨_, rfl, k D kv5 H5 s05 hD hD5 hKT (by omega)⟩
end
end Fp
/-! W33: _law_question, _law_first, _law_subs, _law_question_line -/
namespace Fp
open PySem PySem.Spec PyProof.Rows L2 TL
/-- the question of the kind k where sc is in scope -/
def QFor (sc : List Str) (k : Kd) (q : Qn) : Prop := (q.1.Pairwise fun a b => ltT a b = true) ∧ (∀ x, x ∈ q.1 ↔ x ∈ sc ∨ x ∈ k.args.map txt) ∧ q.2 = k.atom
section
variable {P : Program} {w : World} {K : PySem.W.Frag} {mg : Str → Option Value} {base : Heap}
abbrev s__law_question : Stmt := top 85
abbrev N__law_question : List Str := ["_law_scope", "_law_kind_here", "_law_one"]
theorem sc__law_question : FnScope N__law_question ["_law_scope", "_law_kind_here"] (defScope s__law_question) := ⟨rfl, rfl, rfl, by decide +kernel, rfl, by decide +kernel, by decide +kernel⟩
def sp_law_question (K : PySem.W.Frag) : Sp := fun vs H Q _ => ∃ p sc kv k, vs = [.ref p, kv] ∧ (SqL K H p (sc.map V.str) ∨ SqT K H p (sc.map V.str)) ∧ Dp K H kv (kdD k) ∧ KdOk k ∧ sc.length ≤ 200 ∧ ∀ (v : V) (q : Qn) (H' : Hp), Same H H' → Dp K H' v (qD q) → QFor sc k q → Q v H'
theorem ok_law_question {f : Addr} {fd : FuncData} (F : Fun K "_law_question" "_law_question" s__law_question f fd) (N : Nm mg) (c__law_text : Cal P w K mg base CX0 4 "_law_text" (sp_law_text K 3)) : FnOk P w K mg base CX0 5 f fd ["_law_scope", "_law_kind_here"] (sp_law_question K) := by
  refine F.ok sc__law_question (fun vs H Q E h => ?_) (fun cdv A outer s H vs Q E hr h => ?_)
  · obtain ⟨p, sc, kv, k, rfl, _⟩ := h
    rfl
  · obtain ⟨p, sc, kv, k, rfl, hsc, dk, hk, hsl, kQ⟩ := h
    refine ⟨_, (pss_one (ps_ret (pe_tup (pa_cons (pe_callTy call_tuple_of (by rfl) N.tuple (by decide +kernel) (pa_cons (pe_callB (cr_sortTx rfl) (by rfl) N.sorted (by decide +kernel) (pa_cons (pe_callTy (cr_setTx rfl) (by rfl) N.set (by decide +kernel) (pa_cons (pe_op op_cat (pe_callTy call_list_of (by rfl) N.list (by decide +kernel) (pa_cons (pv 0) pa_nil)) (pe_lc (own := [("_law_one", 2)]) (g := gName 2) (tt := tYes) rfl sc__law_question.nd (pi_tup (pe_ix ix_tup (pv 1) pe_int (fun _ _ => rfl))) (blkOk_by (N := N__law_question) (sc := defScope s__law_question) (by decide +kernel)) (fun _ _ _ _ _ => pg_name (i := 2) sc__law_question.nd rfl (Or.inl rfl)) (fun _ _ _ _ _ => pts_nil) (fun _ _ _ _ _ => (pe_c c__law_text hr (ha := (pa_cons (pv 2) pa_nil)))))) pa_nil)) pa_nil)) pa_nil)) (pa_cons (pe_ix ix_tup (pv 1) pe_int (fun _ _ => rfl)) pa_nil))))), ?_⟩
    obtain ⟨a, b, us, rfl, q1, q2, q3⟩ := dp_kd dk
    obtain ⟨hw, hp, ho⟩ := hk
    have hwa := wds_args hw
    have hpa := plc_args k
    have hoa := ordK_args k
    have hl : us.length = k.args.length := by have := dpAll_length q3; rwa [kdDs_length] at this
    have hpl := plcs_length k.args
    refine ⟨_, rfl, p, _, rfl, hsc, fun l hl1 => ?_⟩
    have s1 := same_new (o := .lst (sc.map V.str)) hl1
    have e1 : (upd H l (.lst (sc.map V.str))) l = some (.lst (sc.map V.str)) := upd_same
    generalize (upd H l (.lst (sc.map V.str))) = H1 at *
    refine ⟨_, rfl, a, _, 0, _, rfl, rfl, SqT.same s1 q1, rfl, b, rfl, ⟨us, SqT.same s1 q2⟩, fun D hD => ?_⟩
    refine lc_each walk_tup hD (by omega) (fun H2 s2 => SqT.same (Same.trans s1 s2) q2) (fun i y _ => ∃ j, k.args[i]? = some j ∧ y = .str (txt j)) (fun i y H2 H3 l _ _ r => r) (fun i z H2 H3 hi s2 hl2 y Qy hy => ?_) (fun H2 acc s2 hacc hla hr2 => ?_)
    · obtain ⟨rfl, hz⟩ := y
      obtain ⟨k1, hk1, d1⟩ := dpAll_getV q3 hz
      have hm1 := List.mem_of_getElem? hk1
      have ho1 := ordKs_mem hm1
      have hp1 := plcs_mem hm1
      exact ⟨rfl, _, rfl, z, k1, rfl, Dp.same (Same.trans s1 s2) d1, wdss_mem hwa.2 hm1, by omega, by omega, fun H4 s4 => hy _ _ s4 ⟨k1, hk1, rfl⟩⟩
    have e : acc = (k.args.map txt).map V.str := by
      rw [List.map_map]
      exact eq_map_of (by rw [hla, hl]) fun i y e => by
        obtain ⟨j, h1, h2⟩ := hr2 i y e
        exact ⟨j, h1, h2⟩
    rw [e] at hacc
    refine ⟨l, D, _, _, rfl, rfl, s2 _ _ e1, hacc, szl (by rw [List.length_map, List.length_map, List.length_map]; omega), fun c hc => ?_⟩
    have s12 := Same.trans s1 s2
    have s3 := same_new (o := .lst (sc.map V.str ++ (k.args.map txt).map V.str)) hc
    have e3 : (upd H2 c (.lst (sc.map V.str ++ (k.args.map txt).map V.str))) c = some (.lst ((sc ++ k.args.map txt).map V.str)) := by rw [upd_same, List.map_append]
    generalize (upd H2 c (.lst (sc.map V.str ++ (k.args.map txt).map V.str))) = H3 at *
    have s13 := Same.trans s12 s3
    have hall : (sc ++ k.args.map txt).length ≤ 300 := by rw [List.length_append, List.length_map]; omega
    generalize hxs : sc ++ k.args.map txt = xs at *
    refine ⟨c, xs, rfl, SqL.of e3, by omega, fun st hst => ?_⟩
    have s4 := same_new (o := TxO P w st (seen xs.reverse)) hst
    have hsl2 := seen_len xs.reverse
    rw [List.length_reverse] at hsl2
    refine ⟨st, _, rfl, upd_same, by omega, fun ys t hperm hsort ht => ?_⟩
    have s5 := same_new (o := .lst (ys.map V.str)) ht
    have s15 := Same.trans s13 (Same.trans s4 s5)
    refine ⟨t, _, rfl, .inl ⟨SqL.of upd_same, fun u hu => ?_⟩⟩
    have s6 := same_new (o := .tup (ys.map V.str)) hu
    have s16 := Same.trans s15 s6
    refine ⟨_, rfl, a, _, 1, _, rfl, rfl, SqT.same s16 q1, rfl, szl (by show 2 ≤ 16777216; decide), fun q hq => ?_⟩
    have s7 := same_new (o := .tup [V.ref u, V.str k.atom]) hq
    refine kQ (.ref q) (ys, k.atom) _ (Same.trans s16 s7) (qv_mk (b := u) (SqT.of upd_same) (SqT.of (s7 _ _ upd_same))) ⟨asc_of_sorted hsort (hperm.nodup_iff.mpr (seen_nodup _)), fun x => ?_, rfl⟩
    show x ∈ ys ↔ _
    rw [hperm.mem_iff, mem_seen, List.mem_reverse, ← hxs, List.mem_append]
/-! ### _law_first -/
abbrev s__law_first : Stmt := top 86
abbrev N__law_first : List Str := ["_law_library_here", "_law_goal_here", "_law_kind_here"]
theorem sc__law_first : FnScope N__law_first ["_law_library_here", "_law_goal_here"] (defScope s__law_first) := ⟨rfl, rfl, rfl, by decide +kernel, rfl, by decide +kernel, by decide +kernel⟩
def sp_law_first (K : PySem.W.Frag) : Sp := fun vs H Q _ => ∃ d kvs ps gv g, vs = [.ref d, gv] ∧ H d = some (.dK kvs) ∧ KvD K H kvs ps ∧ Dp K H gv (kdD g) ∧ (∀ k ∈ ps.map Prod.snd ++ [g], KdOk k) ∧ ps.length ≤ 5 ∧
  ∀ (v : V) (q : Qn) (H' : Hp), Same H H' → Dp K H' v (qD q) → QFor ((ps.map Prod.snd).map txt) g q → Q v H'
theorem ok_law_first {f : Addr} {fd : FuncData} (F : Fun K "_law_first" "_law_first" s__law_first f fd) (N : Nm mg) (c__law_text : Cal P w K mg base CX0 4 "_law_text" (sp_law_text K 3)) (c__law_question : Cal P w K mg base CX0 5 "_law_question" (sp_law_question K)) : FnOk P w K mg base CX0 6 f fd ["_law_library_here", "_law_goal_here"] (sp_law_first K) := by
  refine F.ok sc__law_first (fun vs H Q E h => ?_) (fun cdv A outer s H vs Q E hr h => ?_)
  · obtain ⟨d, kvs, ps, gv, g, rfl, _⟩ := h
    rfl
  · obtain ⟨d, kvs, ps, gv, g, rfl, hd, hkv, hg, hok, hpl, k⟩ := h
    refine ⟨_, (pss_one (ps_ret (pe_c c__law_question hr (ha := (pa_cons (pe_lock (pe_lc (own := [("_law_kind_here", 2)]) (g := gName 2) (tt := tYes) rfl sc__law_first.nd (pi_values (pv 0)) (blkOk_by (N := N__law_first) (sc := defScope s__law_first) (by decide +kernel)) (fun _ _ _ _ _ => pg_name (i := 2) sc__law_first.nd rfl (Or.inl rfl)) (fun _ _ _ _ _ => pts_nil) (fun _ _ _ _ _ => (pe_c c__law_text hr (ha := (pa_cons (pv 2) pa_nil)))))) (pa_cons (pv 1) pa_nil)))))), ?_⟩
    have hlen := hkv.length
    refine ⟨d, _, hd, True.intro, fun od => ?_⟩
    have sl : SameL H (upd H d (.frz od (.dK kvs))) := sameL_upd hd rfl
    have hd1 : (upd H d (.frz od (.dK kvs))) d = some (.frz od (.dK kvs)) := upd_same
    refine ⟨_, rfl, d, od, kvs, rfl, hd1, fun D hD => ?_⟩
    have nDd : d ≠ D := ne_of_none hd1 hD
    refine lc_each walk_values hD (by omega) (fun H2 s2 => s2 _ _ hd1) (fun i y _ => ∃ p, ps[i]? = some p ∧ y = .str (txt p.2)) (fun i y H2 H3 l _ _ r => r) (fun i z H2 H3 hi s2 hl2 y Qy hy => ?_) (fun H2 acc s2 hacc hla hr2 => ?_)
    · obtain ⟨rfl, c, hc⟩ := y
      obtain ⟨x, k1, hx, rfl, dk⟩ := hkv.get hc
      obtain ⟨h1, h2, h3⟩ := hok k1 (List.mem_append_left _ (List.mem_map.mpr ⟨_, List.mem_of_getElem? hx, rfl⟩))
      exact ⟨rfl, _, rfl, z, k1, rfl, Dp.sameL (SameL.trans sl (Fp.sL s2)) (noL_kd k1) dk, h1, by omega, by omega, fun H4 s4 => hy _ _ s4 ⟨_, hx, rfl⟩⟩
    have e : acc = ((ps.map Prod.snd).map txt).map V.str := by
      rw [List.map_map, List.map_map]
      exact eq_map_of (by rw [hla, hlen]) fun i y e => by
        obtain ⟨j, h1, h2⟩ := hr2 i y e
        exact ⟨j, h1, h2⟩
    have sb := lock_back hd s2
    have hD3 : (upd H2 d (.dK kvs)) D = some (.lst (((ps.map Prod.snd).map txt).map V.str)) := by rw [upd_ne nDd.symm, hacc, e]
    refine ⟨s2 _ _ hd1, _, rfl, D, _, gv, g, rfl, .inl (SqL.of hD3), Dp.same sb hg, hok g (by simp), by rw [List.length_map, List.length_map]; omega, fun v q H4 s4 dq hq => k v q H4 (Same.trans sb s4) dq hq⟩
/-! ### _law_subs -/
abbrev s__law_subs : Stmt := top 87
abbrev N__law_subs : List Str := ["_law_kinds", "_law_question_here", "_law_head", "_law_one"]
theorem sc__law_subs : FnScope N__law_subs ["_law_kinds", "_law_question_here", "_law_head"] (defScope s__law_subs) := ⟨rfl, rfl, rfl, by decide +kernel, rfl, by decide +kernel, by decide +kernel⟩
/-- question values that stand for these kinds -/
def QsFor (K : PySem.W.Frag) (H : Hp) (sc : List Str) (vs : List V) (ks : List Kd) : Prop := vs.length = ks.length ∧ ∀ (i : Nat) (v : V), vs[i]? = some v → ∃ (j : Kd) (q : Qn), ks[i]? = some j ∧ Dp K H v (qD q) ∧ QFor sc j q
def sp_law_subs (K : PySem.W.Frag) : Sp := fun vs H Q _ => ∃ d kvs qv q k kv, vs = [.ref d, qv, .str (txt k)] ∧ H d = some (.dK kvs) ∧ valV kvs (.inr (txt k)) = some kv ∧ Dp K H kv (kdD k) ∧ KdOk k ∧ Dp K H qv (qD q) ∧ q.1.length ≤ 200 ∧
  ∀ (p : Addr) (ws : List V) (H' : Hp), Same H H' → H p = none → H' p = some (.lst ws) → QsFor K H' q.1 ws k.args → Q (.ref p) H'
theorem ok_law_subs {f : Addr} {fd : FuncData} (F : Fun K "_law_subs" "_law_subs" s__law_subs f fd) (N : Nm mg) (c__law_question : Cal P w K mg base CX0 5 "_law_question" (sp_law_question K)) : FnOk P w K mg base CX0 6 f fd ["_law_kinds", "_law_question_here", "_law_head"] (sp_law_subs K) := by
  refine F.ok sc__law_subs (fun vs H Q E h => ?_) (fun cdv A outer s H vs Q E hr h => ?_)
  · obtain ⟨d, kvs, qv, q, k, kv, rfl, _⟩ := h
    rfl
  · obtain ⟨d, kvs, qv, q, k, kv, rfl, hd, hv, dk, hk, dq, hql, kQ⟩ := h
    refine ⟨_, (pss_one (ps_ret (pe_lc (own := [("_law_one", 3)]) (g := gName 3) (tt := tYes) (te := tCall (sp_law_question K) [] E0 (tCons (tOp (rIxT K) (tVar 1) (tC (.int 0))) (tCons (tVar 3) tNil))) rfl sc__law_subs.nd (pi_tup (pe_ix ix_tup (pe_dget (hu_of hr) (pv 0) (pv 2) (fun _ _ => rfl)) pe_int (fun _ _ => rfl))) (blkOk_by (N := N__law_subs) (sc := defScope s__law_subs) (by decide +kernel)) (fun _ _ _ _ _ => pg_name (i := 3) sc__law_subs.nd rfl (Or.inl rfl)) (fun _ _ _ _ _ => pts_nil) (fun _ _ _ _ _ => (pe_c c__law_question hr (ha := (pa_cons (pe_ix ix_tup (pv 1) pe_int (fun _ _ => rfl)) (pa_cons (pv 3) pa_nil)))))))), ?_⟩
    obtain ⟨a, b, us, rfl, q1, q2, q3⟩ := dp_kd dk
    obtain ⟨qa, qb, rfl, r1, r2⟩ := qv_un dq
    obtain ⟨hw, hp, ho⟩ := hk
    have hwa := wds_args hw
    have hpa := plc_args k
    have hoa := ordK_args k
    have hl : us.length = k.args.length := by have := dpAll_length q3; rwa [kdDs_length] at this
    have hpl := plcs_length k.args
    refine ⟨_, rfl, _, rfl, d, .ref a, rfl, by rw [← hv]; exact DGet.k (k := .inr (txt k)) hd, a, _, 0, _, rfl, rfl, q1, rfl, b, rfl, ⟨us, q2⟩, fun D hD => ?_⟩
    refine lc_each (g := gName 3) (te := tCall (sp_law_question K) [] E0 (tCons (tOp (rIxT K) (tVar 1) (tC (.int 0))) (tCons (tVar 3) tNil))) walk_tup hD (by omega) (fun H2 s2 => SqT.same s2 q2) (fun i y H' => ∃ (j : Kd) (p : Qn), k.args[i]? = some j ∧ Dp K H' y (qD p) ∧ QFor q.1 j p) (fun i y H2 H3 l hl sb ⟨j, p, h1, h2, h3⟩ => ⟨j, p, h1, Dp.sameL (sb.sL hl rfl) (noL_q p) h2, h3⟩) (fun i z H2 H3 hi s2 hl2 y Qy hy => ?_) (fun H2 acc s2 hacc hla hr2 => ?_)
    · obtain ⟨rfl, hz⟩ := y
      obtain ⟨k1, hk1, d1⟩ := dpAll_getV q3 hz
      have hm1 := List.mem_of_getElem? hk1
      have ho1 := ordKs_mem hm1
      have hp1 := plcs_mem hm1
      exact ⟨rfl, _, rfl, qa, _, 0, _, rfl, rfl, SqT.same s2 r1, rfl, _, rfl, qb, q.1, z, k1, rfl, .inr (SqT.same s2 r2), Dp.same s2 d1, ⟨wdss_mem hwa.2 hm1, by omega, by omega⟩, hql, fun v p H4 s4 dp hp' => hy _ _ s4 ⟨k1, p, hk1, dp, hp'⟩⟩
    · exact kQ D acc H2 s2 hD hacc ⟨by rw [hla, hl], hr2⟩
/-! ### _law_question_line -/
abbrev s__law_question_line : Stmt := top 91
abbrev N__law_question_line : List Str := ["_law_question_here", "_law_scope"]
theorem sc__law_question_line : FnScope N__law_question_line ["_law_question_here"] (defScope s__law_question_line) := ⟨rfl, rfl, rfl, by decide +kernel, rfl, by decide +kernel, by decide +kernel⟩
end
end Fp
/-! W34: _law_question_line -/
namespace Fp
open PySem PySem.Spec PyProof.Rows L2 TL
theorem qTxt_line {q : Qn} (h : scTxt q.1 ≠ Str.ofString "") : scTxt q.1 ++ Str.ofString " |- " ++ q.2 = qTxt q := by
  apply ext_l
  rw [qTxt_cons h, tl_app2, tl_app2, bar_tl, List.append_assoc]
theorem qTxt_line0 {q : Qn} (h : scTxt q.1 = Str.ofString "") : Str.ofString "|- " ++ q.2 = qTxt q := by
  apply ext_l
  unfold qTxt
  rw [if_pos h, tl_app2, tl_app2, tl_app2, show tl (Str.ofString "") = [] by decide +kernel]
  rfl
section
variable {P : Program} {w : World} {K : PySem.W.Frag} {mg : Str → Option Value} {base : Heap}
theorem ok_law_question_line {f : Addr} {fd : FuncData} (F : Fun K "_law_question_line" "_law_question_line" s__law_question_line f fd) (N : Nm mg) : FnOk P w K mg base CX0 1 f fd ["_law_question_here"] (sp_question_text K) := by
  refine F.ok sc__law_question_line (fun vs H Q E h => ?_) (fun cdv A outer s H vs Q E hr h => ?_)
  · obtain ⟨v, q, rfl, _⟩ := h
    rfl
  · obtain ⟨v, q, rfl, d, hq, k⟩ := h
    refine ⟨_, (pss_cons (ps_set (i := 1) sc__law_question_line.nd rfl (Or.inl rfl) (pe_join pe_str (pe_callTy call_list_of (by rfl) N.list (by decide +kernel) (pa_cons (pe_ix ix_tup (pv 0) pe_int (fun _ _ => rfl)) pa_nil))))
      (pss_one (ps_ret (pe_ifExp (pt_cmpR op_ne (pv 1) pe_str (nomark _)) (pe_op op_add_str (pe_op op_add_str (pv 1) pe_str) (pe_ix ix_tup (pv 0) pe_int (fun _ _ => rfl))) (pe_op op_add_str pe_str (pe_ix ix_tup (pv 0) pe_int (fun _ _ => rfl))))))), ?_⟩
    obtain ⟨a, b, rfl, q1, q2⟩ := qv_un d
    have hq' := hq
    unfold isQ at hq'
    rw [Bool.and_eq_true] at hq'
    obtain ⟨h1, h2⟩ := scOk_len hq'.1
    have h3 := sum_le h2
    have h4 := scTxt_len hq'.1
    have h5 := word_len hq'.2
    have l2 : (Str.ofString "; ").length = 2 := by decide +kernel
    have l3 : (Str.ofString " |- ").length = 4 := by decide +kernel
    have l4 : (Str.ofString "|- ").length = 3 := by decide +kernel
    have h6 : q.1.length * 210 ≤ 140 * 210 := Nat.mul_le_mul_right _ h1
    refine ⟨⟨_, rfl⟩, _, rfl, a, _, 0, _, rfl, rfl, q1, rfl, b, _, rfl, .inr q2, fun l hl => ⟨_, l, q.1, rfl, rfl, .inl (SqL.of upd_same), by rw [l2]; omega, ?_⟩⟩
    have s1 := same_new (o := .lst (q.1.map V.str)) hl
    rw [show Txt.join (Str.ofString "; ") q.1 = scTxt q.1 from rfl]
    refine ⟨_, rfl, rfl, _, rfl, ?_⟩
    by_cases he : scTxt q.1 = Str.ofString ""
    · refine iteFo (by rw [he, decide_eq_true rfl]; rfl) ⟨_, rfl, a, _, 1, _, rfl, rfl, SqT.same s1 q1, rfl, _, _, rfl, rfl, szl (by rw [l4]; omega), ?_⟩
      rw [qTxt_line0 he]
      exact k _ s1
    · refine iteTo (by rw [decide_eq_false (fun z => he (V.str.inj z))]; rfl) ⟨_, rfl, _, _, rfl, rfl, szl (by rw [l3]; omega), _, rfl, a, _, 1, _, rfl, rfl, SqT.same s1 q1, rfl, _, _, rfl, rfl, szl (by rw [len_app, l3]; omega), ?_⟩
      rw [qTxt_line he]
      exact k _ s1
end
end Fp
/-! M9: at most 160 questions are asked -/
namespace Fp
open PySem TL PyProof.Rows
theorem nodup_le {α : Type} [DecidableEq α] : ∀ {l L : List α}, l.Nodup → (∀ x ∈ l, x ∈ L) → l.length ≤ L.length
  | [], _, _, _ => Nat.zero_le _
  | x :: l, L, hn, h => by
    rw [List.nodup_cons] at hn
    have hx := h x (by simp)
    have := nodup_le (l := l) (L := L.erase x) hn.2 fun y hy => (List.mem_erase_of_ne (fun z => hn.1 (by rw [← z]; exact hy))).mpr (h y (by simp [hy]))
    rw [List.length_erase_of_mem hx] at this
    have : 1 ≤ L.length := List.length_pos_of_mem hx
    rw [List.length_cons]
    omega
def boolLists : Nat → List (List Bool)
  | 0 => [[]]
  | n + 1 => (boolLists n).map (true :: ·) ++ (boolLists n).map (false :: ·)
theorem mem_boolLists : ∀ l : List Bool, l ∈ boolLists l.length
  | [] => by simp [boolLists]
  | b :: l => by
    have := mem_boolLists l
    show b :: l ∈ boolLists (l.length + 1)
    unfold boolLists
    cases b
    · exact List.mem_append_right _ (List.mem_map.mpr ⟨l, this, rfl⟩)
    · exact List.mem_append_left _ (List.mem_map.mpr ⟨l, this, rfl⟩)
/-- a question that may be asked: its scope is F and some of the five atoms -/
structure GoodQ (F : List Str) (q : Qn) : Prop where
  asc : q.1.Pairwise fun a b => ltT a b = true
  lo : ∀ x ∈ F, x ∈ q.1
  hi : ∀ x ∈ q.1, x ∈ F ∨ x ∈ A5
  at' : q.2 ∈ A5
def keyQ (q : Qn) : List Bool × Str := (A5.map fun x => decide (x ∈ q.1), q.2)
theorem asc_ext {a b : List Str} (ha : a.Pairwise fun x y => ltT x y = true) (hb : b.Pairwise fun x y => ltT x y = true) (h : ∀ x, x ∈ a ↔ x ∈ b) : a = b :=
  asc_unique ha hb ((List.perm_ext_iff_of_nodup (asc_nodup ha) (asc_nodup hb)).mpr h)
theorem keyQ_inj {F : List Str} {p q : Qn} (hp : GoodQ F p) (hq : GoodQ F q) (e : keyQ p = keyQ q) : p = q := by
  unfold keyQ at e
  have e1 := congrArg Prod.fst e
  have e2 := congrArg Prod.snd e
  dsimp only at e1 e2
  have h5 : ∀ x ∈ A5, (x ∈ p.1 ↔ x ∈ q.1) := fun x hx => by
    have := List.map_inj_left.mp e1 x hx
    simpa using this
  refine Prod.ext (asc_ext hp.asc hq.asc fun x => ⟨fun h => ?_, fun h => ?_⟩) e2
  · rcases hp.hi x h with z | z
    · exact hq.lo x z
    · exact (h5 x z).mp h
  · rcases hq.hi x h with z | z
    · exact hp.lo x z
    · exact (h5 x z).mpr h
theorem goodQ_count {F : List Str} {l : List Qn} (hn : l.Nodup) (h : ∀ q ∈ l, GoodQ F q) : l.length ≤ 160 := by
  have hn2 : (l.map keyQ).Nodup := by
    induction l with
    | nil => exact List.nodup_nil
    | cons a l ih =>
      rw [List.nodup_cons] at hn
      rw [List.map_cons, List.nodup_cons]
      refine ⟨fun z => ?_, ih hn.2 fun q hq => h q (by simp [hq])⟩
      obtain ⟨b, hb, e⟩ := List.mem_map.mp z
      have := keyQ_inj (h b (by simp [hb])) (h a (by simp)) e
      exact hn.1 (by rw [← this]; exact hb)
  have := nodup_le (L := (boolLists 5).flatMap fun b => A5.map fun x => (b, x)) hn2 fun z hz => by
    obtain ⟨q, hq, rfl⟩ := List.mem_map.mp hz
    refine List.mem_flatMap.mpr ⟨A5.map fun x => decide (x ∈ q.1), ?_, List.mem_map.mpr ⟨q.2, (h q hq).at', rfl⟩⟩
    exact mem_boolLists (A5.map fun x => decide (x ∈ q.1))
  rw [List.length_map] at this
  exact Nat.le_trans this (by decide +kernel)
theorem goodQ_first {sc : List Str} {g : Kd} {q : Qn} (h : QFor sc g q) (hg : g.atom ∈ A5) : GoodQ q.1 q := ⟨h.1, fun _ z => z, fun _ z => .inl z, by rw [h.2.2]; exact hg⟩
theorem ord_zero {k : Kd} (h : ordK k = 0) : k.args = [] := by
  by_cases z : k.args = []
  · exact z
  · have := ordK_pos z; omega
theorem txt_zero {k : Kd} (h : ordK k = 0) : txt k = k.atom := by
  obtain ⟨as, a⟩ := k
  have e : as = [] := ord_zero h
  subst e
  apply ext_l
  rw [tl_txt, txtL, tk_mk, tkArgs_nil]
  simp [Kd.atom]
theorem atom_mem (k : Kd) : k.atom ∈ atomsK k := by rw [atomsK_args]; simp
theorem atoms_arg {k j : Kd} (h : j ∈ k.args) {x : Str} (hx : x ∈ atomsK j) : x ∈ atomsK k := by
  rw [atomsK_args]
  refine List.mem_append_left _ ?_
  generalize k.args = ks at h
  induction ks with
  | nil => cases h
  | cons a ks ih =>
    rw [atomsKs]
    rcases List.mem_cons.mp h with rfl | h
    · exact List.mem_append_left _ hx
    · exact List.mem_append_right _ (ih h)
theorem goodQ_sub {F : List Str} {q p : Qn} {k j : Kd} (hq : GoodQ F q) (hk : KdOk k) (ha : ∀ x ∈ atomsK k, x ∈ A5) (hj : j ∈ k.args) (h : QFor q.1 j p) : GoodQ F p := by
  have ho := ordK_args k
  have h1 := ordKs_mem hj
  have h2 := hk.2.2
  refine ⟨h.1, fun x hx => (h.2.1 x).mpr (.inl (hq.lo x hx)), fun x hx => ?_, by rw [h.2.2]; exact ha _ (atoms_arg hj (atom_mem j))⟩
  rcases (h.2.1 x).mp hx with z | z
  · exact hq.hi x z
  · obtain ⟨i, hi, rfl⟩ := List.mem_map.mp z
    have h3 := ordKs_mem hi
    have h4 := ordK_args j
    rw [txt_zero (k := i) (by omega)]
    exact .inr (ha _ (atoms_arg hj (atoms_arg hi (atom_mem i))))
theorem goodQ_len {F : List Str} {q : Qn} (h : GoodQ F q) : q.1.length ≤ F.length + 5 := by
  have := nodup_le (L := F ++ A5) (asc_nodup h.asc) fun x hx => by
    rcases h.hi x hx with z | z
    · exact List.mem_append_left _ z
    · exact List.mem_append_right _ z
  rw [List.length_append] at this
  exact this
end Fp
/-! W35: _law_asked -/
namespace Fp
open PySem PySem.Spec PyProof.Rows L2 TL
/-- a while by its invariant, the measure within -/
theorem wh_m {c : TT} {tb : TS} {D : Ends} {σ : L2.St} {H : Hp} (Pv : Nat → L2.St → Hp → Prop) (m0 : Nat) (h0 : Pv m0 σ H)
    (hs : ∀ m σ H, Pv m σ H → ∀ B : Hp → Prop, (∀ H1, (∀ N : L2.St → Hp → Prop, (∀ m' σ' H', m' < m → Pv m' σ' H' → N σ' H') → tb { D with nx := N, ct := N, bk := D.nx } σ H1) → B H1) → c σ H fun b H1 => if b = true then B H1 else D.nx σ H1) : tWhile c tb D σ H := by
  refine ⟨fun m σ H => Pv m σ H, ⟨m0, h0⟩, ?_⟩
  intro m σ H p
  exact hs m σ H p (fun H1 => ∃ N : L2.St → Hp → Prop, (∀ σ' H', N σ' H' → ∃ m', m' < m ∧ Pv m' σ' H') ∧ tb { D with nx := N, ct := N, bk := D.nx } σ H1) fun H1 q =>
    ⟨fun σ' H' => ∃ m', m' < m ∧ Pv m' σ' H', fun σ' H' z => z, q _ fun m' σ' H' l p' => ⟨m', l, p'⟩⟩
/-- every text of the scope is a kind's -/
def UQ (U : List Kd) (q : Qn) : Prop := ∀ x ∈ q.1, ∃ k ∈ U, x = txt k
/-- the kinds that are drawn -/
def UOk (U : List Kd) : Prop := (∀ k ∈ U, KdOk k ∧ ∀ x ∈ atomsK k, x ∈ A5) ∧ ∀ k ∈ U, ∀ j ∈ k.args, j ∈ U
theorem uq_sub {U : List Kd} {q p : Qn} {k j : Kd} (hU : UOk U) (hq : UQ U q) (hk : k ∈ U) (hj : j ∈ k.args) (h : QFor q.1 j p) : UQ U p := fun x hx => by
  rcases (h.2.1 x).mp hx with z | z
  · exact hq x z
  · obtain ⟨i, hi, rfl⟩ := List.mem_map.mp z
    exact ⟨i, hU.2 j (hU.2 k hk j hj) i hi, rfl⟩
/-- a row of questions -/
def QRow (K : PySem.W.Frag) (H : Hp) (G : Qn → Prop) (vs : List V) : Prop := ∀ v ∈ vs, ∃ q, Dp K H v (qD q) ∧ G q
/-- what stands for a question: its heads, each with the questions below, the rows' places in Z -/
def AskV (K : PySem.W.Frag) (H : Hp) (G : Qn → Prop) (Z : Addr → Prop) (v : V) : Prop := ∃ d kvs, v = .ref d ∧ H d = some (.dK kvs) ∧ kvs.length ≤ 20 ∧ (kvs.map Prod.fst).Nodup ∧ ∀ e ∈ kvs, ∃ h p ws, e = (.inr h, .ref p) ∧ H p = some (.lst ws) ∧ ws.length ≤ 5 ∧ QRow K H G ws ∧ Z p
theorem QRow.sameL {K : PySem.W.Frag} {H H' : Hp} {G : Qn → Prop} {vs : List V} (s : SameL H H') (h : QRow K H G vs) : QRow K H' G vs := fun v hv => by
  obtain ⟨q, h1, h2⟩ := h v hv
  exact ⟨q, Dp.sameL s (noL_q q) h1, h2⟩
/-- what is asked stays, where dicts, rows and tuples do -/
theorem AskV.keep {K : PySem.W.Frag} {H H' : Hp} {G : Qn → Prop} {Z Z' : Addr → Prop} {v : V} (hd : ∀ b kvs, H b = some (.dK kvs) → H' b = some (.dK kvs)) (hl : ∀ b ws, Z b → H b = some (.lst ws) → H' b = some (.lst ws) ∧ Z' b) (sl : SameL H H') (h : AskV K H G Z v) : AskV K H' G Z' v := by
  obtain ⟨d, kvs, rfl, h1, h2, h3, h4⟩ := h
  refine ⟨d, kvs, rfl, hd _ _ h1, h2, h3, fun e he => ?_⟩
  obtain ⟨x, p, ws, rfl, g1, g2, g3, g4⟩ := h4 e he
  obtain ⟨k1, k2⟩ := hl _ _ g4 g1
  exact ⟨x, p, ws, rfl, k1, g2, g3.sameL sl, k2⟩
theorem AskV.same {K : PySem.W.Frag} {H H' : Hp} {G : Qn → Prop} {Z : Addr → Prop} {v : V} (s : Same H H') (h : AskV K H G Z v) : AskV K H' G Z v := h.keep (fun b kvs e => s _ _ e) (fun b ws z e => ⟨s _ _ e, z⟩) (sL s)
theorem asked_pairs {K : PySem.W.Frag} {H : Hp} {G : Qn → Prop} {Z : Addr → Prop} : ∀ {hs : List Str} {acc : List V}, acc.length = hs.length → (∀ (i : Nat) (y : V), acc[i]? = some y → ∃ (x : Str) (t p : Addr) (ws : List V), hs[i]? = some x ∧ y = .ref t ∧ H t = some (.tup [.str x, .ref p]) ∧ H p = some (.lst ws) ∧ ws.length ≤ 5 ∧ QRow K H G ws ∧ Z p) →
    ∃ (ts : List Addr) (kvs : List (Key × V)), acc = ts.map V.ref ∧ Paired (fun (p : Addr) (kv : Key × V) => H p = some (.tup [kV kv.1, kv.2])) ts kvs ∧ kvs.map Prod.fst = hs.map Sum.inr ∧ ∀ e ∈ kvs, ∃ h p ws, e = (.inr h, .ref p) ∧ H p = some (.lst ws) ∧ ws.length ≤ 5 ∧ QRow K H G ws ∧ Z p
  | [], [], _, _ => ⟨[], [], rfl, .nil, rfl, fun e he => by cases he⟩
  | x :: hs, y :: acc, hl, h => by
    obtain ⟨x', t, p, ws, g1, rfl, g3, g4, g5, g6, g7⟩ := h 0 y rfl
    have e := Option.some.inj g1
    subst e
    obtain ⟨ts, kvs, e1, e2, e3, e4⟩ := asked_pairs (hs := hs) (acc := acc) (by simpa using hl) fun i y e => h (i + 1) y (by simpa using e)
    refine ⟨t :: ts, (.inr x, .ref p) :: kvs, by rw [e1]; rfl, .cons g3 e2, by rw [List.map_cons, e3]; rfl, fun e he => ?_⟩
    rcases List.mem_cons.mp he with rfl | he
    · exact ⟨x, p, ws, rfl, g4, g5, g6, g7⟩
    · exact e4 e he
  | [], _ :: _, hl, _ => by simp at hl
  | _ :: _, [], hl, _ => by simp at hl
section
variable {P : Program} {w : World} {K : PySem.W.Frag} {mg : Str → Option Value} {base : Heap}
abbrev s__law_asked : Stmt := top 88
abbrev N__law_asked : List Str := ["_law_kinds", "_law_first_here", "_law_found", "_law_waiting", "_law_question_here", "_law_heads", "_law_head", "_law_text_here"]
theorem sc__law_asked : FnScope N__law_asked ["_law_kinds", "_law_first_here"] (defScope s__law_asked) := ⟨rfl, rfl, rfl, by decide +kernel, rfl, by decide +kernel, by decide +kernel⟩
def sp_law_asked (P : Program) (w : World) (K : PySem.W.Frag) : Sp := fun vs H Q _ => ∃ d kvs U fv F q, vs = [.ref d, fv] ∧ H d = some (.dK kvs) ∧ KT K H kvs U ∧ UOk U ∧ Dp K H fv (qD q) ∧ GoodQ F q ∧ UQ U q ∧ F.length ≤ 12 ∧
  ∀ (e : Addr) (es : List Qe) (H' : Hp), Same H H' → H e = none → H' e = some (QdO P w e es) → QKs K H' es → (qks es).Nodup → 1 ≤ es.length → es.length ≤ 160 → (∀ x ∈ es, (GoodQ F x.1 ∧ UQ U x.1) ∧ AskV K H' (fun q => GoodQ F q ∧ UQ U q) (fun _ => True) x.2.2) → Q (.ref e) H'
theorem ok_law_asked {f : Addr} {fd : FuncData} (F : Fun K "_law_asked" "_law_asked" s__law_asked f fd) (N : Nm mg) (c__law_subs : Cal P w K mg base CX0 6 "_law_subs" (sp_law_subs K)) : FnOk P w K mg base CX0 7 f fd ["_law_kinds", "_law_first_here"] (sp_law_asked P w K) := by
  refine F.ok sc__law_asked (fun vs H Q E h => ?_) (fun cdv A outer s H vs Q E hr h => ?_)
  · obtain ⟨d, kvs, U, fv, F, q, rfl, _⟩ := h
    rfl
  · obtain ⟨d, kvs, U, fv, F, q, rfl, hd, hKT, hU, dq, gq, uq, hFl, k⟩ := h
    refine ⟨_, (pss_cons (ps_par (i := 2) (j := 3) (by rfl) sc__law_asked.nd rfl rfl (by decide) rfl rfl (pa_cons pe_dnewQ (pa_cons (pe_lst (pa_cons (pv 1) pa_nil)) pa_nil)) (by rfl))
      (pss_cons (ps_while PassesOwn.never (pt_cmpR (op_neNil hr.units0) (pv 3) (pe_lst pa_nil) (nomark _)) (pss_cons (ps_set (i := 4) sc__law_asked.nd rfl (Or.inr rfl) (pe_bm0 PySem.F.plainAttrs_list PySem.F.slot_list_pop PySem.F.type_list_pop mt_pop (pv 3)))
      (pss_one (ps_if (pt_cmpR (op_notInQ hr.units) (pv 4) (pv 2) (by rfl)) (pss_cons (ps_setLc (i := 5) (own := [("_law_text_here", 7)]) (g := gName 7) (tt := tTest (tOp rEq (tOp (rIxT K) (tDGet (tVar 0) (tVar 7)) (tC (.int 1))) (tOp (rIxT K) (tVar 4) (tC (.int 1))))) (te := tVar 7) rfl sc__law_asked.nd rfl rfl (sw_true rfl rfl rfl (by decide +kernel)) (pi_tup (pe_ix ix_tup (pv 4) pe_int (fun _ _ => rfl))) (blkOk_by (N := N__law_asked) (sc := defScope s__law_asked) (by decide +kernel)) (fun _ _ _ _ _ => pg_name (i := 7) sc__law_asked.nd rfl (Or.inl rfl)) (fun _ _ _ _ _ => pts_one (pt_cmpR op_eq (pe_ix ix_tup (pe_dget (hu_of hr) (pv 0) (pv 7) (fun _ _ => rfl)) pe_int (fun _ _ => rfl)) (pe_ix ix_tup (pv 4) pe_int (fun _ _ => rfl)) (nomark _))) (fun _ _ _ _ _ => (pv 7)))
      (pss_cons (ps_asg (pe_callTy (call_dictP rfl) (by rfl) N.dict (by decide +kernel) (pa_cons (pe_lc (own := [("_law_head", 6)]) (g := gName 6) (tt := tYes) rfl sc__law_asked.nd (pi_list (pv 5)) (blkOk_by (N := N__law_asked) (sc := defScope s__law_asked) (by decide +kernel)) (fun _ _ _ _ _ => pg_name (i := 6) sc__law_asked.nd rfl (Or.inl rfl)) (fun _ _ _ _ _ => pts_nil) (fun _ _ _ _ _ => (pe_tup (pa_cons (pv 6) (pa_cons (pe_c c__law_subs hr (ha := (pa_cons (pv 0) (pa_cons (pv 4) (pa_cons (pv 6) pa_nil))))) pa_nil))))) pa_nil)) (pg_sub (pv 2) (pv 4) (set_dictQ hr.units)))
      (pss_one (ps_for PassesOwn.never rfl (pi_list (pv 5)) (pg_name (i := 6) sc__law_asked.nd rfl (Or.inl rfl)) (pss_one (ps_set (i := 3) sc__law_asked.nd rfl (Or.inl rfl) (pe_op op_cat (pv 3) (pe_dget (hu_of hr) (pe_ix (ix_dictQ hr.units) (pv 2) (pv 4) (fun _ _ => rfl)) (pv 6) (fun _ _ => rfl)))))))))
       pss_nil))))
      (pss_one (ps_ret (pv 2))))), ?_⟩
    intro FD hFD
    have s1 := same_new (o := QdO P w FD []) hFD
    have e1 : (upd H FD (QdO P w FD [])) FD = some (QdO P w FD []) := upd_same
    have nFd : FD ≠ d := fun z => by rw [z, hd] at hFD; cases hFD
    refine ⟨_, rfl, szl (by show 1 ≤ 16777216; decide), fun WL hWL => ⟨_, _, rfl, ?_⟩⟩
    change (upd H FD (QdO P w FD [])) WL = none at hWL
    show _
    have s2 := Same.trans s1 (same_new (o := .lst [fv]) hWL)
    have hWL0 : H WL = none := Same.free s1 hWL
    have nW : WL ≠ FD := fun z => by rw [z, e1] at hWL; cases hWL
    refine wh_m (fun m σ H' => ∃ (es : List Qe) (WL : Addr) (ws : List V) (s4 s5 s6 s7 : Option V), σ = [some (.ref d), some fv, some (.ref FD), some (.ref WL), s4, s5, s6, s7] ∧ H' FD = some (QdO P w FD es) ∧ QKs K H' es ∧ (qks es).Nodup ∧ (∀ x ∈ es, (GoodQ F x.1 ∧ UQ U x.1) ∧ AskV K H' (fun q => GoodQ F q ∧ UQ U q) (fun b => b ≠ WL) x.2.2) ∧ H' WL = some (.lst ws) ∧ QRow K H' (fun q => GoodQ F q ∧ UQ U q) ws ∧ (es ≠ [] ∨ ws ≠ []) ∧ m = (160 - es.length) * 400 + ws.length ∧ ws.length ≤ es.length * 200 + 1 ∧ Same H H' ∧ H WL = none ∧ WL ≠ FD)
      _ ⟨[], WL, [fv], _, _, _, _, rfl, by rw [upd_ne nW.symm]; exact e1, (fun e he => by cases he), List.nodup_nil, (fun x hx => by cases hx), upd_same, (fun v hv => by rw [List.mem_singleton.mp hv]; exact ⟨q, Dp.same s2 dq, gq, uq⟩), .inr (by simp), rfl, Nat.le_refl _, s2, hWL0, nW⟩ (fun m σ H1 p B hB => ?_)
    obtain ⟨es, WL, ws, s4, s5, s6, s7, rfl, hF1, hK1, hnd, hes, hW1, hws, hne, rfl, hwl, sH1, hWn, hWF⟩ := p
    have hcount : es.length ≤ 160 := by
      have := goodQ_count (F := F) hnd fun x hx => by
        obtain ⟨e, he, rfl⟩ := List.mem_map.mp hx
        exact (hes e he).1.1
      rwa [List.length_map] at this
    refine ⟨_, rfl, Nat.zero_le _, fun t ht => ⟨WL, t, ws, rfl, rfl, .inl ⟨SqL.of ((same_new ht) _ _ hW1), SqL.of upd_same⟩, _, rfl, ?_⟩⟩
    have s3 := same_new (o := .lst []) ht
    replace hF1 := s3 _ _ hF1
    replace hK1 := hK1.same s3
    replace hes : ∀ x ∈ es, (GoodQ F x.1 ∧ UQ U x.1) ∧ AskV K (upd H1 t (.lst [])) (fun q => GoodQ F q ∧ UQ U q) (fun b => b ≠ WL) x.2.2 := fun x hx => ⟨(hes x hx).1, (hes x hx).2.same s3⟩
    replace hW1 := s3 _ _ hW1
    replace hws := QRow.sameL (Fp.sL s3) hws
    replace sH1 := Same.trans sH1 s3
    generalize (upd H1 t (.lst [])) = H2 at *
    by_cases hw0 : ws = []
    · subst hw0
      have h1 : 1 ≤ es.length := List.length_pos_iff.mpr (hne.resolve_right (fun z => z rfl))
      exact iteF ⟨_, rfl, k FD es H2 sH1 hFD hF1 hK1 hnd h1 hcount fun x hx => ⟨(hes x hx).1, (hes x hx).2.keep (fun _ _ e => e) (fun _ _ _ e => ⟨e, True.intro⟩) (SameL.refl _)⟩⟩
    have hwe : ws.isEmpty = false := by cases ws with | nil => exact absurd rfl hw0 | cons _ _ => rfl
    rw [hwe]
    refine iteT (hB _ fun Nx hN => ?_)
    have hwl1 : 1 ≤ ws.length := List.length_pos_iff.mpr hw0
    obtain ⟨y, hy⟩ : ∃ y, ws[ws.length - 1]? = some y := ⟨ws[ws.length - 1]'(by omega), List.getElem?_eq_getElem _⟩
    obtain ⟨q1, dq1, gq1, uq1⟩ := hws y (List.mem_of_getElem? hy)
    refine ⟨_, rfl, .inl ⟨rfl, _, SqL.of hW1⟩, WL, ws, y, rfl, rfl, hW1, hy, ?_⟩
    have sl3 : SameL H2 (upd H2 WL (.lst ws.dropLast)) := sameL_upd hW1 rfl
    have hF3 : (upd H2 WL (.lst ws.dropLast)) FD = some (QdO P w FD es) := by rw [upd_ne hWF.symm]; exact hF1
    have hK3 := hK1.sameL sl3
    have hes3 : ∀ x ∈ es, (GoodQ F x.1 ∧ UQ U x.1) ∧ AskV K (upd H2 WL (.lst ws.dropLast)) (fun q => GoodQ F q ∧ UQ U q) (fun b => b ≠ WL) x.2.2 := fun x hx => ⟨(hes x hx).1, (hes x hx).2.keep (fun b kvs e => by rw [upd_ne (fun z => by rw [z, hW1] at e; cases e)]; exact e) (fun b ws' z e => ⟨by rw [upd_ne z]; exact e, z⟩) sl3⟩
    have hws3 : QRow K (upd H2 WL (.lst ws.dropLast)) (fun q => GoodQ F q ∧ UQ U q) ws.dropLast := fun v hv => (hws.sameL sl3) v ((List.dropLast_sublist ws).subset hv)
    have hW3 : (upd H2 WL (.lst ws.dropLast)) WL = some (.lst ws.dropLast) := upd_same
    have sH3 : Same H (upd H2 WL (.lst ws.dropLast)) := same_put sH1 hWn
    have dq3 := Dp.sameL sl3 (noL_q q1) dq1
    generalize (upd H2 WL (.lst ws.dropLast)) = H3 at *
    obtain ⟨qa, qb, rfl, r1, r2⟩ := qv_un dq3
    refine ⟨_, rfl, _, rfl, qa, FD, q1, es, rfl, rfl, dq3, .inl hF3, hK3, _, rfl, ?_⟩
    by_cases hin : q1 ∈ qks es
    · refine iteFo (by rw [decide_eq_true hin]; rfl) (hN _ _ _ ?_ ⟨es, WL, ws.dropLast, _, _, _, _, rfl, hF3, hK3, hnd, hes3, hW3, hws3, .inl (fun z => by rw [z] at hin; cases hin), rfl, by rw [List.length_dropLast]; omega, sH3, hWn, hWF⟩)
      rw [List.length_dropLast]
      omega
    refine iteTo (by rw [decide_eq_false hin]; rfl) ?_
    have hd3 := sH3 _ _ hd
    have hKT3 := hKT.sameL (Fp.sL sH3)
    have hq1l : q1.1.length ≤ 20 := by have := goodQ_len gq1; omega
    have hml : (q1.1.map V.str).length = q1.1.length := List.length_map ..
    refine ⟨_, rfl, qa, _, 0, _, rfl, rfl, r1, rfl, qb, rfl, ⟨_, r2⟩, fun HD hHD => ?_⟩
    refine lc_same (g := gName 7) (tt := tTest (tOp rEq (tOp (rIxT K) (tDGet (tVar 0) (tVar 7)) (tC (.int 1))) (tOp (rIxT K) (tVar 4) (tC (.int 1))))) (te := tVar 7) walk_tup hHD (by omega) (fun H4 s4 => SqT.same s4 r2) (fun i acc _ => ∃ hs : List Str, acc = hs.map V.str ∧ hs.Sublist (q1.1.take i)) (fun i acc H H' l hl sb r => r) (fun H4 => ⟨[], rfl, List.nil_sublist _⟩) (fun i acc H4 ⟨hs, h1, h2⟩ => by rw [h1, List.length_map]; have := h2.length_le; rw [List.length_take] at this; omega) (fun i z H4 H5 acc hi s4 hl4 ⟨hs, h1, h2⟩ y Qy Qn hy hn => ?_) (fun H4 acc s4 hacc ⟨hs, h1, h2⟩ => ?_)
    · obtain ⟨rfl, hz⟩ := y
      rw [List.getElem?_map] at hz
      obtain ⟨x, hx, rfl⟩ := Option.map_eq_some_iff.mp hz
      obtain ⟨k1, hk1, rfl⟩ := uq1 x (List.mem_of_getElem? hx)
      obtain ⟨kv, hkv, dk⟩ := hKT3 k1 hk1
      obtain ⟨ka, kb, us, rfl, t1, t2, t3⟩ := dp_kd (Dp.same s4 dk)
      refine ⟨rfl, _, rfl, _, rfl, d, .ref ka, rfl, by rw [← hkv]; exact DGet.k (k := .inr (txt k1)) (s4 _ _ hd3), ka, _, 1, _, rfl, rfl, t1, rfl, _, rfl, qa, _, 1, _, rfl, rfl, SqT.same s4 r1, rfl, rfl, _, rfl, ?_⟩
      by_cases e : k1.atom = q1.2
      · refine iteTo (decide_eq_true (by rw [e])) ⟨_, rfl, hy _ _ (Same.refl _) ⟨hs ++ [txt k1], by rw [h1, List.map_append]; rfl, ?_⟩⟩
        rw [take_snoc hx]
        exact h2.append (List.Sublist.refl _)
      · refine iteFo (decide_eq_false (fun z => e (V.str.inj z))) (hn _ (Same.refl _) ⟨hs, h1, ?_⟩)
        rw [take_snoc hx]
        exact h2.trans (List.sublist_append_left _ _)
    rw [hml, List.take_length] at h2
    subst h1
    have hhs : ∀ x ∈ hs, ∃ k1 ∈ U, x = txt k1 := fun x hx => uq1 x (h2.subset hx)
    have hsn : hs.Nodup := h2.nodup (asc_nodup gq1.asc)
    have hsl : hs.length ≤ 20 := Nat.le_trans h2.length_le hq1l
    have hml2 : (hs.map V.str).length = hs.length := List.length_map ..
    have sH4 := Same.trans sH3 s4
    have hd4 := s4 _ _ hd3
    have hKT4 := hKT3.sameL (Fp.sL s4)
    have dq4 : Dp K H4 (.ref qa) (qD q1) := Dp.same s4 dq3
    refine ⟨_, rfl, HD, rfl, ⟨_, SqL.of hacc⟩, fun PD hPD => ?_⟩
    have nHP : HD ≠ PD := ne_of_none hacc hPD
    refine lc_each (g := gName 6) (te := tTup (tCons (tVar 6) (tCons (tCall (sp_law_subs K) [] E0 (tCons (tVar 0) (tCons (tVar 4) (tCons (tVar 6) tNil)))) tNil))) walk_list hPD (by omega) (fun H5 s5 => SqL.of (s5 _ _ hacc)) (fun i y H' => ∃ (x : Str) (t p : Addr) (ws : List V), hs[i]? = some x ∧ y = .ref t ∧ H' t = some (.tup [.str x, .ref p]) ∧ H' p = some (.lst ws) ∧ ws.length ≤ 5 ∧ QRow K H' (fun q => GoodQ F q ∧ UQ U q) ws ∧ p ≠ PD ∧ H4 p = none) (fun i y Hx Hy l hl sb ⟨x, t, p, ws, g1, g2, g3, g4, g5, g6, g7, g8⟩ => ⟨x, t, p, ws, g1, g2, (sb.sL hl rfl) _ _ rfl g3, sb _ _ g7 g4, g5, g6.sameL (sb.sL hl rfl), g7, g8⟩) (fun i z Hx H5 hi s5 hl5 y Qy hy => ?_) (fun H5 acc s5 hacc5 hla5 hr5 => ?_)
    · obtain ⟨rfl, hz⟩ := y
      rw [List.getElem?_map] at hz
      obtain ⟨x, hx, rfl⟩ := Option.map_eq_some_iff.mp hz
      obtain ⟨k1, hk1, rfl⟩ := hhs x (List.mem_of_getElem? hx)
      obtain ⟨kv, hkv, dk⟩ := hKT4 k1 hk1
      refine ⟨rfl, _, rfl, _, rfl, _, rfl, _, rfl, d, kvs, .ref qa, q1, k1, kv, rfl, s5 _ _ hd4, hkv, Dp.same s5 dk, (hU.1 k1 hk1).1, Dp.same s5 dq4, by omega, fun p ws H6 s6 hpn hp6 hqs => ⟨szl (by show 2 ≤ 16777216; decide), fun t ht => ?_⟩⟩
      obtain ⟨l0, hl0⟩ := hl5
      have s7 := same_new (o := .tup [V.str (txt k1), V.ref p]) ht
      refine hy _ _ (Same.trans s6 s7) ⟨txt k1, t, p, ws, hx, rfl, upd_same, s7 _ _ hp6, ?_, ?_, (fun z => by rw [z, hl0] at hpn; cases hpn), Same.free s5 hpn⟩
      · rw [hqs.1]
        have h1 := plc_args k1
        have h2 := plcs_length k1.args
        have h3 := (hU.1 k1 hk1).1.2.1
        omega
      · intro v hv
        obtain ⟨j, hj⟩ := List.mem_iff_getElem?.mp hv
        obtain ⟨j1, p1, e1, e2, e3⟩ := hqs.2 j v hj
        have hjm := List.mem_of_getElem? e1
        exact ⟨p1, Dp.same s7 e2, goodQ_sub gq1 (hU.1 k1 hk1).1 (hU.1 k1 hk1).2 hjm e3, uq_sub hU uq1 hk1 hjm e3⟩
    obtain ⟨ts, kv5, f1, f2, f3, f4⟩ := asked_pairs (K := K) (H := H5) (G := fun q => GoodQ F q ∧ UQ U q) (Z := fun p => H4 p = none) (hs := hs) (acc := acc) (by rw [hla5, hml2]) (fun i y e => by
      obtain ⟨x, t, p, ws, g1, g2, g3, g4, g5, g6, _, g8⟩ := hr5 i y e
      exact ⟨x, t, p, ws, g1, g2, g3, g4, g5, g6, g8⟩)
    have f5 : (kv5.map Prod.fst).Nodup := by rw [f3]; exact nodup_inr hsn
    have f6 : kv5.length = hs.length := by have := congrArg List.length f3; rwa [List.length_map, List.length_map] at this
    refine ⟨PD, ts, kv5, rfl, SqL.of (by rw [hacc5, f1]), Paired.mapP f2 fun _ _ h => SqT.of h, fun dd hdd => ?_⟩
    rw [mergeK_new kv5 [] (fun _ _ z => by cases z) f5, List.nil_append]
    have s6 := same_new (o := .dK kv5) hdd
    have e6 : (upd H5 dd (.dK kv5)) dd = some (.dK kv5) := upd_same
    have s46 := Same.trans s5 s6
    have f7 : ∀ e ∈ kv5, ∃ h p ws, e = (.inr h, .ref p) ∧ (upd H5 dd (.dK kv5)) p = some (.lst ws) ∧ ws.length ≤ 5 ∧ QRow K (upd H5 dd (.dK kv5)) (fun q => GoodQ F q ∧ UQ U q) ws ∧ H4 p = none := fun e he => by
      obtain ⟨h, p, ws, g1, g2, g3, g4, g5⟩ := f4 e he
      exact ⟨h, p, ws, g1, s6 _ _ g2, g3, g4.sameL (Fp.sL s6), g5⟩
    have e6H : (upd H5 dd (.dK kv5)) HD = some (.lst (hs.map V.str)) := s46 _ _ hacc
    generalize (upd H5 dd (.dK kv5)) = H6 at *
    have hF6 := s46 _ _ (s4 _ _ hF3)
    have s36 := Same.trans s4 s46
    refine ⟨_, rfl, _, rfl, qa, FD, q1, es, rfl, rfl, Dp.same s46 dq4, hF6, hK3.same s36, hin, by omega, ?_⟩
    generalize hH7 : upd H6 FD (QdO _ _ FD (es ++ [(q1, qa, V.ref dd)])) = H7
    have hH7' : upd H6 FD (QdO P w FD (es ++ [(q1, qa, V.ref dd)])) = H7 := hH7
    have sl7 : SameL H6 H7 := by rw [← hH7']; exact sameL_upd hF6 rfl
    have e7 : H7 FD = some (QdO P w FD (es ++ [(q1, qa, V.ref dd)])) := by rw [← hH7']; exact upd_same
    have keep7 : ∀ b u, b ≠ FD → H6 b = some u → H7 b = some u := fun b u hb e => by rw [← hH7', upd_ne hb]; exact e
    have sH7 : Same H H7 := by rw [← hH7']; exact same_put (Same.trans sH4 s46) hFD
    clear hH7 hH7'
    have nHF : HD ≠ FD := fun z => by rw [z, hF6] at e6H; cases e6H
    have nDF : dd ≠ FD := fun z => by rw [z, hF6] at e6; cases e6
    refine ⟨_, rfl, HD, rfl, ⟨_, SqL.of (keep7 _ _ nHF e6H)⟩, ?_⟩
    have hW7 : H7 WL = some (.lst ws.dropLast) := keep7 _ _ hWF (s46 _ _ (s4 _ _ hW3))
    have hes7 : ∀ x ∈ es, (GoodQ F x.1 ∧ UQ U x.1) ∧ AskV K H7 (fun q => GoodQ F q ∧ UQ U q) (fun b => b ≠ WL) x.2.2 := fun x hx => ⟨(hes3 x hx).1, (hes3 x hx).2.keep (fun b kvs e => keep7 _ _ (fun z => by rw [z, hF3] at e; cases e) (s36 _ _ e)) (fun b ws' z e => ⟨keep7 _ _ (fun z => by rw [z, hF3] at e; cases e) (s36 _ _ e), z⟩) (SameL.trans (Fp.sL s36) sl7)⟩
    have hnew7 : AskV K H7 (fun q => GoodQ F q ∧ UQ U q) (fun b => b ≠ WL) (.ref dd) := ⟨dd, kv5, rfl, keep7 _ _ nDF e6, by omega, f5, fun e he => by
      obtain ⟨h, p, ws', g1, g2, g3, g4, g5⟩ := f7 e he
      exact ⟨h, p, ws', g1, keep7 _ _ (fun z => by rw [z, hF6] at g2; cases g2) g2, g3, g4.sameL sl7, fun z => by rw [z, s4 _ _ hW3] at g5; cases g5⟩⟩
    have hall7 : ∀ x ∈ es ++ [(q1, qa, V.ref dd)], (GoodQ F x.1 ∧ UQ U x.1) ∧ AskV K H7 (fun q => GoodQ F q ∧ UQ U q) (fun b => b ≠ WL) x.2.2 := fun x hx => by
      rcases List.mem_append.mp hx with hx | hx
      · exact hes7 x hx
      · rw [List.mem_singleton.mp hx]; exact ⟨⟨gq1, uq1⟩, hnew7⟩
    have hQK7 : QKs K H7 (es ++ [(q1, qa, V.ref dd)]) := fun e he => by
      rcases List.mem_append.mp he with he | he
      · exact ((hK3.same s36).sameL sl7) e he
      · rw [List.mem_singleton.mp he]; exact Dp.sameL sl7 (noL_q q1) (Dp.same s46 dq4)
    have hws7 : QRow K H7 (fun q => GoodQ F q ∧ UQ U q) ws.dropLast := (hws3.sameL (Fp.sL s36)).sameL sl7
    refine for_it walk_list (fun i σ H8 => ∃ (WL' : Addr) (ws' : List V) (s6 s7 : Option V), σ = [some (.ref d), some fv, some (.ref FD), some (.ref WL'), some (.ref qa), some (.ref HD), s6, s7] ∧ H8 WL' = some (.lst ws') ∧ QRow K H8 (fun q => GoodQ F q ∧ UQ U q) ws' ∧ ws'.length ≤ (ws.length - 1) + 5 * i ∧ Same H7 H8 ∧ H WL' = none ∧ WL' ≠ FD ∧ ∀ x ∈ es ++ [(q1, qa, V.ref dd)], (GoodQ F x.1 ∧ UQ U x.1) ∧ AskV K H8 (fun q => GoodQ F q ∧ UQ U q) (fun b => b ≠ WL') x.2.2)
      ⟨WL, ws.dropLast, _, _, rfl, hW7, hws7, by rw [List.length_dropLast]; exact Nat.le_refl _, Same.refl _, hWn, hWF, hall7⟩ (fun i σ H8 _ ⟨_, _, _, _, _, _, _, _, s8, _⟩ => SqL.of (s8 _ _ (keep7 _ _ nHF e6H))) (fun i z σ Hx H8 hi ⟨WL', ws', s6', s7', hσ, hW8, hws8, hwl8, s8, hWn8, hWF8, hall8⟩ y => ?_) (fun σ H8 ⟨WL', ws', s6', s7', hσ, hW8, hws8, hwl8, s8, hWn8, hWF8, hall8⟩ => ?_)
    · subst hσ
      obtain ⟨rfl, hz⟩ := y
      rw [List.getElem?_map] at hz
      obtain ⟨x, hx, rfl⟩ := Option.map_eq_some_iff.mp hz
      obtain ⟨dd2, kv2, g1, g2, g3, g4, g5⟩ := (hall8 (q1, qa, V.ref dd) (by simp)).2
      cases g1
      have hdd8 := s8 _ _ (keep7 _ _ nDF e6)
      rw [hdd8] at g2
      cases g2
      have hxm : (Sum.inr x : Key) ∈ kv5.map Prod.fst := by rw [f3]; exact List.mem_map.mpr ⟨x, List.mem_of_getElem? hx, rfl⟩
      obtain ⟨e, he, hex⟩ := List.mem_map.mp hxm
      obtain ⟨h, p, ws2, rfl, t1, t2, t3, t4⟩ := g5 e he
      cases hex
      have hval : valV kv5 (.inr x) = some (.ref p) := valV_at f5 he
      refine ⟨_, rfl, _, rfl, _, rfl, qa, FD, q1, es ++ [(q1, qa, V.ref dd)], qa, .ref dd, rfl, rfl, (hQK7.same s8) (q1, qa, V.ref dd) (by simp), .inl (s8 _ _ e7), hQK7.same s8, by simp, _, rfl, dd, .ref p, rfl, by rw [← hval]; exact DGet.k (k := .inr x) hdd8, WL', p, ws', ws2, rfl, rfl, hW8, t1, szl (by omega), fun r hr0 => ?_⟩
      have s9 := same_new (o := .lst (ws' ++ ws2)) hr0
      have s79 := Same.trans sH7 s8
      refine ⟨r, ws' ++ ws2, _, _, rfl, upd_same, fun v hv => ?_, by rw [List.length_append]; omega, Same.trans s8 s9, Same.free s79 hr0, (fun z => by rw [z, s8 _ _ e7] at hr0; cases hr0), fun y hy => ⟨(hall8 y hy).1, (hall8 y hy).2.keep (fun b kvs e => s9 _ _ e) (fun b u z e => ⟨s9 _ _ e, fun w => by rw [w, hr0] at e; cases e⟩) (Fp.sL s9)⟩⟩
      rcases List.mem_append.mp hv with hv | hv
      · exact (hws8.sameL (Fp.sL s9)) v hv
      · exact (t3.sameL (Fp.sL s9)) v hv
    · subst hσ
      have hnd' : (qks (es ++ [(q1, qa, V.ref dd)])).Nodup := by
        unfold qks
        rw [List.map_append, List.nodup_append]
        refine ⟨hnd, by simp, fun a ha b hb e => ?_⟩
        rw [List.map_cons, List.map_nil, List.mem_singleton] at hb
        have hb' : b = q1 := hb
        exact hin (by rw [← hb', ← e]; exact ha)
      have hcount' : (es ++ [(q1, qa, V.ref dd)]).length ≤ 160 := by
        have := goodQ_count (F := F) hnd' fun x hx => by
          obtain ⟨e, he, rfl⟩ := List.mem_map.mp hx
          exact (hall8 e he).1.1
        rwa [List.length_map] at this
      have hel : (es ++ [(q1, qa, V.ref dd)]).length = es.length + 1 := by rw [List.length_append]; rfl
      rw [hml2] at hwl8
      refine hN _ _ _ ?_ ⟨es ++ [(q1, qa, V.ref dd)], WL', ws', _, _, _, _, rfl, s8 _ _ e7, hQK7.same s8, hnd', hall8, hW8, hws8, .inl (by simp), rfl, by omega, Same.trans sH7 s8, hWn8, hWF8⟩
      omega
end
end Fp
/-! W36: _law_ranks -/
namespace Fp
open PySem PySem.Spec PyProof.Rows L2 TL
theorem lock_backB {D : Addr} {H H' : Hp} {d : Addr} {od : Obj} {u : HO} (hd : H d = some u) (s : SameB D (upd H d (.frz od u)) H') : SameB D H (upd H' d u) := fun b o n e => by
  by_cases z : b = d
  · rw [z, hd] at e
    rw [z, upd_same]
    exact e
  · rw [upd_ne z]
    exact s b o n (by rw [upd_ne z]; exact e)
theorem not_in_take {α : Type} {l : List α} {i : Nat} {x : α} (h : l.Nodup) (e : l[i]? = some x) : x ∉ l.take i := fun hx => by
  have h1 := (List.take_sublist (i + 1) l).nodup h
  rw [take_snoc e, List.nodup_append] at h1
  exact h1.2.2 x hx x (by simp) rfl
abbrev scHead : Scope := { kind := .function, names := [(Str.ofString ".0", .local), (Str.ofString "_law_head", .local), (Str.ofString "_law_asked_here", .cell), (Str.ofString "_law_found", .cell), (Str.ofString "_law_question_here", .cell)], isGenerator := false, isCoroutine := false }
section
variable {P : Program} {w : World} {K : PySem.W.Frag} {mg : Str → Option Value} {base : Heap}
abbrev s__law_ranks : Stmt := top 89
abbrev N__law_ranks : List Str := ["_law_asked_here", "_law_found", "_law_rank", "_law_grows", "_law_fresh", "_law_question_here", "_law_whole", "_law_head", "_law_one"]
theorem sc__law_ranks : FnScope N__law_ranks ["_law_asked_here"] (defScope s__law_ranks) := ⟨rfl, rfl, rfl, by decide +kernel, rfl, by decide +kernel, by decide +kernel⟩
def sp_law_ranks (P : Program) (w : World) (K : PySem.W.Frag) : Sp := fun vs H Q _ => ∃ a es G, vs = [.ref a] ∧ H a = some (QdO P w a es) ∧ QKs K H es ∧ (qks es).Nodup ∧ es.length ≤ 160 ∧ (∀ x ∈ es, AskV K H G (fun _ => True) x.2.2) ∧ ∀ v H', Same H H' → Q v H'
theorem ok_law_ranks {f : Addr} {fd : FuncData} (F : Fun K "_law_ranks" "_law_ranks" s__law_ranks f fd) (N : Nm mg) : FnOk P w K mg base CX0 1 f fd ["_law_asked_here"] (sp_law_ranks P w K) := by
  refine F.ok sc__law_ranks (fun vs H Q E h => ?_) (fun cdv A outer s H vs Q E hr h => ?_)
  · obtain ⟨a, es, G, rfl, _⟩ := h
    rfl
  · obtain ⟨a, es, G, rfl, ha, hk, hnd, hl, hes, k⟩ := h
    refine ⟨_, (pss_cons (ps_asg (pe_tup (pa_cons pe_dnewQ (pa_cons pe_int (pa_cons pe_bl pa_nil)))) (pg_tup (by rfl) (pgs_cons (pg_name (i := 1) sc__law_ranks.nd rfl (Or.inr rfl)) (pgs_cons (pg_name (i := 2) sc__law_ranks.nd rfl (Or.inl rfl)) (pgs_cons (pg_name (i := 3) sc__law_ranks.nd rfl (Or.inl rfl)) pgs_nil)))))
      (pss_cons (ps_while PassesOwn.never (pt_val (pv 3)) (pss_cons (ps_set (i := 4) sc__law_ranks.nd rfl (Or.inl rfl) (pe_lst pa_nil))
      (pss_cons (ps_lock (ps_for PassesOwn.never rfl (pi_keysQ (pv 0)) (pg_name (i := 5) sc__law_ranks.nd rfl (Or.inr rfl)) (pss_cons (ps_lock (ps_setLc (i := 6) (own := [("_law_head", 7)]) (g := gName 7) (tt := tTest (tOp (rNil K false) (tLc (iList K (tDGet (tOp (rIxQ K P w) (tVar 0) (tVar 5)) (tVar 7))) (gName 8) (tTest (tOp (rInQ K P w true) (tVar 8) (tVar 1))) (tC (.int 1)) [8]) (tLst tNil))) (te := tC (.int 1)) rfl sc__law_ranks.nd rfl rfl (sw_true rfl rfl rfl (by decide +kernel)) (pi_keys (pe_ix (ix_dictQ hr.units) (pv 0) (pv 5) (fun _ _ => rfl))) (blkOk_by (N := N__law_ranks) (sc := defScope s__law_ranks) (by decide +kernel)) (fun _ _ _ _ _ => pg_name (i := 7) sc__law_ranks.nd rfl (Or.inl rfl)) (fun _ _ _ _ _ => pts_one (pt_cmpR (op_eqNil hr.units0) (pe_lc (own := [("_law_one", 8)]) (g := gName 8) rfl sc__law_ranks.nd (pi_list (pe_dget (hu_of hr) (pe_ix (ix_dictQ hr.units) (pv 0) (pv 5) (fun _ _ => rfl)) (pv 7) (fun _ _ => rfl))) (blkOk_by (N := N__law_ranks) (sc := scHead) (by decide +kernel)) (fun _ _ _ _ _ => pg_name (i := 8) sc__law_ranks.nd rfl (Or.inl rfl)) (fun _ _ _ _ _ => pts_one (pt_cmpR (op_notInQ hr.units) (pv 8) (pv 1) (by rfl))) (fun _ _ _ _ _ => pe_int)) (pe_lst pa_nil) (nomark _))) (fun _ _ _ _ _ => pe_int)))
      (pss_one (ps_if (PW.pt (pw_and (pt_cmpR (op_notInQ hr.units) (pv 5) (pv 1) (by rfl)) (pw_and1 (pt_cmpR (op_neNil hr.units0) (pv 6) (pe_lst pa_nil) (nomark _))))) (pss_one (ps_expr (pe_bm PySem.F.plainAttrs_list PySem.F.slot_list_append PySem.F.type_list_append mt_append (pv 4) (pa_cons (pv 5) pa_nil)))) pss_nil)))))
      (pss_cons (ps_for PassesOwn.never rfl (pi_list (pv 4)) (pg_name (i := 5) sc__law_ranks.nd rfl (Or.inr rfl)) (pss_one (ps_asg (pv 2) (pg_sub (pv 1) (pv 5) (set_dictQ hr.units)))))
      (pss_one (ps_par (i := 2) (j := 3) (by rfl) sc__law_ranks.nd rfl rfl (by decide) rfl rfl (pa_cons (pe_op op_add (pv 2) pe_int) (pa_cons (pe_cmpR (op_neNil hr.units0) (pv 4) (pe_lst pa_nil) (nomark _)) pa_nil)) (by rfl)))))))
      (pss_one (ps_ret (pv 1))))), ?_⟩
    intro FD hFD
    have s1 := same_new (o := QdO P w FD []) hFD
    have e1 : (upd H FD (QdO P w FD [])) FD = some (QdO P w FD []) := upd_same
    refine ⟨szl (by show 3 ≤ 16777216; decide), fun T hT => ⟨T, _, rfl, SqT.of upd_same, rfl, _, _, rfl, _, _, rfl, _, _, rfl, rfl, ?_⟩⟩
    change (upd H FD (QdO P w FD [])) T = none at hT
    show _
    have s2 := same_new (o := .tup [.ref FD, .int 1, .bl true]) hT
    have e2 := s2 _ _ e1
    have s12 := Same.trans s1 s2
    refine wh_m (fun m σ H' => ∃ (fs : List Qe) (rk : Int) (g : Bool) (s4 s5 s6 s7 s8 : Option V), σ = [some (.ref a), some (.ref FD), some (.int rk), some (.bl g), s4, s5, s6, s7, s8] ∧ H' FD = some (QdO P w FD fs) ∧ QKs K H' fs ∧ (qks fs).Nodup ∧ (∀ x ∈ qks fs, x ∈ qks es) ∧ Same H H' ∧ m = (160 - fs.length) * 2 + (if g = true then 1 else 0))
      _ ⟨[], 1, true, _, _, _, _, _, rfl, e2, (fun e he => by cases he), List.nodup_nil, (fun x hx => by cases hx), s12, rfl⟩ (fun m σ H2 p B hB => ?_)
    clear s12 s2 e2 hT s1 e1
    obtain ⟨fs, rk, g, s4, s5, s6, s7, s8, rfl, hF2, hK2, hfn, hfe, sH2, rfl⟩ := p
    have hfl : fs.length ≤ 160 := by
      have := nodup_le hfn hfe
      rw [List.length_map, List.length_map] at this
      omega
    refine ⟨_, rfl, _, rfl, ?_⟩
    cases g with
    | false => exact iteF ⟨_, rfl, k _ _ sH2⟩
    | true =>
    refine iteT (hB _ fun Nx hN => ?_)
    refine ⟨Nat.zero_le _, fun FR hFR => ?_⟩
    have s3 := same_new (o := .lst []) hFR
    have e3 : (upd H2 FR (.lst [])) FR = some (.lst (qaV [])) := upd_same
    have hF3 := s3 _ _ hF2
    have hK3 := hK2.same s3
    have sH3 := Same.trans sH2 s3
    have nFR : ∀ b u, H b = some u → b ≠ FR := fun b u e z => by rw [z] at e; rw [sH2 _ _ e] at hFR; cases hFR
    have nFRF : FR ≠ FD := fun z => by rw [z, hF2] at hFR; cases hFR
    have nFDa : FD ≠ a := fun z => by rw [z, ha] at hFD; cases hFD
    generalize (upd H2 FR (.lst [])) = H3 at *
    have ha3 := sH3 _ _ ha
    refine ⟨a, _, ha3, True.intro, fun od => ?_⟩
    have naR : FR ≠ a := fun z => nFR _ _ ha z.symm
    have slL : SameL H3 (upd H3 a (.frz od (QdO P w a es))) := sameL_upd ha3 rfl
    have eL : (upd H3 a (.frz od (QdO P w a es))) a = some (.frz od (QdO P w a es)) := upd_same
    have hFL : (upd H3 a (.frz od (QdO P w a es))) FD = some (QdO P w FD fs) := by rw [upd_ne nFDa]; exact hF3
    have hRL : (upd H3 a (.frz od (QdO P w a es))) FR = some (.lst (qaV [])) := by rw [upd_ne naR]; exact e3
    have kL : ∀ b u, b ≠ a → H b = some u → (upd H3 a (.frz od (QdO P w a es))) b = some u := fun b u n e => by rw [upd_ne n]; exact sH3 _ _ e
    have slH : SameL H (upd H3 a (.frz od (QdO P w a es))) := SameL.trans (Fp.sL sH3) slL
    have hKL := hK3.sameL slL
    refine ⟨_, rfl, a, od, es, rfl, eL, ?_⟩
    refine for_it walk_keysQ (fun i σ H4 => ∃ (fr : List Qa) (s5 s6 s7 s8 : Option V), σ = [some (.ref a), some (.ref FD), some (.int rk), some (.bl true), some (.ref FR), s5, s6, s7, s8] ∧ H4 FR = some (.lst (qaV fr)) ∧ fr.Sublist ((qas es).take i) ∧ (∀ x ∈ fr, x.1 ∉ qks fs) ∧ SameB FR (upd H3 a (.frz od (QdO P w a es))) H4)
      ⟨[], _, _, _, _, rfl, hRL, List.nil_sublist _, (fun x hx => by cases hx), sB (Same.refl _)⟩ (fun i σ H4 _ ⟨_, _, _, _, _, _, _, _, _, s⟩ => s _ _ naR.symm eL) (fun i z σ Hx H4 hi ⟨fr, s5, s6, s7, s8, hσ, hR4, hfr, hfq, sB4⟩ y => ?_) (fun σ H4 ⟨fr, s5, s6, s7, s8, hσ, hR4, hfr, hfq, sB4⟩ => ?_)
    · subst hσ
      obtain ⟨rfl, e, he, rfl⟩ := y
      have hem := List.mem_of_getElem? he
      obtain ⟨dd, kvs, hve, d1, d2, d3, d4⟩ := hes e hem
      have ndA : dd ≠ a := fun z => by rw [z, ha] at d1; cases d1
      have ndF : dd ≠ FR := nFR _ _ d1
      have sl4 : SameL H H4 := SameL.trans slH (sB4.sL hRL rfl)
      have hK4 : QKs K H4 es := hk.sameL sl4
      have hKf4 : QKs K H4 fs := hKL.sameL (sB4.sL hRL rfl)
      have hF4 := sB4 _ _ nFRF.symm hFL
      have ha4 := sB4 _ _ naR.symm eL
      have hdd4 := sB4 _ _ ndF (kL _ _ ndA d1)
      have hmem : (e.1, e.2.1, V.ref dd) ∈ es := by rw [← hve]; exact hem
      refine ⟨dd, _, hdd4, True.intro, fun od2 => ?_⟩
      have slM : SameL H4 (upd H4 dd (.frz od2 (.dK kvs))) := sameL_upd hdd4 rfl
      have eM : (upd H4 dd (.frz od2 (.dK kvs))) dd = some (.frz od2 (.dK kvs)) := upd_same
      have kM : ∀ b u, b ≠ dd → H4 b = some u → (upd H4 dd (.frz od2 (.dK kvs))) b = some u := fun b u n e => by rw [upd_ne n]; exact e
      have haM := kM _ _ ndA.symm ha4
      have hKM := hK4.sameL slM
      have hKfM := hKf4.sameL slM
      have nFd : FD ≠ dd := fun z => by rw [z, d1] at hFD; cases hFD
      have hFM := kM _ _ nFd hF4
      have hRM := kM _ _ ndF.symm hR4
      have rows : ∀ (h : Str) (p : Addr) (ws : List V), H p = some (.lst ws) → QRow K H G ws → (upd H4 dd (.frz od2 (.dK kvs))) p = some (.lst ws) ∧ QRow K (upd H4 dd (.frz od2 (.dK kvs))) G ws := fun h p ws g1 g2 => ⟨kM _ _ (fun z => by rw [z, d1] at g1; cases g1) (sB4 _ _ (nFR _ _ g1) (kL _ _ (fun z => by rw [z, ha] at g1; cases g1) g1)), g2.sameL (SameL.trans sl4 slM)⟩
      refine ⟨_, rfl, _, rfl, e.2.1, a, e.1, es, e.2.1, .ref dd, rfl, rfl, hKM e hem, .inr ⟨od, haM⟩, hKM, hmem, dd, od2, rfl, .inl ⟨kvs, eM, fun HD hHD => ?_⟩⟩
      have fin : ∀ (H5 : Hp) (acc : List V), Same (upd H4 dd (.frz od2 (.dK kvs))) H5 → H5 HD = some (.lst acc) → True := fun _ _ _ _ => True.intro
      refine lc_same (g := gName 7) (tt := tTest (tOp (rNil K false) (tLc (iList K (tDGet (tOp (rIxQ K P w) (tVar 0) (tVar 5)) (tVar 7))) (gName 8) (tTest (tOp (rInQ K P w true) (tVar 8) (tVar 1))) (tC (.int 1)) [8]) (tLst tNil))) (te := tC (.int 1)) walk_keys hHD (by omega) (fun H5 s5 => s5 _ _ eM) (fun i acc _ => acc.length ≤ i) (fun i acc H H' l hl sb r => r) (fun H4 => Nat.zero_le _) (fun i acc H4 r => r) (fun i z H5 H6 acc hi s5 hacc r y Qy Qn hy hn => ?_) (fun H5 acc s5 hacc r => ?_)
      · obtain ⟨rfl, c, v, hc, rfl⟩ := y
        obtain ⟨h, p, ws, hcv, g1, g2, g3, _⟩ := d4 _ (List.mem_of_getElem? hc)
        cases hcv
        obtain ⟨g4, g5⟩ := rows h p ws g1 g3
        have hval : valV kvs (.inr h) = some (.ref p) := valV_at d3 (List.mem_of_getElem? hc)
        refine ⟨rfl, _, rfl, _, rfl, e.2.1, a, e.1, es, e.2.1, .ref dd, rfl, rfl, (hKM.same s5) e hem, .inr ⟨od, s5 _ _ haM⟩, hKM.same s5, hmem, _, rfl, dd, .ref p, rfl, .inl ⟨kvs, .inr h, .inr ⟨od2, s5 _ _ eM⟩, rfl, hval.symm⟩, p, rfl, ⟨_, SqL.of (s5 _ _ g4)⟩, fun L1 hL1 => ?_⟩
        refine lc_same (g := gName 8) (tt := tTest (tOp (rInQ K P w true) (tVar 8) (tVar 1))) (te := tC (.int 1)) walk_list hL1 (by omega) (fun H7 s7 => SqL.of (s7 _ _ (s5 _ _ g4))) (fun i acc _ => acc.length ≤ i) (fun i acc H H' l hl sb r => r) (fun H4 => Nat.zero_le _) (fun i acc H4 r => r) (fun j z H7 H8 acc2 hj s7 hacc2 r2 y2 Qy2 Qn2 hy2 hn2 => ?_) (fun H7 acc2 s7 hacc2 r2 => ?_)
        · obtain ⟨rfl, hz⟩ := y2
          obtain ⟨q, dq, _⟩ := g5 z (List.mem_of_getElem? hz)
          obtain ⟨qa, qb, rfl, r1, r2'⟩ := qv_un dq
          have s57 := Same.trans s5 s7
          refine ⟨rfl, _, rfl, _, rfl, qa, FD, q, fs, rfl, rfl, Dp.same s57 dq, .inl (s57 _ _ hFM), hKfM.same s57, _, rfl, ?_⟩
          by_cases hin : q ∈ qks fs
          · exact iteFo (by rw [decide_eq_true hin]; rfl) (hn2 _ (Same.refl _) (by omega))
          · refine iteTo (by rw [decide_eq_false hin]; rfl) (hy2 _ _ (Same.refl _) ?_)
            rw [List.length_append]
            exact Nat.add_le_add_right r2 1
        · refine ⟨Nat.zero_le _, fun L2 hL2 => ⟨L1, L2, acc2, rfl, rfl, .inl ⟨SqL.of ((same_new hL2) _ _ hacc2), SqL.of upd_same⟩, _, rfl, ?_⟩⟩
          have s8 := Same.trans s7 (same_new (o := .lst []) hL2)
          cases hb : acc2.isEmpty with
          | true =>
            refine iteTo rfl (hy _ _ s8 ?_)
            rw [List.length_append]
            exact Nat.add_le_add_right r 1
          | false => exact iteFo rfl (hn _ s8 (by omega))
      · refine ⟨s5 _ _ eM, ?_⟩
        have s6 : Same H4 (upd H5 dd (.dK kvs)) := lock_back hdd4 s5
        have nHd : HD ≠ dd := fun z => by rw [z, eM] at hHD; cases hHD
        have hacc6 : (upd H5 dd (.dK kvs)) HD = some (.lst acc) := by rw [upd_ne nHd]; exact hacc
        generalize (upd H5 dd (.dK kvs)) = H6 at *
        have hF6 := s6 _ _ hF4
        have hKf6 := hKf4.same s6
        have hK6 := hK4.same s6
        have hR6 := s6 _ _ hR4
        have heq : (qas es)[i]? = some (e.1, e.2.1) := by rw [List.getElem?_map, he]; rfl
        have hfr0 : fr.Sublist ((qas es).take (i + 1)) := by rw [take_snoc heq]; exact hfr.trans (List.sublist_append_left _ _)
        refine ⟨_, rfl, _, rfl, e.2.1, FD, e.1, fs, rfl, rfl, hK6 e hem, .inl hF6, hKf6, _, rfl, ?_⟩
        by_cases hin : e.1 ∈ qks fs
        · exact iteFo (by rw [decide_eq_true hin]; rfl) (iteF ⟨fr, _, _, _, _, rfl, hR6, hfr0, hfq, sB4.trans (sB s6)⟩)
        refine iteTo (by rw [decide_eq_false hin]; rfl) ⟨_, rfl, Nat.zero_le _, fun L hL => ⟨HD, L, acc, rfl, rfl, .inl ⟨SqL.of ((same_new hL) _ _ hacc6), SqL.of upd_same⟩, _, rfl, ?_⟩⟩
        have s7 := same_new (o := .lst []) hL
        have hR7 := s7 _ _ hR6
        have s47 : SameB FR (upd H3 a (.frz od (QdO P w a es))) (upd H6 L (.lst [])) := sB4.trans (sB (Same.trans s6 s7))
        generalize (upd H6 L (.lst [])) = H7 at *
        cases hb : acc.isEmpty with
        | true => exact iteFo rfl ⟨fr, _, _, _, _, rfl, hR7, hfr0, hfq, s47⟩
        | false =>
        have hfrl : fr.length ≤ 160 := by
          have h1 := hfr.length_le
          rw [List.length_take] at h1
          omega
        refine iteTo rfl ⟨_, rfl, .inl ⟨rfl, _, SqL.of hR7⟩, _, rfl, FR, _, _, rfl, rfl, hR7, szlt (by rw [show (qaV fr).length = fr.length from List.length_map ..]; omega), ?_⟩
        refine ⟨fr ++ [(e.1, e.2.1)], _, _, _, _, rfl, by rw [upd_same]; unfold qaV; rw [List.map_append]; rfl, ?_, ?_, s47.trans sameB_upd⟩
        · rw [take_snoc heq]
          exact hfr.append (List.Sublist.refl _)
        · intro x hx
          rcases List.mem_append.mp hx with hx | hx
          · exact hfq x hx
          · rw [List.mem_singleton.mp hx]; exact hin
    · subst hσ
      rw [show es.length = (qas es).length from (List.length_map ..).symm, List.take_length] at hfr
      refine ⟨sB4 _ _ naR.symm eL, ?_⟩
      have s5' : SameB FR H3 (upd H4 a (QdO P w a es)) := lock_backB ha3 sB4
      have hR5 : (upd H4 a (QdO P w a es)) FR = some (.lst (qaV fr)) := by rw [upd_ne naR]; exact hR4
      generalize (upd H4 a (QdO P w a es)) = H5 at *
      have hF5 := s5' _ _ nFRF.symm hF3
      have hK5 := hK3.sameL (s5'.sL e3 rfl)
      have sH5 : Same H H5 := fun b u e => s5' _ _ (nFR _ _ e) (sH3 _ _ e)
      have hfrn : (fr.map Prod.fst).Nodup := by
        have h1 := hfr.map Prod.fst
        rw [show (qas es).map Prod.fst = qks es from by unfold qas qks; rw [List.map_map]; rfl] at h1
        exact h1.nodup hnd
      have hfrm : ∀ x ∈ fr, ∃ e ∈ es, x = (e.1, e.2.1) := fun x hx => by
        obtain ⟨e, he, h⟩ := List.mem_map.mp (hfr.subset hx)
        exact ⟨e, he, h.symm⟩
      have hfrl : fr.length ≤ 160 := by
        have h1 := hfr.length_le
        rw [List.length_map] at h1
        omega
      have hql : (qaV fr).length = fr.length := List.length_map ..
      refine ⟨_, rfl, FR, rfl, ⟨_, SqL.of hR5⟩, ?_⟩
      refine for_it walk_list (fun i σ H6 => ∃ (fs' : List Qe) (s5 s6 s7 s8 : Option V), σ = [some (.ref a), some (.ref FD), some (.int rk), some (.bl true), some (.ref FR), s5, s6, s7, s8] ∧ H6 FD = some (QdO P w FD fs') ∧ QKs K H6 fs' ∧ qks fs' = qks fs ++ (fr.take i).map Prod.fst ∧ SameB FD H5 H6)
        ⟨fs, _, _, _, _, rfl, hF5, hK5, by simp, sB (Same.refl _)⟩ (fun i σ H6 _ ⟨_, _, _, _, _, _, _, _, _, s⟩ => SqL.of (s _ _ nFRF hR5)) (fun i z σ Hx H6 hi ⟨fs', s5, s6, s7, s8, hσ, hF6, hK6, hq6, sB6⟩ y => ?_) (fun σ H6 ⟨fs', s5, s6, s7, s8, hσ, hF6, hK6, hq6, sB6⟩ => ?_)
      · subst hσ
        obtain ⟨rfl, hz⟩ := y
        unfold qaV at hz
        rw [List.getElem?_map] at hz
        obtain ⟨x, hx, rfl⟩ := Option.map_eq_some_iff.mp hz
        have hxm := List.mem_of_getElem? hx
        obtain ⟨e, he, hxe⟩ := hfrm x hxm
        have dx : Dp K H6 (.ref x.2) (qD x.1) := by
          rw [hxe]
          exact (hk.sameL (SameL.trans (Fp.sL sH5) (sB6.sL hF5 rfl))) e he
        have hnot : x.1 ∉ qks fs' := by
          rw [hq6, List.mem_append]
          rintro (h | h)
          · exact hfq x hxm h
          · have h2 : (fr.map Prod.fst)[i]? = some x.1 := by rw [List.getElem?_map, hx]; rfl
            rw [List.map_take] at h
            exact not_in_take hfrn h2 h
        have hfsl : fs'.length ≤ 320 := by
          have := congrArg List.length hq6
          rw [List.length_append, List.length_map, List.length_map, List.length_map, List.length_take] at this
          omega
        refine ⟨_, rfl, _, rfl, _, rfl, x.2, FD, x.1, fs', rfl, rfl, dx, hF6, hK6, hnot, by omega, ?_⟩
        have sl7 : SameL H6 (upd H6 FD (QdO P w FD (fs' ++ [(x.1, x.2, V.int rk)]))) := sameL_upd hF6 rfl
        refine ⟨fs' ++ [(x.1, x.2, V.int rk)], _, _, _, _, rfl, upd_same, fun e he => ?_, ?_, sB6.trans sameB_upd⟩
        · rcases List.mem_append.mp he with he | he
          · exact (hK6.sameL sl7) e he
          · rw [List.mem_singleton.mp he]; exact Dp.sameL sl7 (noL_q x.1) dx
        · unfold qks
          rw [List.map_append]
          rw [show fs'.map Prod.fst = qks fs' from rfl, hq6, take_snoc hx, List.map_append, List.append_assoc]
          rfl
      · subst hσ
        rw [hql, List.take_length] at hq6
        have hR6 := sB6 _ _ nFRF hR5
        have sH6 : Same H H6 := fun b u e => sB6 _ _ (fun z => by rw [z, hFD] at e; cases e) (sH5 _ _ e)
        refine ⟨_, rfl, _, _, rfl, rfl, _, rfl, Nat.zero_le _, fun L hL => ⟨FR, L, qaV fr, rfl, rfl, .inl ⟨SqL.of ((same_new hL) _ _ hR6), SqL.of upd_same⟩, _, _, rfl, ?_⟩⟩
        have s7 := same_new (o := .lst []) hL
        have hn' : (qks fs').Nodup := by
          rw [hq6, List.nodup_append]
          refine ⟨hfn, hfrn, fun x hx y hy e => ?_⟩
          subst e
          obtain ⟨p, hp, rfl⟩ := List.mem_map.mp hy
          exact hfq p hp hx
        have he' : ∀ x ∈ qks fs', x ∈ qks es := fun x hx => by
          rw [hq6, List.mem_append] at hx
          rcases hx with hx | hx
          · exact hfe x hx
          · obtain ⟨p, hp, rfl⟩ := List.mem_map.mp hx
            obtain ⟨e, he, rfl⟩ := hfrm p hp
            exact List.mem_map.mpr ⟨e, he, rfl⟩
        have hl' : fs'.length ≤ 160 := by
          have := nodup_le hn' he'
          rw [List.length_map, List.length_map] at this
          omega
        have hll : fs'.length = fs.length + fr.length := by
          have := congrArg List.length hq6
          rwa [List.length_append, List.length_map, List.length_map, List.length_map] at this
        refine hN _ _ _ ?_ ⟨fs', rk + 1, !(qaV fr).isEmpty, _, _, _, _, _, rfl, s7 _ _ hF6, hK6.same s7, hn', he', Same.trans sH6 s7, rfl⟩
        cases fr with
        | nil =>
          show (160 - fs'.length) * 2 + 0 < (160 - fs.length) * 2 + 1
          have : fs'.length = fs.length := hll
          omega
        | cons x r =>
          show (160 - fs'.length) * 2 + 1 < (160 - fs.length) * 2 + 1
          have : fs'.length = fs.length + (r.length + 1) := hll
          omega
end
end Fp
/-! R11: dict(pairs) with questions for keys -/
namespace Fp
open PySem PySem.Spec PyProof.Rows L2 TL
theorem atKey_no {xs : List (NestedKey × Addr × Value)} {k : NestedKey} (h : k ∉ xs.map (·.1)) : (atKey xs k).isSome = false := by
  unfold atKey
  rw [Option.isSome_map]
  cases e : xs.find? (fun x => decide (x.1 = k)) with
  | none => rfl
  | some x =>
    have h1 := List.find?_some e
    have h2 := List.mem_of_find?_eq_some e
    exact absurd (List.mem_map.mpr ⟨x, h2, of_decide_eq_true h1⟩) h
theorem storedAll_new : ∀ (ps acc : List (NestedKey × Addr × Value)), ((acc ++ ps).map (·.1)).Nodup → storedAllH acc ps = acc ++ ps
  | [], acc, _ => by rw [List.append_nil]; rfl
  | p :: ps, acc, h => by
    have h1 : p.1 ∉ acc.map (·.1) := fun z => by
      rw [List.map_append, List.map_cons, List.nodup_append] at h
      exact h.2.2 _ z _ (List.mem_cons_self ..) rfl
    show storedAllH (storedH acc p.1 p.2.1 p.2.2) ps = _
    rw [Fp.storedH_new (atKey_no h1), storedAll_new ps (acc ++ [(p.1, p.2.1, p.2.2)]) (by rw [List.append_assoc]; exact h), List.append_assoc]
    rfl
theorem qK_nodup : ∀ {l : List Qn}, l.Nodup → (l.map qK).Nodup
  | [], _ => List.nodup_nil
  | a :: l, h => by
    rw [List.map_cons, List.nodup_cons]
    replace h := List.nodup_cons.mp h
    refine ⟨fun z => ?_, qK_nodup h.2⟩
    obtain ⟨b, hb, e⟩ := List.mem_map.mp z
    exact h.1 (by rw [← qK_inj e]; exact hb)
section
variable {X : Cx} {pins : List (Addr × Obj)} {σ : L2.St} {H : Hp} {s : Shared}
theorem qpairs_of (I : Inv X pins σ H s) : ∀ {ts : List Addr} {es : List Qe}, Paired (fun t (e : Qe) => SqT X.K H t [.ref e.2.1, e.2.2]) ts es →
    ∃ ps : List (NestedKey × Addr × Value), Paired qR es ps ∧ ∀ (j : Nat) (x : NestedKey × Addr × Value), ps[j]? = some x → ∃ t, ts[j]? = some t ∧ s.heap.IsTuple t #[.ref x.2.1, x.2.2]
  | _, _, .nil => ⟨[], .nil, fun j x e => by simp at e⟩
  | _, _, .cons (a := t) (b := e) h r => by
    obtain ⟨ps, pr, hp⟩ := qpairs_of I r
    obtain ⟨its, rv, ht, _⟩ := I.tuple h
    obtain ⟨u, y, ei, ru, ry⟩ := vals2 rv
    subst ei
    cases ru
    refine ⟨(qK e.1, e.2.1, y) :: ps, .cons ⟨rfl, rfl, ry⟩ pr, fun j x ej => ?_⟩
    cases j with
    | zero =>
      have e' : (qK e.1, e.2.1, y) = x := Option.some.inj ej
      subst e'
      exact ⟨t, rfl, ht⟩
    | succ j => exact hp j x (by simpa using ej)
/-- dict(list of pairs), the keys questions, all different -/
def rDictQ (K : PySem.W.Frag) (P : Program) (w : World) : List V → Hp → VK → Prop := fun xs H Q => ∃ (a : Addr) (ts : List Addr) (es : List Qe), xs = [.ref a] ∧ SqL K H a (ts.map V.ref) ∧ Paired (fun t (e : Qe) => SqT K H t [.ref e.2.1, e.2.2]) ts es ∧ QKs K H es ∧ (qks es).Nodup ∧ ∀ p, H p = none → Q (.ref p) (upd H p (QdO P w p es))
theorem call_dictQ (hcalm : X.calm = true) (hu : X.A.units + 64 < cLine) : CallR X (.type "dict") (rDictQ X.K X.prog X.w) := by
  intro pins s σ H xs us Q I r q
  obtain ⟨a, ts, es, ex, hq, hp, hk, hnd, q⟩ := q
  subst ex
  obtain ⟨u, eu, rx⟩ := vals1 r
  subst eu
  cases rx
  obtain ⟨its, rv, pl, hz⟩ := I.list hq
  have ei := refs_at rv
  subst ei
  rw [List.length_map] at hz
  obtain ⟨ps, rel, hpr⟩ := qpairs_of I hp
  have hlen : ps.length = es.length := (Paired.length rel).symm
  have hlt : ts.length = es.length := Paired.length hp
  have hroom : (nestedKind X.prog X.w).room X.A.in1.in1 := by
    show X.A.units + 1 + 1 + 8 < cLine
    omega
  have his : ∀ x ∈ ps, (nestedKind X.prog X.w).is s.heap x.1 x.2.1 := fun x hx => by
    obtain ⟨i, hi⟩ := List.mem_iff_getElem?.mp hx
    obtain ⟨e, h1, h2⟩ := paired_getR rel hi
    rw [h2.1, h2.2.1]
    exact nested_q I (hk e (List.mem_of_getElem? h1))
  have hnk : (ps.map (·.1)).Nodup := by
    rw [qkeys rel]
    exact qK_nodup hnd
  have hpi : PairItems s.heap (ts.map Value.ref).toArray (fun j => ts.getD j 0) (ps.map fun x => (Value.ref x.2.1, x.2.2)) := by
    refine ⟨by simp [hlen, hlt], fun j k v e => ?_⟩
    rw [List.getElem?_map] at e
    obtain ⟨x, hx, ex⟩ := Option.map_eq_some_iff.mp e
    cases ex
    obtain ⟨t, ht, hti⟩ := hpr j x hx
    have : ts.getD j 0 = t := by rw [List.getD_eq_getElem?_getD, ht]; rfl
    exact ⟨by simp [ht], .inl (by show s.heap.IsTuple (ts.getD j 0) _; rw [this]; exact hti)⟩
  refine PySem.call_dict_pairsH (knd := nestedKind X.prog X.w) (ps := ps) (PairArg.list a (ts.map Value.ref).toArray (fun j => ts.getD j 0) (ps.map fun x => (Value.ref x.2.1, x.2.2))) (I.ok.hd hcalm) hroom ⟨pl, hpi⟩ ⟨by rw [List.length_map], fun i key v e => ?_⟩ (fun h' hk' x hx => ?_) (by rw [List.length_map, hlen, ← hlt]; exact hz) fun h' tk hd' k => ?_
  · have e' : (ps.map fun x => (Value.ref x.2.1, x.2.2))[i]? = some (key, v) := e
    rw [List.getElem?_map] at e'
    obtain ⟨x, hx, ex⟩ := Option.map_eq_some_iff.mp e'
    cases ex
    exact ⟨x.1, x.2.1, hx, rfl⟩
  · have hx' := his x hx
    exact ⟨NestedIs.at (fun b o vs n hb _ => hk' b o (Nat.ne_of_lt (Heap.lt_size hb)) (by simp) hb) _ _ hx'.1, hx'.2⟩
  · have hm : (s.heap.objs.size == sysModules) = false := beq_eq_false_iff_ne.mpr (Nat.ne_of_gt I.big)
    rw [storedAll_new ps [] (by simpa using hnk), List.nil_append] at hd'
    obtain ⟨o, en, ep, ho, hx, hdt, he, _, nd⟩ := hd'
    exact ⟨.ref s.heap.objs.size, upd H s.heap.objs.size (QdO X.prog X.w s.heap.objs.size es), I.laid (t' := tk) (fun b u e => k b u (by simp) e) (Nat.le_refl _) (qdO_ok ⟨by rw [← hlt]; exact hz, hm, ps, rel, o, en, ep, ho, hx, hdt, he, nd⟩), rfl, q _ (I.hok.fresh (Nat.le_refl _))⟩
end
end Fp
/-! R12: == of dicts with questions for keys, within lists; != of lists -/
namespace Fp
open PySem PySem.Spec PyProof.Rows L2 TL
section
variable {prog : Program} {w : World} {A : Around} {E : Value → Shared → Prop} {s : Shared}
theorem atKey_at {xs : List (NestedKey × Addr × Value)} {k : NestedKey} {p : Addr × Value} (hn : (xs.map (·.1)).Nodup) {j : Nat} {q : Addr × Value} (hp : atKey xs k = some p) (hj : xs[j]? = some (k, q)) : q = p := by
  unfold atKey at hp
  obtain ⟨x, hx, rfl⟩ := Option.map_eq_some_iff.mp hp
  have h0 := List.find?_some hx
  have h1 : x.1 = k := of_decide_eq_true h0
  obtain ⟨i, hi⟩ := List.mem_iff_getElem?.mp (List.mem_of_find?_eq_some hx)
  have hi' : xs[i]? = some (k, x.2) := by rw [hi, ← h1]
  have e := idxH_unique hn hi' hj
  rw [e, hj] at hi'
  exact congrArg Prod.snd (Option.some.inj hi')
/-- two dicts with the same keys and equal values -/
theorem samePairsH {knd : HeapKind prog w NestedKey} {nm : String} {a b : Addr} {xa xb : List (NestedKey × Addr × Value)} {Q : Bool → Shared → Prop} (ha : (a == sysModules) = false) (hb : (b == sysModules) = false)
    (da : s.heap.DictOfH knd a xa) (db : s.heap.DictOfH knd b xb) (hr : knd.room A) (hlen : xa.length = xb.length) (hits : ∀ x ∈ xa, ∃ p, atKey xb x.1 = some p ∧ SeqAt.EqAt A s x.2.2 p.2 true) (h : Q true s) :
    wpAny (model prog w) A (Builtin.Dict.samePairs nm a b) Q E s := by
  obtain ⟨oa, es, ep, hoa, _, hda, hea, hisa, hna⟩ := da
  obtain ⟨ob, es', ep', hob, _, hdb, heb, hisb, hnb⟩ := db
  have hsa := size_of_entries hea
  have hsb := size_of_entries heb
  unfold Builtin.Dict.samePairs Builtin.Dict.showsAll
  rw [if_neg (by rw [ha]; decide), if_neg (by rw [hb]; decide)]
  refine wpAny_bind (wpAny_pure (wpAny_bind (wpAny_pure (wpAny_bind (wpAny_dictEntries hoa hda ?_)))))
  dsimp only
  refine wpAny_bind (wpAny_dictEntries hob hdb ?_)
  rw [if_neg (by rw [hsa, hsb, hlen]; simp)]
  refine wpAny_bind (wpAny_dictEpoch hoa hda (wpAny_bind ?_))
  rw [Std.Legacy.Range.forIn_eq_forIn_range']
  simp only [Std.Legacy.Range.size, Nat.sub_zero, Nat.add_sub_cancel, Nat.div_one]
  refine wpAny_forIn_list _ (fun rest q s' => s' = s ∧ q = (none, ()) ∧ ∃ i, rest = List.range' i (es.size - i) ∧ i ≤ es.size) _ ?_ ?_ _ _ ⟨rfl, rfl, 0, by simp, Nat.zero_le _⟩
  · rintro x rest q s' ⟨rfl, rfl, i, hrg, hi⟩
    have hlt : i < es.size := by
      rcases Nat.lt_or_ge i es.size with z | z
      · exact z
      · rw [Nat.sub_eq_zero_of_le z] at hrg; cases hrg
    have e1 : es.size - i = (es.size - (i + 1)) + 1 := by omega
    rw [e1, List.range'_succ] at hrg
    injection hrg with ex er
    subst ex
    refine wpAny_bind (wpAny_dictEntries hoa hda ?_)
    rw [Array.getElem?_eq_getElem hlt]
    have hlt' : x < xa.length := by rw [← hsa]; exact hlt
    have hent : es[x] = entryOfKey knd xa[x] := by
      have h1 : es.toList[x]? = some es[x] := by rw [Array.getElem?_toList]; exact Array.getElem?_eq_getElem hlt
      rw [hea, List.getElem?_map, List.getElem?_eq_getElem hlt'] at h1
      exact (Option.some.inj h1).symm
    obtain ⟨p, hp, heq⟩ := hits _ (List.getElem_mem hlt')
    dsimp only
    rw [hent]
    refine wpAny_bind (wpAny_holding (wpAny_bind (wpAny_dictFind_heap hr (hisa _ (List.getElem_mem hlt')) hob hdb heb hisb hnb (fun hno => ?_) (fun j q hj => ?_))))
    · exfalso
      unfold atKey at hp
      obtain ⟨y, hy, rfl⟩ := Option.map_eq_some_iff.mp hp
      obtain ⟨i, hi⟩ := List.mem_iff_getElem?.mp (List.mem_of_find?_eq_some hy)
      have h0 := List.find?_some hy
      have h1 : y.1 = xa[x].1 := of_decide_eq_true h0
      exact hno i y.2 (by rw [hi, ← h1])
    · have eq := atKey_at hnb hp hj
      subst eq
      have hjl : j < es'.size := by rw [hsb]; exact (List.getElem?_eq_some_iff.mp hj).1
      have hent' : es'[j] = entryOfKey knd (xa[x].1, q) := by
        have h1 : es'.toList[j]? = some es'[j] := by rw [Array.getElem?_toList]; exact Array.getElem?_eq_getElem hjl
        rw [heb, List.getElem?_map, hj] at h1
        exact (Option.some.inj h1).symm
      refine wpAny_bind (wpAny_dictEntries hob hdb ?_)
      rw [Array.getElem?_eq_getElem hjl]
      dsimp only
      rw [hent']
      refine wpAny_holding (heq prog w _ _ ?_)
      show wpAny _ _ (if (!true) = true then _ else _) _ _ _
      rw [if_neg (by decide)]
      refine wpAny_bind (wpAny_dictEpoch hoa hda ?_)
      rw [if_neg (by simp)]
      exact wpAny_pure ⟨rfl, rfl, x + 1, er, hlt⟩
  · rintro q s' ⟨rfl, rfl, i, hrg, hi⟩
    exact wpAny_pure h
/-- .. by their own == -/
theorem rc_dictH {knd : HeapKind prog w NestedKey} {a b : Addr} {xa xb : List (NestedKey × Addr × Value)} {Q : Value → Shared → Prop} (ha : (a == sysModules) = false) (hb : (b == sysModules) = false)
    (da : s.heap.DictOfH knd a xa) (db : s.heap.DictOfH knd b xb) (hr : knd.room A.in1) (hu : A.units < cLine) (hlen : xa.length = xb.length) (hits : ∀ x ∈ xa, ∃ p, atKey xb x.1 = some p ∧ SeqAt.EqAt A.in1 s x.2.2 p.2 true) (h : Q (.bool true) s) :
    wpAny (model prog w) A (richCompare .Eq (.ref a) (.ref b)) Q E s := by
  refine wpAny_richCompare_same_room (op := .Eq) da.typeIs db.typeIs PySem.F.slot_dict_eq (wpAny_call_entry PySem.F.slot_dict_eq da.typeIs PySem.F.entry_dict_eq ?_ (PySem.F.args_dict_eq_2 _ _)) hu
  show wpAny _ _ (Builtin.Dict.dictSlotArgs "__eq__" ⟨[.ref a, .ref b], []⟩ >>= _) _ _ s
  refine wpAny_bind ?_
  unfold Builtin.Dict.dictSlotArgs
  refine wpAny_bind (wpAny_notOrdered_dict da.typeIs ?_)
  show wpAny _ _ (pure (Value.ref a, Value.ref b)) _ _ s
  refine wpAny_pure (wpAny_bind (wpAny_isInstance (T := "dict") db.typeIs PySem.F.sub_dict_dict ?_))
  simp only [Bool.not_true, Bool.false_eq_true, if_false]
  refine wpAny_bind (wpAny_pure (wpAny_bind (wpAny_pure (wpAny_bind (samePairsH ha hb da db hr hlen hits (wpAny_pure ⟨_, rfl, (fun x => nomatch x), ?_⟩))))))
  simpa using h
end
/-! ### != of lists: item by item equal -/
section
open AutoSeq1 (wpAny_loadPart')
open MeetsSeq MeetsSeq2 MeetsSeq3 SeqRoads2 GQ SeqAt
variable {prog : Program} {w : World} {A : Around} {R : Result → Shared → Prop}
theorem ne_loopG (l b : Addr) (N : Nat) (I : Nat → Shared → Prop) (hl : ListI prog w A (fun e s' => R (.error e) s') l b N I) (fin : ∀ s, I N s → R (.ok (.ret (.bool false))) s) (k : Nat) :
    ∀ i : Nat, N - i = k → i ≤ N → ∀ s, I i s → wpAny (model prog w) A.in1 (Builtin.«list.__eq__.loop» ⟨[.ref l, .ref b, rawInt i, rawInt 3], []⟩) (FinOf prog w A R) (fun e s' => R (.error e) s') s := by
  induction k with
  | zero =>
    intro i hk hi s h
    obtain ⟨xs, ys, n, n2, e1, e2, z1, z2, _⟩ := hl _ _ h
    have hi' : i = N := by omega
    have hR : R (.ok (.ret (.bool false))) s := fin s (hi' ▸ h)
    obtain ⟨hp, g, d, tk, os⟩ := s
    wp_walk using wpAny_loadPart' e1, wpAny_loadPart' e2
    rw [show xs[((i : Nat) : Int).toNat]? = none by simp; omega, show ys[((i : Nat) : Int).toNat]? = none by simp; omega]
    wp_walk using wpAny_loadPart' e1, wpAny_loadPart' e2
    show R (.ok (.ret (.bool (xs.size != ys.size)))) _
    rw [z1, z2]
    simpa using hR
  | succ k ih =>
    intro i hk hi s h
    obtain ⟨xs, ys, n, n2, e1, e2, z1, z2, turn⟩ := hl _ _ h
    have l1 : i < xs.size := by omega
    have l2 : i < ys.size := by omega
    have ht := turn l1 l2
    obtain ⟨hp, g, d, tk, os⟩ := s
    wp_walk using wpAny_loadPart' e1, wpAny_loadPart' e2
    rw [show xs[((i : Nat) : Int).toNat]? = some xs[i] by simp [l1], show ys[((i : Nat) : Int).toNat]? = some ys[i] by simp [l2]]
    refine wpAny_bind (wpAny_mono ht (fun r s2 h2 => ?_) fun _ _ x => x)
    obtain ⟨rfl, h2⟩ := h2
    have hrec := ih (i + 1) (by omega) (by omega) s2 h2
    obtain ⟨hp2, g2, d2, tk2, os2⟩ := s2
    wp_walk
    rw [show ((i : Int) + 1) = ((i + 1 : Nat) : Int) by omega]
    exact ⟨plainId_quiet plain_eq_loop _, codeAny_builtin entry_eq_loop (by rw [Around.under_plainId plain_eq_loop _]; exact hrec)⟩
theorem list_neG (l b : Addr) (N : Nat) (I : Nat → Shared → Prop) (hl : ListI prog w A (fun e s' => R (.error e) s') l b N I) (fin : ∀ s, I N s → R (.ok (.ret (.bool false))) s) {s : Shared} (h : I 0 s) :
    wpAny (model prog w) A.in1 (Builtin.«list.__ne__» ⟨[.ref l, .ref b], []⟩) (FinOf prog w A R) (fun e s' => R (.error e) s') s := by
  obtain ⟨xs, ys, n, n2, e1, e2, z1, z2, _⟩ := hl _ _ h
  have hrec := ne_loopG (A := A) (R := R) l b N I hl fin _ 0 rfl (Nat.zero_le _) s h
  obtain ⟨hp, g, d, tk, os⟩ := s
  have f3 := AutoSeq1.sub_list_list
  have hne : ¬ (xs.size != ys.size) = true := by simp [z1, z2]
  wp_walk using wpAny_loadPart' e1, wpAny_loadPart' e2
  exact ⟨plainId_quiet plain_eq_loop _, codeAny_builtin entry_eq_loop (by rw [Around.under_plainId plain_eq_loop _]; exact hrec)⟩
theorem rc_listNe {l b : Addr} {N : Nat} {s : Shared} {E Q : Value → Shared → Prop} (hu : A.units < cLine) (I : Nat → Shared → Prop) (hl : ListI prog w A E l b N I) (fin : ∀ s, I N s → Q (.bool false) s) (h : I 0 s) : wpAny (model prog w) A (richCompare .NotEq (.ref l) (.ref b)) Q E s := by
  obtain ⟨xs, ys, n, n2, e1, e2, _⟩ := hl _ _ h
  refine wpAny_richCompare_same_room (op := .NotEq) ⟨_, e1, rfl⟩ ⟨_, e2, rfl⟩ PySem.F.slot_list_ne (call_here PySem.F.slot_list_ne ⟨_, e1, rfl⟩ PySem.F.entry_list_ne (PySem.F.args_list_ne_2 _ _) ?_) hu
  exact list_neG (R := wants (fun v s' => v ≠ .notImplemented ∧ Q v s') E) l b N I hl (fun s' q => ⟨(fun x => nomatch x), fin s' q⟩) h
end
section
variable {X : Cx} {n : Nat} {D : Eqv}
/-- x != y of two lists whose items are equal, as an expression: False -/
def rNeG (D : Eqv) : R2 := fun x y H Q => D x y H ∧ ∀ H', Ext H H' → Q (.bl false) H'
theorem op_neG (hD : Mon D) (h : EqG X n D) (hr : Room (n + 1) X.A) : OpR X (compareOp .NotEq) (rNeG (DList D)) := by
  intro pins s σ H x y v u Q I rx ry hq
  obtain ⟨⟨a, b, xs, ys, rfl, rfl, ha, hb, p⟩, q⟩ := hq
  cases rx
  cases ry
  show wpAny (model X.prog X.w) X.A (richCompare .NotEq (.ref a) (.ref b)) (EP X pins σ Q) X.xe s
  refine rc_listNe (N := xs.length) hr.units0 (fun _ s' => LoopI X pins σ H s') (fun i s' q' => ?_) (fun s' q' => ?_) ⟨H, I, Ext.rfl'⟩
  · obtain ⟨H1, I1, e1⟩ := id q'
    obtain ⟨z, its, k, r, e⟩ := I1.hok a _ (e1 _ _ ha)
    obtain ⟨z2, its2, k2, r2, e2⟩ := I1.hok b _ (e1 _ _ hb)
    refine ⟨its.toArray, its2.toArray, k, k2, e, e2, by rw [List.size_toArray, ← r.length], by rw [List.size_toArray, ← r2.length, ← p.1], fun h1 h2 => ?_⟩
    exact turnG hD h (A := X.A) ⟨hr, rfl⟩ p r r2 i h1 h2 s' q'
  · obtain ⟨H1, I1, e1⟩ := q'
    exact ⟨.bl false, H1, I1, rfl, q H1 e1⟩
/-- two dicts with the same questions and the same whole numbers -/
def DDict (P : Program) (w : World) (K : PySem.W.Frag) : Eqv := fun x y H => ∃ a b es fs, x = .ref a ∧ y = .ref b ∧ H a = some (QdO P w a es) ∧ H b = some (QdO P w b fs) ∧ QKs K H es ∧ QKs K H fs ∧ es.length = fs.length ∧ ∀ e ∈ es, ∃ c n, e.2.2 = .int n ∧ (e.1, c, .int n) ∈ fs
theorem mon_dict {P : Program} {w : World} {K : PySem.W.Frag} : Mon (DDict P w K) := fun x y H H' e d => by
  obtain ⟨a, b, es, fs, hx, hy, h1, h2, h3, h4, h5, h6⟩ := d
  exact ⟨a, b, es, fs, hx, hy, e _ _ h1, e _ _ h2, h3.same e, h4.same e, h5, h6⟩
theorem rcG_dict : RcG X n (DDict X.prog X.w X.K) := by
  intro A pins s σ H x y u v sb I rx ry d
  obtain ⟨a, b, es, fs, rfl, rfl, ha, hb, hk, hk', hl, hv⟩ := d
  cases rx
  cases ry
  have R := qd_rd I.hok (.inl ha)
  have R' := qd_rd I.hok (.inl hb)
  obtain ⟨xs, pr, D⟩ := qd_dict I R hk
  obtain ⟨ys, pr', D'⟩ := qd_dict I R' hk'
  have hu := sb.room.units
  refine rc_dictH R.2.1 R'.2.1 D D' (show A.units + 1 + 8 < cLine by omega) (by omega) (by rw [← Paired.length pr, ← Paired.length pr', hl]) (fun z hz => ?_) ⟨rfl, H, I, Ext.rfl'⟩
  obtain ⟨i, hi⟩ := List.mem_iff_getElem?.mp hz
  obtain ⟨e, h1, h2⟩ := paired_getR pr hi
  obtain ⟨c, m, h3, h4⟩ := hv e (List.mem_of_getElem? h1)
  obtain ⟨p, hp, rp⟩ := find_at pr' (qd_nodup R') h4
  refine ⟨p, by rw [h2.1]; exact hp, ?_⟩
  have r1 := h2.2.2
  rw [h3] at r1
  have q := eqAt_V (A := A.in1) (s := s) r1 rp rfl rfl
  rw [show eqV (.int m) (.int m) = true by simp [eqV]] at q
  exact q
theorem eqG_dict : EqG X n (DDict X.prog X.w X.K) := rcG_dict.eqG fun _ _ _ d => let ⟨a, b, _, _, hx, hy, _⟩ := d; ⟨a, b, hx, hy⟩
end
end Fp
/-! R13: several except clauses, each with a name or without; repr(None) -/
namespace Fp
open PySem PySem.Spec PyProof.Rows L2 TL
/-- a clause: its class, the slot of its name, its suite's reading -/
abbrev Cla := Value × Option Nat × (Addr → Value → Option Addr → TS)
def clEnds (i : Nat) (D : Ends) : Ends := { nx := fun σ' H' => D.nx (σ'.set i none) H', rt := D.rt, bk := fun σ' H' => D.bk (σ'.set i none) H', ct := fun σ' H' => D.ct (σ'.set i none) H' }
def wCls (K : PySem.W.Frag) (n : Nat) (Wout : WX) (D : Ends) : List Cla → WX
  | [] => Wout
  | (c, none, ts) :: r => fun cls d σ H => ∃ b, PySem.W.exmOne K cls c = some b ∧ (b = true → ∀ a, H a = none → ts a cls d D σ H) ∧ (b = false → wCls K n Wout D r cls d σ H)
  | (c, some i, ts) :: r => fun cls d σ H => ∃ b, PySem.W.exmOne K cls c = some b ∧ (b = true → ∀ a, H a = none → σ.length = n → ts a cls d (clEnds i D) (σ.set i (some (.ref a))) H) ∧ (b = false → wCls K n Wout D r cls d σ H)
inductive ClsOk (X : Cx) : List ExceptHandler → List Cla → Prop
  | nil : ClsOk X [] []
  | cons {x : Str} {c : Value} {ts : Addr → Value → Option Addr → TS} {b₀ : Stmt} {suite : List Stmt} {np pos' : Pos} {hds : List ExceptHandler} {l : List Cla} (hc : Names X x c)
      (hsu : ∀ (a : Addr) (oe : Obj) (cls : Value) (d : Option Addr) (pn : List (Addr × Obj)), Zc cls d oe → (∃ vs, oe.data = .fields vs) → PSs (X.suite a ((a, oe) :: pn)) (b₀ :: suite) (ts a cls d)) (r : ClsOk X hds l) :
      ClsOk X (.ExceptHandler (some (.Name x np)) none (b₀ :: suite) pos' :: hds) ((c, none, ts) :: l)
  | name {x n : Str} {i : Nat} {c : Value} {ts : Addr → Value → Option Addr → TS} {b₀ : Stmt} {suite : List Stmt} {np pos' : Pos} {hds : List ExceptHandler} {l : List Cla} (hN : X.N.Nodup) (hi : X.N[i]? = some n) (hln : X.env.kindOf n = some .local) (hc : Names X x c)
      (hsu : ∀ (a : Addr) (oe : Obj) (cls : Value) (d : Option Addr) (pn : List (Addr × Obj)), Zc cls d oe → (∃ vs, oe.data = .fields vs) → PSs (X.suite a ((a, oe) :: pn)) (b₀ :: suite) (ts a cls d)) (r : ClsOk X hds l) :
      ClsOk X (.ExceptHandler (some (.Name x np)) (some n) (b₀ :: suite) pos' :: hds) ((c, some i, ts) :: l)
section
variable {X : Cx} {body : List Stmt} {h₀ : ExceptHandler} {hds : List ExceptHandler} {l : List Cla} {pos : Pos} {tb : WX → TS} {Wout : WX}
theorem ps_try_cls (hs : X.stack = X.env :: X.outer) (hf : X.env.frame = some X.env.locals) (tk : Takes X Wout)
    (hb : ∀ (W : WX) (pn : List (Addr × Obj)) (xe : Value → Shared → Prop), Takes (X.tr pn xe) W → PSs (X.tr pn xe) body (tb W))
    (hh : ClsOk X (h₀ :: hds) l) : PS X (.Try body (h₀ :: hds) [] [] pos) (fun D σ H => tb (wCls X.K X.N.length Wout D l) D σ H) := by
  refine ⟨fun pins s σ H D I h => ?_⟩
  have ok := I.ok
  have hfr : X.A.frames = some (X.env :: X.outer) := by rw [ok.frames, hs]
  refine wpAny_Try_except (wpAny_mono ((hb (wCls X.K X.N.length Wout D l) (X.pn ++ pins) (fun e s₁ => wpAny (model X.prog X.w) X.A (noteFrame e X.env) (fun _ s₂ => wpAny (model X.prog X.w) X.A (setFlight e none) (fun _ s₃ =>
    wpAny (model X.prog X.w) X.A (handleBy e X.env (h₀ :: hds)) (SP X pins D) X.xe s₃) X.xe s₂) X.xe s₁) (fun u s' xx => ?_)).run [] s σ H D (I.toTry _) h) (fun f s1 hsp => ?_) (fun e s1 he => he))
  · obtain ⟨a, B, sI, pins', σ', H', cls, d, rfl, J', nb, up, sky, na, os, ag, w⟩ := xx
    have J : Inv X pins σ' H' sI := J'.ofTry ok
    have sky2 : Sky B (X.env :: X.outer) a (Zc cls d) X.env.locals s'.heap := by rw [← hs]; exact sky
    show wpAny (model X.prog X.w) X.A (noteFrame (.ref a) X.env) _ _ _
    refine Sky.land Zc.steady hfr hf sky2 fun h3 fl3 up3 => ?_
    have J3 : Inv X pins σ' H' { s' with heap := h3 } := J.landed nb fl3.1 (up.trans up3) os ag
    obtain ⟨oe3, vs3, he3, hz3, hd3⟩ := fl3.there
    have nfr : a ∉ frs (X.env :: X.outer) := fun hm => by
      obtain ⟨_, o', e', hnf⟩ := fl3.2.2.1.mem hm
      rw [he3] at e'
      cases e'
      exact hnf _ hd3
    have nL : a ≠ X.env.locals := fun z => nfr (List.mem_filterMap.mpr ⟨X.env, List.mem_cons_self, by rw [hf, z]⟩)
    have nF : a ∉ X.fs := fun hm => by
      obtain ⟨e, he, q⟩ := List.mem_filterMap.mp hm
      exact nfr (List.mem_filterMap.mpr ⟨e, List.mem_cons_of_mem _ he, q⟩)
    have S3 := J3.suite he3 hd3 na nL nF
    have LT : PySem.W.Looks (model X.prog X.w) h3 (typeOf (.ref a)) cls := fun A Q E s k q => wpAny_typeOf_ref (k _ _ he3) (by rw [hz3.1]; exact q)
    have tst : ∀ {x : Str} {c : Value} {np : Pos} {Q : Value → Shared → Prop} {E : Value → Shared → Prop}, Names X x c → Q c { s' with heap := h3 } → wpAny (model X.prog X.w) (X.A.mark (some (.ref a))) (eval (.Name x np) X.env) Q E { s' with heap := h3 } := fun {x c np Q E} hc q => by
      obtain ⟨hg, hdbg, hm | ⟨hm, hv, hnn⟩⟩ := hc
      · exact ld_glob (X := X.suite a ((a, oe3) :: (X.pn ++ pins))) S3 hg hm q hdbg
      · exact ld_blt (X := X.suite a ((a, oe3) :: (X.pn ++ pins))) S3 hg hm hv q hnn hdbg
    have go : ∀ {hds' : List ExceptHandler} {l' : List Cla}, ClsOk X hds' l' → wCls X.K X.N.length Wout D l' cls d σ' H' →
        wpAny (model X.prog X.w) X.A (handleBy (.ref a) X.env hds') (SP X pins D) X.xe { s' with heap := h3 } := by
      intro hds' l' hk
      induction hk with
      | nil =>
        intro w
        refine wpAny_handleBy_nil ?_
        obtain ⟨k1, k2, k3, oe, vs, T, oT, ts', he, hz, hd, h1, hr⟩ := id fl3
        unfold PySem.passOn
        refine wpAny_bind (wpAny_field he hd h1 ?_)
        rw [if_neg (show ¬ ((Value.ref T == Value.none) = true) from by simp)]
        have fin : wpAny (model X.prog X.w) X.A (setFlight (.ref a) X.env.frame) (fun _ s4 => wpAny (model X.prog X.w) X.A (throw (.ref a) : Sem Flow) (SP X pins D) X.xe s4) X.xe { s' with heap := h3 } := by
          rw [hf]
          refine HandSPX.setFlight_upZ fl3 fun h4 hh4 up4 => wpAny_throw (tk _ _ ?_)
          exact ⟨a, B, sI, pins, σ', H', cls, d, rfl, J, nb, (up.trans up3).trans up4, .inr (.inr (by rw [hs]; exact hh4)), na, os, ag, w⟩
        first
          | exact wpAny_bind (wpAny_pure (wpAny_bind fin))
          | exact wpAny_bind fin
      | @cons x c ts b₀ suite np pos' hds2 l2 hc hsu r ih =>
        intro w
        obtain ⟨b, hb1, hyes, hno⟩ := w
        refine wpAny_handleBy_cons (codeAny_handlers_test ?_) (by intro q; cases q)
        have LM := PySem.W.exm_one (M := model X.prog X.w) (J3.kIn) LT hb1
        refine tst hc (LM.here ?_)
        cases b with
        | true =>
          refine codeAny_handlers_suite (HandSPX.lands_againZ fl3 fun h4 fl4 up4 => ?_)
          have J4 : Inv X pins σ' H' { s' with heap := h4 } := J.landed nb fl4.1 ((up.trans up3).trans up4) os ag
          obtain ⟨oe4, vs4, he4, hz4, hd4⟩ := fl4.there
          have S4 := J4.suite he4 hd4 na nL nF
          refine wpAny_mono ((hsu a oe4 cls d (X.pn ++ pins) hz4 ⟨_, hd4⟩).run [] _ _ H' _ S4 (hyes rfl a na)) (fun f s6 hsp => ?_) (fun _ _ z => False.elim z)
          cases f with
          | next => exact let ⟨σ6, H6, S6, q6⟩ := hsp; ⟨_, _, S6.unsuite ok, q6⟩
          | brk => exact let ⟨σ6, H6, S6, q6⟩ := hsp; ⟨_, _, S6.unsuite ok, q6⟩
          | cont => exact let ⟨σ6, H6, S6, q6⟩ := hsp; ⟨_, _, S6.unsuite ok, q6⟩
          | ret u => exact let ⟨v6, σ6, H6, S6, r6, q6⟩ := hsp; ⟨_, _, _, S6.unsuite ok, r6, q6⟩
        | false =>
          show wpAny _ X.A (handleBy (.ref a) X.env hds2) _ _ _
          exact ih (hno rfl)
      | @name x n i c ts b₀ suite np pos' hds2 l2 hN hi hln hc hsu r ih =>
        intro w
        obtain ⟨b, hb1, hyes, hno⟩ := w
        refine wpAny_handleBy_cons (codeAny_handlers_test ?_) (by intro q; cases q)
        have LM := PySem.W.exm_one (M := model X.prog X.w) (J3.kIn) LT hb1
        refine tst hc (LM.here ?_)
        cases b with
        | true =>
          refine codeAny_handlers_suite_as (HandSPX.lands_againZ fl3 fun h4 fl4 up4 => ?_)
          have J4 : Inv X pins σ' H' { s' with heap := h4 } := J.landed nb fl4.1 ((up.trans up3).trans up4) os ag
          obtain ⟨oe4, vs4, he4, hz4, hd4⟩ := fl4.there
          have S4 := J4.suite he4 hd4 na nL nF
          have hloc : Loc X.env.scope n := .inl hln
          refine store_ok (X := X.suite a ((a, oe4) :: (X.pn ++ pins))) (v := .ref a) S4 hN hi hloc rfl (fun s5 S5 => ?_) (.inr hln)
          refine wpAny_mono ((hsu a oe4 cls d (X.pn ++ pins) hz4 ⟨_, hd4⟩).run [] s5 _ H' _ S5 (hyes rfl a na J.len)) (fun f s6 hsp => ?_) (fun _ _ z => False.elim z)
          have end_ : ∀ {σ6 : L2.St} {H6 : Hp} {Q : Shared → Prop}, Inv (X.suite a ((a, oe4) :: (X.pn ++ pins))) [] σ6 H6 s6 → (∀ s7, Inv X pins (σ6.set i none) H6 s7 → Q s7) →
              wpAny (model X.prog X.w) X.A (do bindName X.env n .none; unbindBehindTheSuite X.env n pos') (fun _ s7 => Q s7) X.xe s6 := fun {σ6 H6 Q} S6 hq => gone_ok (S6.unsuite ok) hN hi hln hq
          cases f with
          | next => exact let ⟨σ6, H6, S6, q6⟩ := hsp; end_ S6 fun s7 J7 => ⟨_, _, J7, q6⟩
          | brk => exact let ⟨σ6, H6, S6, q6⟩ := hsp; end_ S6 fun s7 J7 => ⟨_, _, J7, q6⟩
          | cont => exact let ⟨σ6, H6, S6, q6⟩ := hsp; end_ S6 fun s7 J7 => ⟨_, _, J7, q6⟩
          | ret u => exact let ⟨v6, σ6, H6, S6, r6, q6⟩ := hsp; end_ S6 fun s7 J7 => ⟨_, _, _, J7, r6, q6⟩
        | false =>
          show wpAny _ X.A (handleBy (.ref a) X.env hds2) _ _ _
          exact ih (hno rfl)
    exact go hh w
  · cases f with
    | next => exact let ⟨σ', H', J', q⟩ := hsp; wpAny_execs_nil ⟨σ', H', J'.ofTry ok, q⟩
    | brk => exact let ⟨σ', H', J', q⟩ := hsp; ⟨σ', H', J'.ofTry ok, q⟩
    | cont => exact let ⟨σ', H', J', q⟩ := hsp; ⟨σ', H', J'.ofTry ok, q⟩
    | ret u => exact let ⟨v, σ', H', J', r, q⟩ := hsp; ⟨v, σ', H', J'.ofTry ok, r, q⟩
/-- repr of None or a whole number -/
def rRepr : List V → Hp → VK → Prop := fun xs H Q => (xs = [.non] ∧ Q (.str "None") H) ∨ ∃ i : Int, xs = [.int i] ∧ i.natAbs.log2 < 1920 ∧ Q (.str (toString i)) H
theorem call_repr : CallR X (.builtin "repr") rRepr := by
  intro pins s σ H xs us Q I r h
  rcases h with ⟨rfl, q⟩ | ⟨i, rfl, hz, q⟩
  · obtain ⟨u, rfl, rfl⟩ := vals1 r
    exact PySem.P.repr_of_none ⟨.str _, H, I.tok _, ⟨_, rfl⟩, q⟩
  · obtain ⟨u, rfl, t, rfl⟩ := vals1 r
    exact PySem.P.repr_of_int hz ⟨.str _, H, I.tok _, ⟨_, rfl⟩, q⟩
end
end Fp
/-! W37: _law_view -/
namespace Fp
open PySem PySem.Spec PyProof.Rows L2 TL
mutual
theorem unders_atoms : ∀ (k j : Kd), j ∈ undersK k → ∀ x ∈ atomsK j, x ∈ atomsK k
  | .mk as a, j, hj, x, hx => by
    rw [undersK] at hj
    rcases List.mem_cons.mp hj with rfl | hj
    · exact hx
    · rw [atomsK]
      exact List.mem_append_left _ (underss_atoms as j hj x hx)
theorem underss_atoms : ∀ (ks : List Kd) (j : Kd), j ∈ undersKs ks → ∀ x ∈ atomsK j, x ∈ atomsKs ks
  | [], j, hj, x, hx => by rw [undersKs] at hj; cases hj
  | k :: ks, j, hj, x, hx => by
    rw [undersKs] at hj
    rw [atomsKs]
    rcases List.mem_append.mp hj with hj | hj
    · exact List.mem_append_left _ (unders_atoms k j hj x hx)
    · exact List.mem_append_right _ (underss_atoms ks j hj x hx)
end
theorem A5_word {x : Str} (h : x ∈ A5) : isWord x = true := by
  have : A5.all isWord = true := by decide +kernel
  exact List.all_eq_true.mp this x h
theorem kdIn_ok {k : Kd} (h : KdIn A5 5 2 k) : KdOk k := ⟨wds_of_atoms k fun x hx => A5_word (h.1 x hx), h.2.1, h.2.2⟩
theorem uOk_of {ks : List Kd} (h : ∀ k ∈ ks, KdIn A5 5 2 k) : UOk (undersKs ks) := by
  refine ⟨fun k hk => ⟨kdOk_under (fun k hk => kdIn_ok (h k hk)) hk, fun x hx => ?_⟩, fun k hk j hj => undersKs_trans ks k hk j (undersK_arg hj)⟩
  obtain ⟨k0, h0, h1⟩ := undersKs_mem.mp hk
  exact (h k0 h0).1 x (unders_atoms k0 k h1 x hx)
theorem adj_of : ∀ {sc : List Str}, (sc.Pairwise fun a b => ltT a b = true) → adjLt sc = true
  | [], _ => rfl
  | [_], _ => rfl
  | x :: y :: r, h => by
    show (ltT x y && adjLt (y :: r)) = true
    obtain ⟨h1, h2⟩ := List.pairwise_cons.mp h
    rw [h1 y (by simp), adj_of h2]
    rfl
theorem isQ_of {F : List Str} {U : List Kd} {q : Qn} (hg : GoodQ F q) (hu : UQ U q) (hU : UOk U) (hF : F.length ≤ 12) : isQ q = true := by
  have hl := goodQ_len hg
  unfold isQ scOk
  rw [Bool.and_eq_true, Bool.and_eq_true, Bool.and_eq_true]
  refine ⟨⟨decide_eq_true (by omega), adj_of hg.asc, List.all_eq_true.mpr fun x hx => ?_⟩, A5_word hg.at'⟩
  obtain ⟨k, hk, rfl⟩ := hu x hx
  obtain ⟨⟨h1, h2, h3⟩, _⟩ := hU.1 k hk
  rw [parse_txt h1 (by omega) (by omega)]
  rfl
theorem qTxt_short {F : List Str} {U : List Kd} {q : Qn} (hg : GoodQ F q) (hu : UQ U q) (hU : UOk U) (hF : F.length ≤ 12) : (qTxt q).length ≤ 2000 := by
  have hl := goodQ_len hg
  have h1 : ∀ x ∈ q.1, x.length ≤ 70 := fun x hx => by
    obtain ⟨k, hk, rfl⟩ := hu x hx
    obtain ⟨⟨h1, h2, h3⟩, _⟩ := hU.1 k hk
    have := txt_len h1
    omega
  have h2 := sum_le h1
  have h3 : (scTxt q.1).length ≤ 1300 := by
    have h4 := joinL_le [59, 32] (q.1.map tl)
    rw [← scTxt_tl, ← len_tl, List.map_map, List.length_map] at h4
    have e : (q.1.map (List.length ∘ tl)) = q.1.map (·.length) := List.map_congr_left fun y _ => (len_tl y).symm
    rw [e] at h4
    have h5 : q.1.length * 70 ≤ 17 * 70 := Nat.mul_le_mul_right _ (by omega)
    have h6 : q.1.length * [59, 32].length ≤ 17 * 2 := Nat.mul_le_mul_right _ (by omega)
    omega
  have h7 := word_len (A5_word hg.at')
  have l1 : (Str.ofString " ").length = 1 := by decide +kernel
  have l3 : (Str.ofString "|- ").length = 3 := by decide +kernel
  have l0 : (Str.ofString "").length = 0 := by decide +kernel
  unfold qTxt
  split
  · rw [len_app, len_app, l0, l3]; omega
  · rw [len_app, len_app, len_app, l1, l3]; omega
theorem first_len {ks : List Kd} {g : Kd} {q : Qn} (h : QFor (ks.map txt) g q) (hk : ks.length ≤ 5) (hg : KdOk g) : q.1.length ≤ 12 := by
  have h1 := nodup_le (L := ks.map txt ++ g.args.map txt) (asc_nodup h.1) fun x hx => List.mem_append.mpr ((h.2.1 x).mp hx)
  rw [List.length_append, List.length_map, List.length_map] at h1
  have h2 := plc_args g
  have h3 := plcs_length g.args
  have h4 := hg.2.1
  omega
theorem first_uq {ks : List Kd} {g : Kd} {q : Qn} (h : QFor (ks.map txt) g q) : UQ (undersKs (ks ++ [g])) q := fun x hx => by
  rcases (h.2.1 x).mp hx with z | z
  · obtain ⟨k, hk, rfl⟩ := List.mem_map.mp z
    exact ⟨k, undersKs_mem.mpr ⟨k, List.mem_append_left _ hk, undersK_self k⟩, rfl⟩
  · obtain ⟨j, hj, rfl⟩ := List.mem_map.mp z
    exact ⟨j, undersKs_mem.mpr ⟨g, by simp, undersK_arg hj⟩, rfl⟩
section
variable {P : Program} {w : World} {K : PySem.W.Frag} {mg : Str → Option Value} {base : Heap}
abbrev s__law_view : Stmt := top 90
abbrev N__law_view : List Str := ["_law_library_here", "_law_goal_here", "_law_kinds", "_law_first_here", "_law_asked_here"]
theorem sc__law_view : FnScope N__law_view ["_law_library_here", "_law_goal_here"] (defScope s__law_view) := ⟨rfl, rfl, rfl, by decide +kernel, rfl, by decide +kernel, by decide +kernel⟩
def sp_law_view (P : Program) (w : World) (K : PySem.W.Frag) : Sp := fun vs H Q _ => ∃ d kvs ps gv g, vs = [.ref d, gv] ∧ H d = some (.dK kvs) ∧ KvD K H kvs ps ∧ LibP ps ∧ Dp K H gv (kdD g) ∧ KdIn A5 5 2 g ∧
  ∀ (v : Addr) (kvs' : List (Key × V)) (e : Addr) (es : List Qe) (H' : Hp), Same H H' → H' v = some (.dK kvs') → valV kvs' (.inr "asked") = some (.ref e) → H' e = some (QdO P w e es) → QKs K H' es → (qks es).Nodup → 1 ≤ es.length → es.length ≤ 160 → (∀ x ∈ es, isQ x.1 = true ∧ (qTxt x.1).length ≤ 2000) → Q (.ref v) H'
theorem ok_law_view {f : Addr} {fd : FuncData} (F : Fun K "_law_view" "_law_view" s__law_view f fd) (N : Nm mg) (c__law_kind_dict : Cal P w K mg base CX0 5 "_law_kind_dict" (sp_law_kind_dict K)) (c__law_first : Cal P w K mg base CX0 6 "_law_first" (sp_law_first K)) (c__law_asked : Cal P w K mg base CX0 7 "_law_asked" (sp_law_asked P w K)) (c__law_ranks : Cal P w K mg base CX0 1 "_law_ranks" (sp_law_ranks P w K)) : FnOk P w K mg base CX0 8 f fd ["_law_library_here", "_law_goal_here"] (sp_law_view P w K) := by
  refine F.ok sc__law_view (fun vs H Q E h => ?_) (fun cdv A outer s H vs Q E hr h => ?_)
  · obtain ⟨d, kvs, ps, gv, g, rfl, _⟩ := h
    rfl
  · obtain ⟨d, kvs, ps, gv, g, rfl, hd, hkv, hL, dg, hg, k⟩ := h
    refine ⟨_, (pss_cons (ps_par (i := 2) (j := 3) (by rfl) sc__law_view.nd rfl rfl (by decide) rfl rfl (pa_cons (pe_c c__law_kind_dict hr (ha := (pa_cons (pv 0) (pa_cons (pv 1) pa_nil)))) (pa_cons (pe_c c__law_first hr (ha := (pa_cons (pv 0) (pa_cons (pv 1) pa_nil)))) pa_nil)) (by rfl))
      (pss_cons (ps_set (i := 4) sc__law_view.nd rfl (Or.inl rfl) (pe_c c__law_asked hr (ha := (pa_cons (pv 2) (pa_cons (pv 3) pa_nil)))))
      (pss_one (ps_ret (pe_disp (pps_cons pe_str (pv 2) (pps_cons pe_str (pv 3) (pps_cons pe_str (pv 4) (pps_cons pe_str (pe_c c__law_ranks hr (ha := (pa_cons (pv 4) pa_nil))) pps_nil)))) (by rfl) (by rfl) (fun z => by cases z) (by decide)))))), ?_⟩
    have hin : ∀ k ∈ ps.map Prod.snd ++ [g], KdIn A5 5 2 k := fun k hk => by
      rcases List.mem_append.mp hk with hk | hk
      · obtain ⟨p, hp, rfl⟩ := List.mem_map.mp hk
        exact (hL.each p hp).2.mono (fun x => A4_A5) (by omega) (Nat.le_refl _)
      · rw [List.mem_singleton.mp hk]; exact hg
    have hok : ∀ k ∈ ps.map Prod.snd ++ [g], KdOk k := fun k hk => kdIn_ok (hin k hk)
    have hpl : (ps.map Prod.snd).length ≤ 5 := by rw [List.length_map]; exact hL.le
    refine ⟨_, rfl, _, rfl, d, kvs, ps, gv, g, rfl, hd, hkv, dg, hok, hL.le, fun e1 kv1 H1 s1 _ he1 hKT hk1 => ?_⟩
    refine ⟨_, rfl, _, rfl, d, kvs, ps, gv, g, rfl, s1 _ _ hd, hkv.sameL (Fp.sL s1), Dp.same s1 dg, hok, hL.le, fun qv q H2 s2 dq hq => ⟨_, _, rfl, ?_⟩⟩
    have hU := uOk_of hin
    have hql := first_len hq hpl (kdIn_ok hg)
    refine ⟨_, rfl, _, rfl, e1, kv1, undersKs (ps.map Prod.snd ++ [g]), qv, q.1, q, rfl, s2 _ _ he1, hKT.sameL (Fp.sL s2), hU, dq, goodQ_first hq (hg.1 _ (atom_mem g)), first_uq hq, hql, fun e es H3 s3 _ he3 hk3 hn3 hl3 hl3' hes => ?_⟩
    intro D hD
    have s4 := same_new (o := .dK []) hD
    have eD : (upd H3 D (.dK [])) D = some (.dK []) := upd_same
    have he4 := s4 _ _ he3
    have hk4 := hk3.same s4
    have s04 := Same.trans s1 (Same.trans s2 (Same.trans s3 s4))
    have hD0 : H D = none := Same.free (Same.trans s1 (Same.trans s2 s3)) hD
    have hes4 : ∀ x ∈ es, AskV K (upd H3 D (.dK [])) (fun q' => GoodQ q.1 q' ∧ UQ (undersKs (ps.map Prod.snd ++ [g])) q') (fun _ => True) x.2.2 := fun x hx => (hes x hx).2.same s4
    have hDe : D ≠ e := fun z => by rw [z, he3] at hD; cases hD
    generalize (upd H3 D (.dK [])) = H4 at *
    refine ⟨_, rfl, _, rfl, _, rfl, _, rfl, e, es, _, rfl, he4, hk4, hn3, hl3', hes4, fun rv H5 s5 => ?_⟩
    refine ⟨s5 _ _ eD, [(.inr "kinds", .ref e1), (.inr "first", qv), (.inr "asked", .ref e), (.inr "ranks", rv)], rfl, by show 4 ≤ 15; decide, ?_⟩
    have eD5 := s5 _ _ eD
    refine k D _ e es _ (same_put (Same.trans s04 s5) hD0) upd_same rfl (by rw [upd_ne hDe.symm]; exact s5 _ _ he4) ((hk4.same s5).sameL (sameL_upd eD5 rfl)) hn3 hl3 hl3' fun x hx => ⟨isQ_of (hes x hx).1.1 (hes x hx).1.2 hU hql, qTxt_short (hes x hx).1.1 (hes x hx).1.2 hU hql⟩
end
end Fp
/-! W38: Library.__eq__; what is equal -/
namespace Fp
open PySem PySem.Spec PyProof.Rows L2 TL
theorem prs_same {D : Eqv} {H : Hp} : ∀ {xs : List V}, (∀ x ∈ xs, D x x H) → Prs D xs xs H
  | [], _ => Prs.nil
  | x :: xs, h => Prs.cons (h x (by simp)) (prs_same fun y hy => h y (by simp [hy]))
theorem flat_str (x : Str) (H : Hp) : DFlat (.str x) (.str x) H := ⟨rfl, rfl, by simp [eqV]⟩
theorem flat_int (x : Int) (H : Hp) : DFlat (.int x) (.int x) H := ⟨rfl, rfl, by simp [eqV]⟩
theorem prs_strs {H : Hp} (l : List Str) : Prs DFlat (l.map V.str) (l.map V.str) H := prs_same fun x hx => by
  obtain ⟨y, _, rfl⟩ := List.mem_map.mp hx
  exact flat_str y H
/-- two questions that are alike -/
def DQn (K : PySem.W.Frag) : Eqv := DTup K fun x y H => DTup K DFlat x y H ∨ DFlat x y H
theorem mon_qn {K : PySem.W.Frag} : Mon (DQn K) := mon_tup (Mon.or (mon_tup mon_flat) mon_flat)
theorem eqG_qn {X : Cx} : EqG X 2 (DQn X.K) := eqG_tup (Mon.or (mon_tup mon_flat) mon_flat) (EqG.or (eqG_tup mon_flat eqG_flat) (eqG_flat.mono (by decide)))
theorem dqn_of {K : PySem.W.Frag} {H : Hp} {x y : V} {q : Qn} (h1 : Dp K H x (qD q)) (h2 : Dp K H y (qD q)) : DQn K x y H := by
  obtain ⟨a, b, rfl, a1, a2⟩ := qv_un h1
  obtain ⟨c, d, rfl, c1, c2⟩ := qv_un h2
  exact ⟨a, c, _, _, rfl, rfl, a1, c1, Prs.cons (.inl ⟨b, d, _, _, rfl, rfl, a2, c2, prs_strs _⟩) (Prs.cons (.inr (flat_str _ _)) Prs.nil)⟩
/-- two libraries with the same lines -/
def RLib (K : PySem.W.Frag) (CL : Addr) (a b : Addr) (H : Hp) : Prop := ∃ ls, LibO K CL H (.ref a) ls ∧ LibO K CL H (.ref b) ls
theorem LibO.same {K : PySem.W.Frag} {CL : Addr} {H H' : Hp} {v : V} {ls : List Str} (s : Same H H') (h : LibO K CL H v ls) : LibO K CL H' v ls := h.sameL (sL s)
theorem mon_lib {K : PySem.W.Frag} {CL : Addr} : Mon (DIns CL (RLib K CL)) := mon_ins fun a b H H' e ⟨ls, h1, h2⟩ => ⟨ls, h1.same e, h2.same e⟩
theorem dlib_of {K : PySem.W.Frag} {CL : Addr} {H : Hp} {x y : V} {ls : List Str} (h1 : LibO K CL H x ls) (h2 : LibO K CL H y ls) : DIns CL (RLib K CL) x y H := by
  obtain ⟨a, dx, fs, ln, rfl, a1, a2, a3⟩ := id h1
  obtain ⟨b, dy, gs, ln', rfl, b1, b2, b3⟩ := id h2
  exact ⟨a, b, dx, dy, fs, gs, rfl, rfl, a1, b1, ls, h1, h2⟩
section
variable {P : Program} {w : World} {K : PySem.W.Frag} {mg : Str → Option Value} {base : Heap}
abbrev s_Library_eq : Stmt := inClass (top 39) 23
abbrev N_Library_eq : List Str := ["self", "other"]
theorem sc_Library_eq : FnScope N_Library_eq ["self", "other"] (defScope s_Library_eq) := ⟨rfl, rfl, rfl, by decide +kernel, rfl, by decide +kernel, by decide +kernel⟩
theorem ok_Library_eq {CL f : Addr} {fd : FuncData} (F : Fun K "__eq__" "Library.__eq__" s_Library_eq f fd) (N : Nm mg) (L : Lbf K mg CL) : FnOk P w K mg base CX0 2 f fd ["self", "other"] (spEq (RLib K CL)) := by
  refine F.ok sc_Library_eq (fun vs H Q E h => ?_) (fun cdv A outer s H vs Q E hr h => ?_)
  · obtain ⟨a, b, rfl, _⟩ := h
    rfl
  · obtain ⟨a, b, rfl, ⟨ls, h1, h2⟩, k⟩ := h
    obtain ⟨_, dx, fs, ln, e1, a1, a2, a3⟩ := h1
    obtain ⟨_, dy, gs, ln', e2, b1, b2, b3⟩ := h2
    cases e1
    cases e2
    refine ⟨_, (pss_one (ps_ret (pe_and (pe_callB (C8.call_isC L.insC) (by rfl) N.isi (by decide +kernel) (pa_cons (pv 1) (pa_cons (pe_gv L.g) pa_nil))) (pe_one (pe_cmpR (op_eqG (rcG_tup mon_flat eqG_flat) (hr.mono (by decide))) (pe_fld (pv 0) rfl) (pe_fld (pv 1) rfl) (nomark _)))))), ?_⟩
    refine ⟨_, rfl, b, dy, gs, rfl, b1, true, rfl, ?_⟩
    refine iteT ⟨_, rfl, a, CL, dx, fs, _, rfl, a1, L.cl, L.lines, a2, _, rfl, b, CL, dy, gs, _, rfl, b1, L.cl, L.lines, b2, ⟨ln, ln', _, _, rfl, rfl, a3, b3, prs_strs ls⟩, k⟩
end
end Fp
/-! W39: _law_got -/
namespace Fp
open PySem PySem.Spec PyProof.Rows L2 TL
/-- the errors' classes as _law_got sees them -/
structure GotF (K : PySem.W.Frag) (mg : Str → Option Value) (CP CI : Addr) : Prop where
  gP : mg "ParseError" = some (.ref CP)
  gI : mg "InvalidLibrary" = some (.ref CI)
  xf : XfC K CP
  ln : PySem.W.findIn K (.ref CP) "line" = some none
  pp : PySem.W.exmOne K (.ref CP) (.ref CP) = some true
  ip : PySem.W.exmOne K (.ref CI) (.ref CP) = some false
  ii : PySem.W.exmOne K (.ref CI) (.ref CI) = some true
/-- the word for a wrong line -/
def tellP (i : Nat) : Str := Str.ofString "parse " ++ Str.ofString (toString (i : Int))
def tellN : Str := Str.ofString "parse None"
def tellL : Str := Str.ofString "library"
/-- what an error of the call comes to -/
def GotE (CP CI : Addr) (Q : VK) : XK := fun cls d H' =>
  (cls = .ref CP ∧ ∃ dd y, d = some dd ∧ H' dd = some (.xd [("line", y)]) ∧ ((y = .non ∧ Q (.str tellN) H') ∨ ∃ i : Nat, y = .int (i : Int) ∧ i ≤ 10000000 ∧ Q (.str (tellP i)) H')) ∨ (cls = .ref CI ∧ Q (.str tellL) H')
/-- _law_got: try: return [a()] .. -/
def TGot (CP CI : Addr) : (XK → Hp → VK → Prop) → Hp → VK → Prop := fun tl H Q => tl (GotE CP CI Q) H fun v H' => [v].length ≤ sizeLine ∧ ∀ p, H' p = none → Q (.ref p) (upd H' p (.lst [v]))
abbrev s__law_got : Stmt := top 93
abbrev N__law_got : List Str := ["_law_call", "error"]
theorem sc__law_got : FnScope N__law_got ["_law_call"] (defScope s__law_got) := ⟨rfl, rfl, rfl, by decide +kernel, rfl, by decide +kernel, by decide +kernel⟩
theorem num_len {n : Nat} (h : n ≤ 10000000) : (Str.ofString (toString (n : Int))).length ≤ 60 := by
  rw [len_tl, tl_num]
  exact numL_len (by decide) (Nat.lt_of_le_of_lt h (by decide))
theorem log_small {n : Nat} (h : n ≤ 10000000) : ((n : Int)).natAbs.log2 < 1920 := log_rank (Nat.lt_of_le_of_lt h (by decide))
section
variable {X : Cx}
theorem got_gives {CP CI g : Addr} {q : Str} {cdg : Value} (N : Nm X.mg) (G : GotF X.K X.mg CP CI) : LamX.GivesTo X N__law_got "_law_got" (defScope s__law_got) g cdg (defBody s__law_got) "_law_call" q (TGot CP CI) := by
  intro f c' s H Q tl act hc h
  refine ⟨_, pss_one (ps_try_cls (X := (cxOf C8.CX0 X.prog X.w X.K X.mg X.base N__law_got "_law_got" (defScope s__law_got) g cdg X.A X.stack s H C8.E0).nox)
      (tb := fun W D σ H => ∃ Ech : XK, (∀ cls d σ' H', Ech cls d H' → W cls d σ' H') ∧ σ[0]? = some (some (.ref f)) ∧ H c' = some (LamX.CodeO c' q) ∧ tl Ech H fun v H1 => [v].length ≤ sizeLine ∧ ∀ p, H1 p = none → D.rt (.ref p) (upd H1 p (.lst [v])))
      rfl rfl LamX.takes0 (fun W pn xe tk => ?_)
      (.name (i := 1) sc__law_got.nd rfl rfl ⟨rfl, by decide, .inl G.gP⟩ (fun a oe cls d pn hz hf => pss_one (ps_ret (pe_op op_add_str pe_str (pe_callB call_repr (by rfl) N.repr (by decide +kernel) (pa_cons (pe_xf G.xf G.ln hz hf (pv 1)) pa_nil)))))
      (.cons ⟨rfl, by decide, .inl G.gI⟩ (fun a oe cls d pn hz hf => pss_one (ps_ret pe_str)) .nil))), ?_⟩
  · refine ⟨fun pins s' σ H' D I h' => ?_⟩
    obtain ⟨Ech, hW, h1, h2, h3⟩ := h'
    refine PSs.run (t := tRet (tLst (tCons (fun σZ HZ Q => σZ[0]? = some (some (.ref f)) ∧ HZ c' = some (LamX.CodeO c' q) ∧ tl Ech HZ Q) tNil))) ?_ pins s' σ H' D I ⟨h1, h2, h3⟩
    exact pss_one (ps_ret (pe_lst (pa_cons (act W pn xe Ech _ _ tk hW) pa_nil)))
  · refine ⟨GotE CP CI Q, fun cls d σ' H' hg => ?_, rfl, hc, h⟩
    rcases hg with ⟨rfl, dd, y, rfl, hd, hy⟩ | ⟨rfl, hq⟩
    · refine ⟨true, G.pp, fun _ a ha hl => ?_, fun z => nomatch z⟩
      have hσ : (σ'.set 1 (some (V.ref a)))[1]? = some (some (V.ref a)) := by
        have hl' : σ'.length = 2 := hl
        rw [List.getElem?_set_self (by omega)]
      have l6 : (Str.ofString "parse ").length = 6 := by decide +kernel
      rcases hy with ⟨rfl, hq⟩ | ⟨i, rfl, hi, hq⟩
      · refine ⟨_, hσ, rfl, rfl, dd, _, _, rfl, hd, rfl, .inl ⟨rfl, _, _, rfl, rfl, szl (by rw [l6]; decide), ?_⟩⟩
        rw [show Str.ofString "parse " ++ Str.ofString "None" = tellN by decide +kernel]
        exact hq
      · exact ⟨_, hσ, rfl, rfl, dd, _, _, rfl, hd, rfl, .inr ⟨_, rfl, log_small hi, _, _, rfl, rfl, szl (by have := num_len hi; rw [l6]; omega), hq⟩⟩
    · refine ⟨false, G.ip, (fun z => nomatch z), fun _ => ⟨true, G.ii, fun _ a ha => hq, fun z => nomatch z⟩⟩
end
end Fp
/-! M10: what is read from a text near one, plain -/
namespace Fp
open PySem TL PyProof.Rows
/-! ### pieces between line ends -/
theorem spl_one {c : Nat} : ∀ (l acc : List Nat), c ∉ acc → ∀ p ∈ spl [c] 0 acc l, c ∉ p
  | [], acc, h, p, hp => by
    rw [spl_nil] at hp
    rw [List.mem_singleton.mp hp]
    exact h
  | d :: r, acc, h, p, hp => by
    cases hpre : pre [c] (d :: r) with
    | true =>
      rw [spl_hit hpre] at hp
      rcases List.mem_cons.mp hp with rfl | hp
      · exact h
      · exact spl_one r [] (by simp) p hp
    | false =>
      rw [spl_miss hpre] at hp
      refine spl_one r (acc ++ [d]) (fun z => ?_) p hp
      rcases List.mem_append.mp z with z | z
      · exact h z
      · have hd : c = d := List.mem_singleton.mp z
        have : pre [c] (d :: r) = true := by
          unfold pre
          rw [hd]
          simp
        rw [hpre] at this
        cases this
theorem split_lines (x : Str) : ∀ p ∈ Txt.split x (Str.ofString "\n"), 10 ∉ tl p := fun p hp => by
  have e := split_spl x (Str.ofString "\n") (by rw [nl_tl]; simp) (kind_ok nl_ok)
  have hp' : tl p ∈ (Txt.split x (Str.ofString "\n")).map tl := List.mem_map.mpr ⟨p, hp, rfl⟩
  rw [e, nl_tl] at hp'
  exact spl_one _ [] (by simp) _ hp'
theorem joinL_take (S : List Nat) : ∀ (j : Nat) (ps : List (List Nat)), (joinL S (ps.take j)).length ≤ (joinL S ps).length
  | 0, ps => by rw [List.take_zero]; exact Nat.zero_le _
  | j + 1, [] => by rw [List.take_nil]; exact Nat.le_refl _
  | j + 1, [p] => by rw [List.take_succ_cons, List.take_nil]; exact Nat.le_refl _
  | j + 1, p :: q :: r => by
    have h := joinL_take S j (q :: r)
    cases j with
    | zero =>
      show p.length ≤ (p ++ (S ++ joinL S (q :: r))).length
      rw [List.length_append]
      omega
    | succ j =>
      show (p ++ (S ++ joinL S ((q :: r).take (j + 1)))).length ≤ (p ++ (S ++ joinL S (q :: r))).length
      simp only [List.length_append]
      omega
/-- the lines ahead of the j-th -/
def startT (x : Str) (j : Nat) : Str := if 0 < j then Txt.join (Str.ofString "\n") ((Txt.split x (Str.ofString "\n")).take j) else Str.ofString "none"
theorem join_split (x : Str) : Txt.join (Str.ofString "\n") (Txt.split x (Str.ofString "\n")) = x := by
  obtain ⟨h1, h2⟩ := split_back (x := x) (y := Str.ofString "\n") (by rw [nl_tl]; simp) nl_ok
  apply ext_l
  rw [join_eq, tl_join]
  exact h1
theorem len_none : (Str.ofString "none").length = 4 := by decide +kernel
theorem startT_len (x : Str) (j : Nat) : (startT x j).length ≤ x.length + 4 := by
  unfold startT
  split
  · have h := joinL_take (tl (Str.ofString "\n")) j ((Txt.split x (Str.ofString "\n")).map tl)
    have e : (joinL (tl (Str.ofString "\n")) ((Txt.split x (Str.ofString "\n")).map tl)).length = x.length := by
      rw [← tl_join, ← join_eq, join_split, ← len_tl]
    rw [e, ← List.map_take, ← tl_join, ← join_eq, ← len_tl] at h
    omega
  · rw [len_none]
    omega
theorem linesOf_none : linesOf (Str.ofString "none") = [] := by
  unfold linesOf
  rw [if_pos rfl]
/-- the first wrong line: it is one of the lines, and all ahead of it is read -/
theorem ahead_start {κ α : Type} {tell : Str → Option (κ × α)} {lt : κ → κ → Bool} {x : Str} {j : Nat} (h : runP tell lt (linesOf x) 0 none = .inl j) :
    j < (Txt.split x (Str.ofString "\n")).length ∧ ∃ r, runP tell lt (linesOf (startT x j)) 0 none = .inr r := by
  have hx : ¬ x = Str.ofString "none" := fun z => by
    rw [z, linesOf_none] at h
    cases h
  have el : linesOf x = Txt.split x (Str.ofString "\n") := by
    unfold linesOf
    rw [if_neg hx]
  rw [el] at h
  obtain ⟨_, h2, r, h3⟩ := runP_ahead h
  rw [Nat.zero_add] at h2
  refine ⟨h2, ?_⟩
  by_cases hs : startT x j = Str.ofString "none"
  · rw [hs, linesOf_none]
    exact ⟨[], rfl⟩
  · unfold startT at hs ⊢
    by_cases hj : 0 < j
    · rw [if_pos hj] at hs ⊢
      have hne : ¬ (Txt.split x (Str.ofString "\n")).take j = [] := fun z => by
        have := congrArg List.length z
        rw [List.length_take, List.length_nil] at this
        omega
      have e2 := linesOf_join (ls := (Txt.split x (Str.ofString "\n")).take j) (fun l hl => split_lines x l ((List.take_sublist _ _).subset hl)) hs
      unfold joinT at e2
      rw [if_neg hne] at e2
      rw [e2]
      exact ⟨r, h3⟩
    · rw [if_neg hj] at hs
      exact absurd rfl hs
/-! ### what is read is as it is written -/
theorem maps_back {α : Type} {tell : Str → Option α} {line : α → Str} (hb : ∀ x r, tell x = some r → line r = x) : ∀ {ls : List Str} {rs : List α}, ls.map tell = rs.map some → rs.map line = ls
  | [], [], _ => rfl
  | [], _ :: _, h => by simp at h
  | _ :: _, [], h => by simp at h
  | l :: ls, r :: rs, h => by
    rw [List.map_cons, List.map_cons] at h
    injection h with h1 h2
    rw [List.map_cons, hb _ _ h1, maps_back hb h2]
theorem maps_each {α : Type} {tell : Str → Option α} {P : α → Prop} (hb : ∀ x r, tell x = some r → P r) : ∀ {ls : List Str} {rs : List α}, ls.map tell = rs.map some → ∀ r ∈ rs, P r
  | [], [], _, r, hr => by cases hr
  | [], _ :: _, h, _, _ => by simp at h
  | _ :: _, [], h, _, _ => by simp at h
  | l :: ls, r :: rs, h, q, hq => by
    rw [List.map_cons, List.map_cons] at h
    injection h with h1 h2
    rcases List.mem_cons.mp hq with rfl | hq
    · exact hb _ _ h1
    · exact maps_each hb h2 q hq
theorem ranks_back {x : Str} {rs : List Rk} (h : runRanks x = .inr rs) : (∀ r ∈ rs, RkOk r) ∧ rs.map rkLine = linesOf x ∧ sortR rs = rs ∧ (rs.map Prod.fst).Pairwise (fun a b => ltQ a b = true) ∧ joinT ((sortR rs).map rkLine) = x := by
  have he := runP_each h
  obtain ⟨ha, _⟩ := runP_asc ltQ_trans h
  have h1 := maps_back (tell := rankOf) (line := rkLine) (fun x r e => (rankOf_back e).2) he
  have h2 : sortR rs = rs := sort_asc (fun r : Rk => r.1) rs ha
  exact ⟨maps_each (tell := rankOf) (P := RkOk) (fun x r e => (rankOf_back e).1) he, h1, h2, ha, by rw [h2, h1, join_lines]⟩
theorem partOf_back {x a : Str} {k : Kd} (h : partOf x = some (a, k)) : lineOf (a, k) = x := by
  unfold partOf at h
  obtain ⟨h1, _⟩ := split_back (x := x) (y := Str.ofString " : ") (by rw [colon_tl]; simp) colon_ok
  split at h
  · rename_i a' b e
    rw [e] at h1
    split at h
    · split at h
      · rename_i k' hk
        cases h
        have hb := parse_sound hk
        apply ext_l
        rw [lineOf_tl, ← h1, colon_tl]
        show tl a ++ ([32, 58, 32] ++ tl (txt k)) = tl a ++ ([32, 58, 32] ++ tl b)
        rw [hb]
      · cases h
    · cases h
  · cases h
theorem parts_back {x : Str} {r : List (Str × Kd)} (h : runParts x = .inr r) : r.map lineOf = linesOf x ∧ libTxt (r.map lineOf) = x := by
  have he := runP_each h
  have h1 := maps_back (tell := partOf) (line := lineOf) (fun x r e => partOf_back e) he
  refine ⟨h1, ?_⟩
  rw [h1]
  exact join_lines x
theorem sum_lines : ∀ ls : List Str, (ls.map (·.length)).sum + ls.length ≤ (joinT ls).length + 1
  | [] => by simp
  | l :: ls => by
    have e : joinT (l :: ls) = Txt.join (Str.ofString "\n") (l :: ls) := by
      unfold joinT
      rw [if_neg (by simp)]
    have go : ∀ (ps : List (List Nat)) (p : List Nat), ((p :: ps).map List.length).sum + (p :: ps).length = (joinL [10] (p :: ps)).length + 1 := by
      intro ps
      induction ps with
      | nil => intro p; simp [joinL]
      | cons q ps ih =>
        intro p
        have := ih q
        show _ = (p ++ ([10] ++ joinL [10] (q :: ps))).length + 1
        simp only [List.map_cons, List.sum_cons, List.length_cons, List.length_append, List.length_nil] at this ⊢
        omega
    have h := go (ls.map tl) (tl l)
    rw [e, len_tl, join_eq, tl_join, nl_tl]
    rw [← List.map_cons, List.map_map, List.length_map] at h
    have e2 : (l :: ls).map (List.length ∘ tl) = (l :: ls).map (·.length) := List.map_congr_left fun y _ => (len_tl y).symm
    rw [e2] at h
    omega
theorem lines_sum (x : Str) : ((linesOf x).map (·.length)).sum + (linesOf x).length ≤ x.length + 1 := by
  have h := sum_lines (linesOf x)
  rwa [join_lines] at h
end Fp
/-! W40: lambdas handed to _law_got; _law_is_first -/
namespace Fp
open PySem PySem.Spec PyProof.Rows L2 TL
/-- a def that holds lambdas: its code object stands at c -/
structure FunL (K : PySem.W.Frag) (x qual : Str) (st : Stmt) (f : Addr) (fd : FuncData) (c : Addr) : Prop where
  ex : ∃ (oc : Value) (od : Option Addr) (kV doc pm : Value) (an : Option Addr) (ct : Value) (osl : Array (Option Value)),
    fd = PySem.W.fnOf x qual (defArgs st) (defBody st) (defScope st) .none kV doc pm an (.ref c) ct ∧ K.lookup f = some ⟨oc, od, .func fd, osl⟩ ∧ PySem.W.codeIn K (.ref c) qual = true
theorem FunL.ok {P : Program} {w : World} {K : PySem.W.Frag} {mg : Str → Option Value} {base : Heap} {x qual : Str} {st : Stmt} {f c : Addr} {fd : FuncData} {N ps : List Str} {k : Nat} {sp : Sp} (F : FunL K x qual st f fd c) (S : FnScope N ps (defScope st)) (len : ∀ vs H Q E, sp vs H Q E → vs.length = ps.length)
    (hbody : ∀ (A : Around) (outer : List Env) (s : Shared) (H : Hp) (vs : List V) (Q : VK) (E : XK), Room k (A.deeper (envOfC qual (defScope st) s.heap.objs.size f (.ref c))) → sp vs H Q E →
      ∃ t, PSs (cxOf CX0 P w K mg base N qual (defScope st) f (.ref c) A outer s H E).nox (defBody st) t ∧ t { nx := fun _ H' => Q .non H', rt := Q } (L2.start N vs) H) : FnOk P w K mg base CX0 (k + 1) f fd ps sp := by
  obtain ⟨oc, od, kV, doc, pm, an, ct, osl, rfl, lk, hcd⟩ := F.ex
  refine fn_of lk hcd S len fun A outer s H vs Q E hr hsp => ?_
  obtain ⟨t, h, q⟩ := hbody A outer s H vs Q E hr hsp
  exact ⟨t, h.nox, q⟩
/-- _law_got as it stands -/
structure GotD (K : PySem.W.Frag) (mg : Str → Option Value) : Prop where
  ex : ∃ (g : Addr) (fd : FuncData), mg "_law_got" = some (.ref g) ∧ Fun K "_law_got" "_law_got" s__law_got g fd
/-- the name of the lambdas within a def -/
def qL (x : Str) : Str := x ++ ".<locals>." ++ "<lambda>"
/-- a def's code object and the table of its lambdas -/
structure TbL (base : Heap) (mg : Str → Option Value) (T : List (Addr × Str)) (c Pt : Addr) (q : Str) : Prop where
  tb : LamX.TabB base mg c Pt
  mem : (Pt, q) ∈ T
  uniq : ∀ p ∈ T, p.1 = Pt → p.2 = q
theorem pe_got {X : Cx} {T : List (Addr × Str)} {CP CI c Pt : Addr} {k : Nat} {params : Arguments} {body : Expr} {scope : Scope} {t : XK → TE} {p lpos pos : Pos}
    (N : Nm X.mg) (G : GotF X.K X.mg CP CI) (D : GotD X.K X.mg) (TB : TbL X.base X.mg T c Pt (X.env.qual ++ "<lambda>")) (hcode : X.env.code = .ref c) (hr : Room (k + 2) X.A)
    (hbody : ∀ (A : Around) (outer : List Env) (s : Shared) (H : Hp) (E : XK) (f c' : Addr), Room k (A.deeper (LamX.lamEnv X scope s.heap.objs.size f c')) → PE (LamX.lamCx X A outer s H E scope f c') body (t E))
    (hg : Gl X "_law_got" := by rfl) (L : LamX.lamSB X.env.scope scope = true := by kernel_rfl) (hdef : defaultsOf params X.env = ([], []) := by rfl)
    (hbind : ∀ (q : Str) (cl : List (Str × Addr)) (pm cv ctv : Value), bindArgs (PySem.W.kla_fn "<lambda>" q params body scope cl pm cv ctv) ⟨[], []⟩ = pure [] := by intros; rfl) :
    PE X (.Call (.Name "_law_got" p) [.Lambda params body scope lpos] [] pos) (LamX.tLam T (TGot CP CI) t) := by
  obtain ⟨g, fd, hm, F⟩ := D.ex
  have hb : Binds X.K fd ["_law_call"] [] := F.binds (fun _ _ _ _ _ _ us hl => match us, hl with | [_], _ => rfl)
  have kp := F.kp
  obtain ⟨oc, od, kV, doc, pm, an, cdv, ct, osl, rfl, lk, hcd⟩ := F.ex
  exact LamX.pe_lamcall hg hm kp lk hcd hb sc__law_got rfl (.inl rfl) (got_gives N G) TB.tb hcode TB.mem TB.uniq hr (LamX.lamS_by L) hdef hbind hbody
theorem tellP_inj {i j : Nat} (hi : i < 10 ^ 60) (hj : j < 10 ^ 60) (h : tellP i = tellP j) : i = j := by
  have h1 := congrArg tl h
  unfold tellP at h1
  rw [tl_app2, tl_app2] at h1
  have h2 := List.append_cancel_left h1
  rw [tl_num, tl_num] at h2
  have h3 := numOf_num hi
  rw [h2, numOf_num hj] at h3
  exact (Option.some.inj h3).symm
theorem cutV_head (xs : List V) (j : Nat) : cutV xs none (some (j : Int)) = xs.take j := by
  unfold cutV
  rw [HT.sIx_none, HT.sIx_nat, List.drop_zero, Nat.sub_zero]
  by_cases h : j ≤ xs.length
  · rw [Nat.min_eq_left h]
  · rw [Nat.min_eq_right (by omega), List.take_length, List.take_of_length_le (by omega)]
theorem join_sum {ls : List Str} (h : ls ≠ []) : (ls.map (·.length)).sum + ls.length ≤ (Txt.join (Str.ofString "\n") ls).length + 1 := by
  have h1 := sum_lines ls
  unfold joinT at h1
  rwa [if_neg h] at h1
theorem _root_.LamX.Tabs.same {T : List (Addr × Str)} {H H' : Hp} (t : LamX.Tabs T H) (s : Same H H') : LamX.Tabs T H' := t.ext s
theorem extN_same {H H' : Hp} (s : Same H H') : LamX.ExtN H H' := LamX.ExtN.of s
section
variable {P : Program} {w : World} {K : PySem.W.Frag} {mg : Str → Option Value} {base : Heap}
abbrev s__law_is_first : Stmt := top 95
abbrev N__law_is_first : List Str := ["_law_told", "_law_lines_here", "_law_is_library", "_law_ahead", "_law_given", "_law_start", "_law_at"]
theorem sc__law_is_first : FnScope N__law_is_first ["_law_told", "_law_lines_here", "_law_is_library"] (defScope s__law_is_first) := ⟨rfl, rfl, rfl, by decide +kernel, rfl, by decide +kernel, by decide +kernel⟩
def sp_law_is_first (K : PySem.W.Frag) (T : List (Addr × Str)) : Sp := fun vs H Q _ => ∃ (ln : Addr) (b : Bool) (x : Str) (j : Nat), vs = [.str (tellP j), .ref ln, .bl b] ∧ H ln = some (.lst ((Txt.split x (Str.ofString "\n")).map V.str)) ∧ x.length ≤ 80000 ∧ (b = true → runParts x = .inl j) ∧ (b = false → runRanks x = .inl j) ∧ LamX.Tabs T H ∧
  ∀ H', LamX.ExtN H H' → LamX.Tabs T H' → Q (.bl true) H'
theorem ok_law_is_first {CP CI CL c Pt : Addr} {T : List (Addr × Str)} {f : Addr} {fd : FuncData} (F : FunL K "_law_is_first" "_law_is_first" s__law_is_first f fd c) (N : Nm mg) (G : GotF K mg CP CI) (D : GotD K mg) (TB : TbL base mg T c Pt (qL "_law_is_first"))
    (c_read_library : Cal P w K mg base (L2.CX P w) 15 "read_library" (sp_read_library K CL CI CP)) (c_read_ranks : Cal P w K mg base (L2.CX P w) 16 "read_ranks" (sp_read_ranks P w K CP)) : FnOk P w K mg base CX0 19 f fd ["_law_told", "_law_lines_here", "_law_is_library"] (sp_law_is_first K T) := by
  refine F.ok sc__law_is_first (fun vs H Q E h => ?_) (fun A outer s H vs Q E hr h => ?_)
  · obtain ⟨ln, b, x, j, rfl, _⟩ := h
    rfl
  · obtain ⟨ln, b, x, j, rfl, hln, hxl, hb1, hb2, hT, k⟩ := h
    refine ⟨_, (pss_cons (ps_setLc (i := 3) (own := [("_law_at", 6)]) (g := gName 6) rfl sc__law_is_first.nd rfl rfl (sw_true rfl rfl rfl (by decide +kernel)) (pi_range1 (by rfl) N.range (pa_cons (pe_callB call_len_seq (by rfl) N.len (by decide +kernel) (pa_cons (pv 1) pa_nil)) pa_nil)) (blkOk_by (N := N__law_is_first) (sc := defScope s__law_is_first) (by decide +kernel)) (fun _ _ _ _ _ => pg_name (i := 6) sc__law_is_first.nd rfl (Or.inl rfl)) (fun _ _ _ _ _ => pts_one (pt_cmpR op_eq (pv 0) (pe_op op_add_str pe_str (pe_callTy call_str_int (by rfl) N.str (by decide +kernel) (pa_cons (pv 6) pa_nil))) (nomark _))) (fun _ _ _ _ _ => (pv 6)))
      (pss_cons (ps_if (pt_cmpR op_ne (pe_callB call_len_seq (by rfl) N.len (by decide +kernel) (pa_cons (pv 3) pa_nil)) pe_int (nomark _)) (pss_one (ps_ret pe_bl)) pss_nil)
      (C8.pss_cut (ps_set (i := 5) sc__law_is_first.nd rfl (Or.inr rfl) (pe_ifExp (pt_cmpR op_gt (pe_ix ix_list (pv 3) pe_int (fun _ _ => rfl)) pe_int (nomark _)) (pe_join pe_str (pe_slice sl_list (pv 1) po_none (po_some (pe_ix ix_list (pv 3) pe_int (fun _ _ => rfl))))) pe_str))
      (C8.pss_cut (ps_set (i := 4) sc__law_is_first.nd rfl (Or.inl rfl) (pe_got (k := 16) N G D TB rfl (hr.mono (by decide)) (fun A outer s H E f c' hr' => pe_ifExp (pt_val (pv 2)) (pe_cx c_read_library hr' (fun σ => passAt (takes_of rfl rfl rfl rfl) σ) (ha := pa_cons (pv 5) pa_nil)) (pe_cx c_read_ranks hr' (fun σ => passAt (takes_of rfl rfl rfl rfl) σ) (ha := pa_cons (pv 5) pa_nil)))))
      (pss_one (ps_ret (pe_or (pe_callB call_isi (by rfl) N.isi (by decide +kernel) (pa_cons (pv 4) (pa_cons (pe_bltn (v := .ty "list") (by rfl) N.list (by decide +kernel) rfl) pa_nil))) (pe_one (pe_cmpR op_eq (pv 4) pe_str (nomark _)))))))))), ?_⟩
    have hsn := split_num (x := x) (y := Str.ofString "\n") (by rw [nl_tl]; simp) nl_ok
    have hjl : j < (Txt.split x (Str.ofString "\n")).length ∧ (b = true → ∃ r, runParts (startT x j) = .inr r) ∧ (b = false → ∃ r, runRanks (startT x j) = .inr r) := by
      cases b with
      | true => exact ⟨(ahead_start (hb1 rfl)).1, fun _ => (ahead_start (hb1 rfl)).2, fun z => nomatch z⟩
      | false => exact ⟨(ahead_start (hb2 rfl)).1, fun z => (nomatch z), fun _ => (ahead_start (hb2 rfl)).2⟩
    obtain ⟨hj, hr1, hr2⟩ := hjl
    have hst := startT_len x j
    unfold startT at hst hr1 hr2
    generalize Txt.split x (Str.ofString "\n") = ls at *
    have hll : (ls.map V.str).length = ls.length := List.length_map ..
    refine ⟨_, rfl, ln, _, rfl, .inl (SqL.of hln), _, rfl, by omega, by omega, fun HD hHD => ?_⟩
    refine lc_same (g := gName 6) (walk_range (lo := 0) (n := (ls.map V.str).length)) hHD (by omega) (fun _ _ => True.intro) (fun i acc _ => acc = if j < i then [V.int (j : Int)] else []) (fun i acc H H' l hl sb r => r) (fun H4 => rfl) (fun i acc H4 r => by rw [r]; split <;> simp <;> omega) (fun i z H4 H5 acc hi s4 hl4 r y Qy Qn hy hn => ?_) (fun H4 acc s4 hacc r => ?_)
    · obtain ⟨rfl, hz⟩ := y
      have hz' : z = V.int (i : Int) := by
        rw [hz]
        show V.int (0 + (i : Int)) = _
        rw [Int.zero_add]
      clear hz
      subst hz'
      have hi' : i ≤ 10000000 := by omega
      have l6 : (Str.ofString "parse ").length = 6 := by decide +kernel
      refine ⟨rfl, _, rfl, _, rfl, _, rfl, log_small hi', _, _, rfl, rfl, szl (by have := num_len hi'; rw [l6]; omega), rfl, _, rfl, ?_⟩
      have hji : ∀ n : Nat, n ≤ 10000000 → n < 10 ^ 60 := fun n hn => Nat.lt_of_le_of_lt hn (by decide)
      by_cases e : j = i
      · refine iteTo (decide_eq_true (by rw [e]; rfl)) ⟨_, rfl, hy _ _ (Same.refl _) ?_⟩
        rw [r, if_neg (by omega), if_pos (by omega), e]
        rfl
      · refine iteFo (decide_eq_false (fun z => e (tellP_inj (hji _ (by omega)) (hji _ hi') (V.str.inj z)))) (hn _ (Same.refl _) ?_)
        rw [r]
        by_cases h : j < i
        · rw [if_pos h, if_pos (by omega)]
        · rw [if_neg h, if_neg (by omega)]
    rw [hll, if_pos hj] at r
    subst r
    have hHD1 : H4 HD = some (.lst [V.int (j : Int)]) := hacc
    have hln4 := s4 _ _ hln
    refine ⟨_, rfl, HD, _, rfl, .inl (SqL.of hHD1), rfl, _, rfl, iteFo (by show (!decide (V.int ((1 : Nat) : Int) = V.int 1)) = false; decide) ?_⟩
    refine ⟨fun σ5 H5 => ∃ st : Str, σ5 = [some (.str (tellP j)), some (.ref ln), some (.bl b), some (.ref HD), none, some (.str st), none] ∧ Same H4 H5 ∧ st.length ≤ x.length + 4 ∧ (b = true → ∃ r, runParts st = .inr r) ∧ (b = false → ∃ r, runRanks st = .inr r), ?_, ?_⟩
    · refine ⟨_, rfl, HD, _, 0, _, rfl, rfl, SqL.of hHD1, rfl, _, _, rfl, rfl, _, rfl, ?_⟩
      by_cases h0 : 0 < j
      · rw [if_pos h0] at hst hr1 hr2
        have hne : ls.take j ≠ [] := fun z => by
          have := congrArg List.length z
          rw [List.length_take, List.length_nil] at this
          omega
        have hsum := join_sum hne
        have l1 : (Str.ofString "\n").length = 1 := by decide +kernel
        refine iteTo (decide_eq_true (by omega)) ⟨⟨_, rfl⟩, _, rfl, _, rfl, HD, _, 0, _, rfl, rfl, SqL.of hHD1, rfl, _, rfl, ln, _, rfl, SqL.of hln4, fun p hp => ⟨_, p, ls.take j, rfl, rfl, .inl (SqL.of (by rw [upd_same, cutV_head, List.map_take])), by rw [l1]; omega, ?_⟩⟩
        exact ⟨_, rfl, same_new hp, hst, hr1, hr2⟩
      · rw [if_neg h0] at hst hr1 hr2
        exact iteFo (decide_eq_false (by omega)) ⟨_, rfl, Same.refl _, hst, hr1, hr2⟩
    rintro σ5 H5 ⟨st, rfl, s5, hsl, hp1, hp2⟩
    clear hr1 hr2 hst
    have sH5 := Same.trans s4 s5
    refine ⟨fun σ6 H6 => ∃ v : V, σ6 = [some (.str (tellP j)), some (.ref ln), some (.bl b), some (.ref HD), some v, some (.str st), none] ∧ LamX.ExtN H H6 ∧ LamX.Tabs T H6 ∧ (v = .str tellL ∨ ∃ p u, v = .ref p ∧ H6 p = some (.lst u)), ?_, ?_⟩
    · refine ⟨hT.same sH5, fun H6 e6 t6 => ?_⟩
      have e06 := (extN_same sH5).trans e6
      cases b with
      | true =>
        obtain ⟨r, hr0⟩ := hp1 rfl
        refine ⟨_, rfl, _, rfl, iteT ⟨_, rfl, st, rfl, by omega, (fun i hi => by rw [hr0] at hi; cases hi), fun r' hr' => ⟨fun h8 v H7 s7 hL => ⟨szl (by show 1 ≤ 16777216; decide), fun p hp => ?_⟩, fun h8 H7 s7 => .inr ⟨rfl, ?_⟩⟩⟩⟩
        · exact ⟨_, rfl, e06.trans (extN_same (Same.trans s7 (same_new hp))), t6.same (Same.trans s7 (same_new hp)), .inr ⟨p, _, rfl, upd_same⟩⟩
        · exact ⟨_, rfl, e06.trans (extN_same s7), t6.same s7, .inl rfl⟩
      | false =>
        obtain ⟨r, hr0⟩ := hp2 rfl
        refine ⟨_, rfl, _, rfl, iteF ⟨_, rfl, st, rfl, by omega, (fun i hi => by rw [hr0] at hi; cases hi), fun r' hr' d es H7 s7 hd hk hE => ⟨szl (by show 1 ≤ 16777216; decide), fun p hp => ?_⟩⟩⟩
        exact ⟨_, rfl, e06.trans (extN_same (Same.trans s7 (same_new hp))), t6.same (Same.trans s7 (same_new hp)), .inr ⟨p, _, rfl, upd_same⟩⟩
    rintro σ6 H6 ⟨v, rfl, e6, t6, hv⟩
    rcases hv with rfl | ⟨p, u, rfl, hp⟩
    · refine ⟨_, rfl, _, _, _, _, false, rfl, .ty "list", .base (.str _), kit_ty (by decide +kernel), _, rfl, iteF ⟨_, rfl, rfl, ?_⟩⟩
      rw [show decide (V.str tellL = V.str (Str.ofString "library")) = true from decide_eq_true rfl]
      exact k _ e6 t6
    · exact ⟨_, rfl, _, _, _, _, true, rfl, .ty "list", .base (.lst hp), kit_ty (by decide +kernel), _, rfl, iteT (k _ e6 t6)⟩
end
end Fp
/-! W41: _law_near_right -/
namespace Fp
open PySem PySem.Spec PyProof.Rows L2 TL
section
variable {X : Cx}
/-- what was got != a text -/
def rNeTold (K : PySem.W.Frag) : R2 := fun x y H Q => ∃ z, y = .str z ∧ ((∃ x', x = .str x' ∧ Q (.bl (!decide (x' = z))) H) ∨ ∃ a u, x = .ref a ∧ SqL K H a u ∧ Q (.bl true) H)
theorem op_neTold (hu : X.A.units < cLine) : OpR X (compareOp .NotEq) (rNeTold X.K) := by
  intro pins s σ H x y v u Q I rx ry h
  obtain ⟨z, rfl, h⟩ := h
  obtain ⟨t, rfl⟩ := ry
  show wpAny (model X.prog X.w) X.A (richCompare .NotEq v (.str z t)) (EP X pins σ Q) X.xe s
  rcases h with ⟨x', rfl, q⟩ | ⟨a, us, rfl, hl, q⟩
  · obtain ⟨t', rfl⟩ := rx
    refine SeqAt.RcNeAt.str_str x' t' z t X.prog X.w X.xe _ ⟨.bl (!decide (x' = z)), H, I, ?_, q⟩
    show _ = _
    rw [show (x' == z) = decide (x' = z) from rfl]
  · cases rx
    obtain ⟨its, r, pl, _⟩ := I.list hl
    exact SeqAt.RcNeAt.list_str z t (plainL_list pl) hu X.prog X.w X.xe _ ⟨.bl true, H, I, rfl, q⟩
end
section
variable {P : Program} {w : World} {K : PySem.W.Frag} {mg : Str → Option Value} {base : Heap}
abbrev s__law_near_right : Stmt := top 94
abbrev N__law_near_right : List Str := ["_law_question_here", "_law_ranks_here", "_law_lines_here", "_law_told"]
theorem sc__law_near_right : FnScope N__law_near_right ["_law_question_here", "_law_ranks_here", "_law_lines_here"] (defScope s__law_near_right) := ⟨rfl, rfl, rfl, by decide +kernel, rfl, by decide +kernel, by decide +kernel⟩
def sp_law_near_right (T : List (Addr × Str)) : Sp := fun vs H Q _ => ∃ (x y z : Str), vs = [.str x, .str y, .str z] ∧ x.length ≤ 70000 ∧ y.length ≤ 70000 ∧ z.length ≤ 70000 ∧ LamX.Tabs T H ∧ ∀ H', LamX.ExtN H H' → LamX.Tabs T H' → Q (.bl true) H'
theorem ok_law_near_right {CP CI CL c Pt : Addr} {T : List (Addr × Str)} {f : Addr} {fd : FuncData} (F : FunL K "_law_near_right" "_law_near_right" s__law_near_right f fd c) (N : Nm mg) (G : GotF K mg CP CI) (D : GotD K mg) (TB : TbL base mg T c Pt (qL "_law_near_right"))
    (c_read_question : Cal P w K mg base (L2.CX P w) 14 "read_question" (sp_read_question K CP)) (c_read_library : Cal P w K mg base (L2.CX P w) 15 "read_library" (sp_read_library K CL CI CP)) (c_read_ranks : Cal P w K mg base (L2.CX P w) 16 "read_ranks" (sp_read_ranks P w K CP))
    (c_write_question : Cal P w K mg base CX0 13 "write_question" (sp_question_text K)) (c_write_ranks : Cal P w K mg base CX0 14 "write_ranks" (sp_write_ranks P w K)) (c_write_library : Cal P w K mg base CX0 2 "write_library" (sp_write_library K CL))
    (c__law_is_first : Cal P w K mg base CX0 19 "_law_is_first" (sp_law_is_first K T)) : FnOk P w K mg base CX0 20 f fd ["_law_question_here", "_law_ranks_here", "_law_lines_here"] (sp_law_near_right T) := by
  refine F.ok sc__law_near_right (fun vs H Q E h => ?_) (fun A outer s H vs Q E hr h => ?_)
  · obtain ⟨x, y, z, rfl, _⟩ := h
    rfl
  · obtain ⟨x, y, z, rfl, hx, hy, hz, hT, k⟩ := h
    refine ⟨_, (C8.pss_cut (ps_set (i := 3) sc__law_near_right.nd rfl (Or.inl rfl) (pe_got (k := 16) N G D TB rfl (hr.mono (by decide)) (fun A outer s H E f c' hr' => pe_cx c_read_question hr' (fun σ => passAt (takes_of rfl rfl rfl rfl) σ) (ha := pa_cons (pv 0) pa_nil))))
      (C8.pss_cut (ps_if (PW.pt (pw_and (pt_cmpR (op_neTold hr.units0) (pv 3) pe_str (nomark _)) (pw_and1 (PW.pt (pw_or (pt_val (pe_callB call_isi (by rfl) N.isi (by decide +kernel) (pa_cons (pv 3) (pa_cons (pe_bltn (v := .ty "str") (by rfl) N.str (by decide +kernel) rfl) pa_nil)))) (pw_or1 (pt_cmpR op_ne (pe_c c_write_question hr (ha := (pa_cons (pe_ix ix_list (pv 3) pe_int (fun _ _ => rfl)) pa_nil))) (pv 0) (nomark _)))))))) (pss_one (ps_ret pe_bl)) pss_nil)
      (C8.pss_cut (ps_set (i := 3) sc__law_near_right.nd rfl (Or.inl rfl) (pe_got (k := 16) N G D TB rfl (hr.mono (by decide)) (fun A outer s H E f c' hr' => pe_cx c_read_ranks hr' (fun σ => passAt (takes_of rfl rfl rfl rfl) σ) (ha := pa_cons (pv 1) pa_nil))))
      (C8.pss_cut (ps_if (PW.pt (pw_and (pt_val (pe_callB call_isi (by rfl) N.isi (by decide +kernel) (pa_cons (pv 3) (pa_cons (pe_bltn (v := .ty "list") (by rfl) N.list (by decide +kernel) rfl) pa_nil)))) (pw_and1 (pt_cmpR op_ne (pe_c c_write_ranks hr (ha := (pa_cons (pe_ix ix_list (pv 3) pe_int (fun _ _ => rfl)) pa_nil))) (pv 1) (nomark _))))) (pss_one (ps_ret pe_bl)) pss_nil)
      (C8.pss_cut (ps_if (PW.pt (pw_and (pt_val (pe_callB call_isi (by rfl) N.isi (by decide +kernel) (pa_cons (pv 3) (pa_cons (pe_bltn (v := .ty "str") (by rfl) N.str (by decide +kernel) rfl) pa_nil)))) (pw_and1 (pt_not (pt_val (pe_c c__law_is_first hr (ha := (pa_cons (pv 3) (pa_cons (pe_split (pv 1) pe_str) (pa_cons pe_bl pa_nil)))))))))) (pss_one (ps_ret pe_bl)) pss_nil)
      (C8.pss_cut (ps_set (i := 3) sc__law_near_right.nd rfl (Or.inl rfl) (pe_got (k := 16) N G D TB rfl (hr.mono (by decide)) (fun A outer s H E f c' hr' => pe_cx c_read_library hr' (fun σ => passAt (takes_of rfl rfl rfl rfl) σ) (ha := pa_cons (pv 2) pa_nil))))
      (pss_cons (ps_if (pt_val (pe_callB call_isi (by rfl) N.isi (by decide +kernel) (pa_cons (pv 3) (pa_cons (pe_bltn (v := .ty "list") (by rfl) N.list (by decide +kernel) rfl) pa_nil)))) (pss_one (ps_ret (pe_cmpR op_eq (pe_c c_write_library hr (ha := (pa_cons (pe_ix ix_list (pv 3) pe_int (fun _ _ => rfl)) pa_nil))) (pv 2) (nomark _)))) pss_nil)
      (pss_one (ps_ret (pe_or (pe_cmpR op_eq (pv 3) pe_str (nomark _)) (pe_one (pe_c c__law_is_first hr (ha := (pa_cons (pv 3) (pa_cons (pe_split (pv 2) pe_str) (pa_cons pe_bl pa_nil)))))))))))))))), ?_⟩
    -- the question
    refine ⟨fun σ1 H1 => ∃ v : V, σ1 = [some (.str x), some (.str y), some (.str z), some v] ∧ LamX.ExtN H H1 ∧ LamX.Tabs T H1 ∧ (v = .str tellN ∨ ∃ p u q, v = .ref p ∧ H1 p = some (.lst [u]) ∧ Dp K H1 u (qD q) ∧ isQ q = true ∧ qTxt q = x), ?_, ?_⟩
    · refine ⟨hT, fun H1 e1 t1 => ⟨_, rfl, x, rfl, by omega, fun hn d H2 s2 hd => .inl ⟨rfl, d, _, rfl, hd, .inl ⟨rfl, ?_⟩⟩, fun q hq v H2 s2 dq => ⟨szl (by show 1 ≤ 16777216; decide), fun p hp => ?_⟩⟩⟩
      · exact ⟨_, rfl, e1.trans (extN_same s2), t1.same s2, .inl rfl⟩
      · have s3 := Same.trans s2 (same_new (o := .lst [v]) hp)
        exact ⟨_, rfl, e1.trans (extN_same s3), t1.same s3, .inr ⟨p, v, q, rfl, upd_same, Dp.same (same_new hp) dq, (qTold_back hq).1, (qTold_back hq).2⟩⟩
    rintro σ1 H1 ⟨v, rfl, e1, t1, hv⟩
    refine ⟨fun σ2 H2 => ∃ v : V, σ2 = [some (.str x), some (.str y), some (.str z), some v] ∧ LamX.ExtN H H2 ∧ LamX.Tabs T H2, ?_, ?_⟩
    · rcases hv with rfl | ⟨p, u, q, rfl, hp, du, iq, hq⟩
      · exact ⟨_, rfl, _, rfl, .inl ⟨_, rfl, _, rfl, iteFo (by decide +kernel) (iteF ⟨_, rfl, e1, t1⟩)⟩⟩
      · refine ⟨_, rfl, _, rfl, .inr ⟨p, _, rfl, SqL.of hp, _, rfl, iteT ?_⟩⟩
        refine ⟨_, rfl, _, _, _, _, false, rfl, .ty "str", .base (.lst hp), kit_ty (by decide +kernel), _, rfl, iteF ?_⟩
        refine ⟨_, rfl, p, _, 0, _, rfl, rfl, SqL.of hp, rfl, u, q, rfl, du, iq, fun H2 s2 => ⟨_, rfl, rfl, _, rfl, iteFo (by rw [hq, decide_eq_true rfl]; rfl) ?_⟩⟩
        exact ⟨_, rfl, e1.trans (extN_same s2), t1.same s2⟩
    clear hv v
    rintro σ2 H2 ⟨v, rfl, e2, t2⟩
    clear e1 t1
    -- the ranks
    refine ⟨fun σ3 H3 => ∃ v : V, σ3 = [some (.str x), some (.str y), some (.str z), some v] ∧ LamX.ExtN H H3 ∧ LamX.Tabs T H3 ∧ ((∃ j, v = .str (tellP j) ∧ runRanks y = .inl j) ∨ ∃ p d es rs, v = .ref p ∧ H3 p = some (.lst [.ref d]) ∧ H3 d = some (QdO P w d es) ∧ QKs K H3 es ∧ RkE es rs ∧ runRanks y = .inr rs), ?_, ?_⟩
    · refine ⟨t2, fun H3 e3 t3 => ⟨_, rfl, y, rfl, by omega, fun j hj d H4 s4 hd => .inl ⟨rfl, d, _, rfl, hd, .inr ⟨j, rfl, ?_, ?_⟩⟩, fun rs hrs d es H4 s4 hd hk hE => ⟨szl (by show 1 ≤ 16777216; decide), fun p hp => ?_⟩⟩⟩
      · have h1 := (ahead_start hj).1
        have h2 := split_num (x := y) (y := Str.ofString "\n") (by rw [nl_tl]; simp) nl_ok
        omega
      · exact ⟨_, rfl, (e2.trans e3).trans (extN_same s4), t3.same s4, .inl ⟨j, rfl, hj⟩⟩
      · have s5 := same_new (o := .lst [V.ref d]) hp
        exact ⟨_, rfl, (e2.trans e3).trans (extN_same (Same.trans s4 s5)), t3.same (Same.trans s4 s5), .inr ⟨p, d, es, rs, rfl, upd_same, s5 _ _ hd, hk.same s5, hE, hrs⟩⟩
    clear e2 t2
    rintro σ3 H3 ⟨v3, rfl, e3, t3, hv⟩
    refine ⟨fun σ4 H4 => σ4 = [some (.str x), some (.str y), some (.str z), some v3] ∧ LamX.ExtN H H4 ∧ LamX.Tabs T H4 ∧ ((∃ j, v3 = .str (tellP j) ∧ runRanks y = .inl j) ∨ ∃ p u, v3 = .ref p ∧ H4 p = some (.lst u)), ?_, ?_⟩
    · rcases hv with ⟨j, rfl, hj⟩ | ⟨p, d, es, rs, rfl, hp, hd, hk, hE, hrs⟩
      · exact ⟨_, rfl, _, _, _, _, false, rfl, .ty "list", .base (.str _), kit_ty (by decide +kernel), _, rfl, iteF (iteF ⟨rfl, e3, t3, .inl ⟨j, rfl, hj⟩⟩)⟩
      · obtain ⟨b1, b2, b3, b4, b5⟩ := ranks_back hrs
        have hls := lines_sum y
        rw [← b2, List.length_map] at hls
        refine ⟨_, rfl, _, _, _, _, true, rfl, .ty "list", .base (.lst hp), kit_ty (by decide +kernel), _, rfl, iteT ?_⟩
        refine ⟨_, rfl, p, _, 0, _, rfl, rfl, SqL.of hp, rfl, d, es, rs, rfl, hd, hk, hE, b1, ?_, fun H4 s4 => ⟨_, rfl, rfl, _, rfl, iteFo (by rw [b5, decide_eq_true rfl]; rfl) ?_⟩⟩
        · rw [b3]
          rw [List.map_map] at hls
          have e : rs.map (fun r => (rkLine r).length) = rs.map ((fun x => x.length) ∘ rkLine) := rfl
          rw [e]
          omega
        · exact ⟨rfl, e3.trans (extN_same s4), t3.same s4, .inr ⟨p, _, rfl, s4 _ _ hp⟩⟩
    clear hv e3 t3
    rintro σ4 H4 ⟨rfl, e4, t4, hv⟩
    refine ⟨fun σ5 H5 => ∃ v : V, σ5 = [some (.str x), some (.str y), some (.str z), some v] ∧ LamX.ExtN H H5 ∧ LamX.Tabs T H5, ?_, ?_⟩
    · rcases hv with ⟨j, rfl, hj⟩ | ⟨p, u, rfl, hp⟩
      · refine ⟨_, rfl, _, _, _, _, true, rfl, .ty "str", .base (.str _), kit_ty (by decide +kernel), _, rfl, iteT ?_⟩
        refine ⟨_, rfl, _, rfl, ⟨_, rfl⟩, y, _, rfl, rfl, by decide +kernel, szl (by omega), fun ln hln => ?_⟩
        refine ⟨ln, false, y, j, rfl, upd_same, by omega, (fun q => nomatch q), fun _ => hj, t4.same (same_new hln), fun H5 e5 t5 => ⟨_, rfl, iteF ?_⟩⟩
        exact ⟨_, rfl, (e4.trans (extN_same (same_new hln))).trans e5, t5⟩
      · exact ⟨_, rfl, _, _, _, _, false, rfl, .ty "str", .base (.lst hp), kit_ty (by decide +kernel), _, rfl, iteF (iteF ⟨_, rfl, e4, t4⟩)⟩
    clear hv e4 t4 v3
    rintro σ5 H5 ⟨v5, rfl, e5, t5⟩
    -- the library
    refine ⟨fun σ6 H6 => ∃ v : V, σ6 = [some (.str x), some (.str y), some (.str z), some v] ∧ LamX.ExtN H H6 ∧ LamX.Tabs T H6 ∧ (v = .str tellL ∨ (∃ j, v = .str (tellP j) ∧ runParts z = .inl j) ∨ ∃ p u r, v = .ref p ∧ H6 p = some (.lst [u]) ∧ LibO K CL H6 u (r.map lineOf) ∧ runParts z = .inr r), ?_, ?_⟩
    · refine ⟨t5, fun H6 e6 t6 => ⟨_, rfl, z, rfl, by omega, fun j hj d H7 s7 hd => .inl ⟨rfl, d, _, rfl, hd, .inr ⟨j, rfl, ?_, ?_⟩⟩, fun r hr0 => ⟨fun h8 v H7 s7 hL => ⟨szl (by show 1 ≤ 16777216; decide), fun p hp => ?_⟩, fun h8 H7 s7 => .inr ⟨rfl, ?_⟩⟩⟩⟩
      · have h1 := (ahead_start hj).1
        have h2 := split_num (x := z) (y := Str.ofString "\n") (by rw [nl_tl]; simp) nl_ok
        omega
      · exact ⟨_, rfl, (e5.trans e6).trans (extN_same s7), t6.same s7, .inr (.inl ⟨j, rfl, hj⟩)⟩
      · have s8 := Same.trans s7 (same_new (o := .lst [v]) hp)
        exact ⟨_, rfl, (e5.trans e6).trans (extN_same s8), t6.same s8, .inr (.inr ⟨p, v, r, rfl, upd_same, hL.same (same_new hp), hr0⟩)⟩
      · exact ⟨_, rfl, (e5.trans e6).trans (extN_same s7), t6.same s7, .inl rfl⟩
    clear e5 t5 v5
    rintro σ6 H6 ⟨v, rfl, e6, t6, hv⟩
    rcases hv with rfl | ⟨j, rfl, hj⟩ | ⟨p, u, r, rfl, hp, hL, hr0⟩
    · refine ⟨_, rfl, _, _, _, _, false, rfl, .ty "list", .base (.str _), kit_ty (by decide +kernel), _, rfl, iteF ⟨_, rfl, rfl, _, rfl, ?_⟩⟩
      rw [show decide (V.str tellL = V.str (Str.ofString "library")) = true from decide_eq_true rfl]
      exact iteT (k _ e6 t6)
    · refine ⟨_, rfl, _, _, _, _, false, rfl, .ty "list", .base (.str _), kit_ty (by decide +kernel), _, rfl, iteF ⟨_, rfl, rfl, _, rfl, ?_⟩⟩
      have hne : V.str (tellP j) ≠ V.str (Str.ofString "library") := fun q => by
        have h1 := congrArg tl (V.str.inj q)
        unfold tellP at h1
        rw [tl_app2, show tl (Str.ofString "parse ") = [112, 97, 114, 115, 101, 32] by decide +kernel, show tl (Str.ofString "library") = [108, 105, 98, 114, 97, 114, 121] by decide +kernel] at h1
        cases h1
      rw [decide_eq_false hne]
      refine iteF ⟨_, rfl, _, rfl, ⟨_, rfl⟩, z, _, rfl, rfl, by decide +kernel, szl (by omega), fun ln hln => ?_⟩
      exact ⟨ln, true, z, j, rfl, upd_same, by omega, (fun _ => hj), (fun q => nomatch q), t6.same (same_new hln), fun H7 e7 t7 => k _ ((e6.trans (extN_same (same_new hln))).trans e7) t7⟩
    · obtain ⟨b1, b2⟩ := parts_back hr0
      have hls := lines_sum z
      rw [← b1] at hls
      refine ⟨_, rfl, _, _, _, _, true, rfl, .ty "list", .base (.lst hp), kit_ty (by decide +kernel), _, rfl, iteT ?_⟩
      refine ⟨_, rfl, p, _, 0, _, rfl, rfl, SqL.of hp, rfl, u, _, rfl, hL, by omega, fun H7 s7 => ⟨_, rfl, rfl, ?_⟩⟩
      rw [b2, decide_eq_true rfl]
      exact k _ (e6.trans (extN_same s7)) (t6.same s7)
end
end Fp
/-! M11: what is written is read, plain -/
namespace Fp
open PySem TL PyProof.Rows
theorem perm_lift {α β : Type} {f : α → β} {a b : List β} (h : a.Perm b) : ∀ l : List α, b = l.map f → ∃ l' : List α, l'.Perm l ∧ a = l'.map f := by
  induction h with
  | nil => exact fun l e => ⟨l, List.Perm.refl _, e⟩
  | cons x _ ih =>
    intro l e
    cases l with
    | nil => simp at e
    | cons y l =>
      rw [List.map_cons] at e
      injection e with e1 e2
      obtain ⟨l', p, e3⟩ := ih l e2
      exact ⟨y :: l', p.cons y, by rw [List.map_cons, e1, e3]⟩
  | swap x y r =>
    intro l e
    match l, e with
    | u :: v :: l, e =>
      simp only [List.map_cons, List.cons.injEq] at e
      obtain ⟨e1, e2, e3⟩ := e
      exact ⟨v :: u :: l, List.Perm.swap .., by simp [e1, e2, e3]⟩
  | trans _ _ ih1 ih2 =>
    intro l e
    obtain ⟨l1, p1, e1⟩ := ih2 l e
    obtain ⟨l2, p2, e2⟩ := ih1 l1 e1
    exact ⟨l2, p2.trans p1, e2⟩
theorem none_not {x : Str} {c : Nat} (h : c ∈ tl x) (hc : c ∉ [110, 111, 110, 101]) : x ≠ Str.ofString "none" := fun e => by
  rw [e, show tl (Str.ofString "none") = [110, 111, 110, 101] by decide +kernel] at h
  exact hc h
theorem joinL_has {S : List Nat} {c : Nat} : ∀ {ps : List (List Nat)} {p : List Nat}, p ∈ ps → c ∈ p → c ∈ joinL S ps
  | [q], p, h, hc => by
    rw [List.mem_singleton.mp h] at hc
    exact hc
  | q :: r :: rs, p, h, hc => by
    show c ∈ q ++ (S ++ joinL S (r :: rs))
    rcases List.mem_cons.mp h with rfl | h
    · exact List.mem_append_left _ hc
    · exact List.mem_append_right _ (List.mem_append_right _ (joinL_has h hc))
theorem join_has {c : Nat} {ls : List Str} {l : Str} (h : l ∈ ls) (hc : c ∈ tl l) : c ∈ tl (Txt.join (Str.ofString "\n") ls) := by
  rw [join_eq, tl_join]
  exact joinL_has (List.mem_map.mpr ⟨l, h, rfl⟩) hc
theorem joinT_ne {ls : List Str} (h : ls ≠ []) : joinT ls = Txt.join (Str.ofString "\n") ls := by
  unfold joinT
  rw [if_neg h]
theorem sortR_perm (rs : List Rk) : (sortR rs).Perm rs := List.mergeSort_perm rs _
theorem ranks_read {rs : List Rk} (hn : (rs.map Prod.fst).Nodup) (hok : ∀ r ∈ rs, RkOk r) (hne : rs ≠ []) : runRanks (Txt.join (Str.ofString "\n") ((sortR rs).map rkLine)) = .inr (sortR rs) := by
  have hp := sortR_perm rs
  have hok' : ∀ r ∈ sortR rs, RkOk r := fun r hr => hok r (hp.mem_iff.mp hr)
  have hne' : sortR rs ≠ [] := fun z => hne (List.length_eq_zero_iff.mp (by rw [← hp.length_eq, z]; rfl))
  have hls : (sortR rs).map rkLine ≠ [] := fun z => hne' (List.map_eq_nil_iff.mp z)
  have hjn : Txt.join (Str.ofString "\n") ((sortR rs).map rkLine) ≠ Str.ofString "none" := by
    obtain ⟨r, hr⟩ := List.exists_mem_of_ne_nil _ hne'
    refine none_not (c := 32) (join_has (List.mem_map.mpr ⟨r, hr, rfl⟩) ?_) (by decide)
    rw [rkLine_tl]
    simp
  have hl := linesOf_join (fun l hl => by
    obtain ⟨r, hr, rfl⟩ := List.mem_map.mp hl
    exact nl_free_rk (hok' r hr)) hjn
  rw [joinT_ne hls] at hl
  unfold runRanks
  rw [hl]
  refine runP_ok ?_ (asc_sort (fun r : Rk => r.1) rs hn) (fun p hr => rfl)
  rw [List.map_map]
  exact List.map_congr_left fun r hr => rankOf_line (hok' r hr)
theorem LibP.perm {ps ps' : List (Str × Kd)} (h : LibP ps) (p : ps'.Perm ps) : LibP ps' :=
  ⟨(p.map Prod.fst).nodup_iff.mpr h.nd, fun q hq => h.each q (p.mem_iff.mp hq), by rw [p.length_eq]; exact h.ne, by rw [p.length_eq]; exact h.le⟩
theorem parts_read {ps : List (Str × Kd)} (hL : LibP ps) (hs : sortedS (ps.map Prod.fst) = true) : runParts (Txt.join (Str.ofString "\n") (ps.map lineOf)) = .inr ps := by
  have hne : ps ≠ [] := fun z => by
    have := hL.ne
    rw [z] at this
    cases this
  have hls : ps.map lineOf ≠ [] := fun z => hne (List.map_eq_nil_iff.mp z)
  have hjn : Txt.join (Str.ofString "\n") (ps.map lineOf) ≠ Str.ofString "none" := by
    obtain ⟨r, hr⟩ := List.exists_mem_of_ne_nil _ hne
    refine none_not (c := 58) (join_has (List.mem_map.mpr ⟨r, hr, rfl⟩) ?_) (by decide)
    rw [lineOf_tl]
    simp
  have hl := linesOf_join (fun l hl => by
    obtain ⟨r, hr, rfl⟩ := List.mem_map.mp hl
    obtain ⟨h1, h2⟩ := hL.each r hr
    exact nl_free_part (a := r.1) (k := r.2) h1 (kdIn_wds h2)) hjn
  rw [joinT_ne hls] at hl
  unfold runParts
  rw [hl]
  refine runP_ok ?_ (asc_of_sorted hs hL.nd) (fun p hr => rfl)
  rw [List.map_map]
  refine List.map_congr_left fun r hr => ?_
  obtain ⟨h1, h2⟩ := hL.each r hr
  obtain ⟨_, h3, h4⟩ := id h2
  exact partOf_line h1 (kdIn_wds h2) (by omega) (by omega)
theorem lib_len {ps : List (Str × Kd)} (hL : LibP ps) : (Txt.join (Str.ofString "\n") (ps.map lineOf)).length ≤ 1000 := by
  have h1 : ∀ l ∈ ps.map lineOf, l.length ≤ 100 := fun l hl => by
    obtain ⟨r, hr, rfl⟩ := List.mem_map.mp hl
    obtain ⟨h1, h2⟩ := hL.each r hr
    have h3 := word_len h1
    have h4 := txt_len (kdIn_wds h2)
    have h5 := h2.2.1
    unfold lineOf
    rw [len_app, len_app, len_app, len_colon, len_empty]
    omega
  have h2 := sum_le h1
  have h3 := joinL_le [10] ((ps.map lineOf).map tl)
  have e : ((ps.map lineOf).map tl).map List.length = (ps.map lineOf).map (·.length) := by
    rw [List.map_map]
    exact List.map_congr_left fun y _ => (len_tl y).symm
  rw [e, List.length_map, List.length_map] at h3
  rw [List.length_map] at h2
  have hle := hL.le
  have h4 : ps.length * 100 ≤ 5 * 100 := Nat.mul_le_mul_right _ hle
  have h5 : ps.length * [10].length ≤ 5 * 1 := Nat.mul_le_mul_right _ hle
  rw [len_tl, join_eq, tl_join, nl_tl]
  omega
theorem ranks_len {rs : List Rk} (h : ∀ r ∈ rs, RkOk r ∧ (qTxt r.1).length ≤ 2000) (hl : rs.length ≤ 3) : (((sortR rs).map rkLine).map (·.length)).sum + rs.length ≤ 7000 ∧ (Txt.join (Str.ofString "\n") ((sortR rs).map rkLine)).length ≤ 7000 := by
  have hp := sortR_perm rs
  have h1 : ∀ l ∈ (sortR rs).map rkLine, l.length ≤ 2100 := fun l hl => by
    obtain ⟨r, hr, rfl⟩ := List.mem_map.mp hl
    obtain ⟨h1, h2⟩ := h r (hp.mem_iff.mp hr)
    have h3 := rk_len h1
    have l1 : (Str.ofString " ").length = 1 := by decide +kernel
    unfold rkLine
    rw [len_app, len_app, len_app, l1, len_empty]
    omega
  have h2 := sum_le h1
  have h3 := joinL_le [10] (((sortR rs).map rkLine).map tl)
  have e : (((sortR rs).map rkLine).map tl).map List.length = ((sortR rs).map rkLine).map (·.length) := by
    rw [List.map_map]
    exact List.map_congr_left fun y _ => (len_tl y).symm
  rw [e, List.length_map, List.length_map, hp.length_eq] at h3
  rw [List.length_map, hp.length_eq] at h2
  have h4 : rs.length * 2100 ≤ 3 * 2100 := Nat.mul_le_mul_right _ hl
  have h5 : rs.length * [10].length ≤ 3 * 1 := Nat.mul_le_mul_right _ hl
  refine ⟨by omega, ?_⟩
  rw [len_tl, join_eq, tl_join, nl_tl]
  omega
end Fp
/-! W42: _law_right -/
namespace Fp
open PySem PySem.Spec PyProof.Rows L2 TL
/-- all but the dice and the tables stay -/
def ExtB (D : Addr) (H H' : Hp) : Prop := ∀ b o, b ≠ D → H b = some o → (∀ ps, o ≠ .tbl ps) → H' b = some o
theorem ExtB.trans {D : Addr} {H H1 H2 : Hp} (a : ExtB D H H1) (b : ExtB D H1 H2) : ExtB D H H2 := fun c o n h t => b c o n (a c o n h t) t
theorem extB_N {D : Addr} {H H' : Hp} (e : LamX.ExtN H H') : ExtB D H H' := fun b o _ h t => e b o h t
theorem extB_B {D : Addr} {H H' : Hp} (e : SameB D H H') : ExtB D H H' := fun b o n h _ => e b o n h
theorem tabs_B {T : List (Addr × Str)} {D : Addr} {H H' : Hp} (t : LamX.Tabs T H) (s : SameB D H H') (h : DiO H D) : LamX.Tabs T H' := fun p hp => by
  obtain ⟨x, y, z, hD⟩ := h
  obtain ⟨ps, h1, h2, h3⟩ := t p hp
  have ne : ∀ {b : Addr} {o : HO}, H b = some o → (∀ xs, o ≠ .lst xs) → b ≠ D := fun {b o} e n q => by
    rw [q, hD] at e
    exact n _ (Option.some.inj e).symm
  refine ⟨ps, s _ _ (ne h1 fun xs q => by cases q) h1, h2, fun pos cv hc => ?_⟩
  obtain ⟨c, e1, e2⟩ := h3 pos cv hc
  exact ⟨c, e1, s _ _ (ne e2 fun xs q => by unfold LamX.CodeO at q; cases q) e2⟩
theorem QAs.sameL {K : PySem.W.Frag} {H H' : Hp} {ps : List Qa} (s : SameL H H') (h : QAs K H ps) : QAs K H' ps := fun e he => Dp.sameL s (noL_q e.1) (h e he)
/-- the library, the questions: what _law_right has made of its dice -/
structure RtA (K : PySem.W.Frag) (D d L : Addr) (kvs : List (Key × V)) (ps : List (Str × Kd)) (p6 : List Qa) (H : Hp) : Prop where
  hd : H d = some (.dK kvs)
  hkv : KvD K H kvs ps
  hL : LibP ps
  hq : H L = some (.lst (qaV p6))
  hQ : QAs K H p6
  nd : (p6.map Prod.fst).Nodup
  l1 : 1 ≤ p6.length
  l6 : p6.length ≤ 6
  ok : ∀ x ∈ p6, isQ x.1 = true ∧ (qTxt x.1).length ≤ 2000
  dice : DiO H D
  ne : L ≠ D
theorem RtA.same {K : PySem.W.Frag} {D d L : Addr} {kvs : List (Key × V)} {ps : List (Str × Kd)} {p6 : List Qa} {H H' : Hp} (s : Same H H') (h : RtA K D d L kvs ps p6 H) : RtA K D d L kvs ps p6 H' :=
  ⟨s _ _ h.hd, h.hkv.sameL (sL s), h.hL, s _ _ h.hq, h.hQ.same s, h.nd, h.l1, h.l6, h.ok, h.dice.same s, h.ne⟩
theorem RtA.sameB {K : PySem.W.Frag} {D d L : Addr} {kvs : List (Key × V)} {ps : List (Str × Kd)} {p6 : List Qa} {H H' : Hp} (s : SameB D H H') (hD : DiO H' D) (h : RtA K D d L kvs ps p6 H) : RtA K D d L kvs ps p6 H' := by
  have sl := dice_sL s h.dice
  refine ⟨s _ _ (fun z => ?_) h.hd, h.hkv.sameL sl, h.hL, s _ _ h.ne h.hq, h.hQ.sameL sl, h.nd, h.l1, h.l6, h.ok, hD, h.ne⟩
  obtain ⟨x, y, z', hD'⟩ := h.dice
  have := h.hd
  rw [z, hD'] at this
  cases this
/-- .. and the ranks -/
structure RtB (P : Program) (w : World) (K : PySem.W.Frag) (RD : Addr) (es : List Qe) (rs : List Rk) (H : Hp) : Prop where
  hr : H RD = some (QdO P w RD es)
  hk : QKs K H es
  hE : RkE es rs
  nd : (rs.map Prod.fst).Nodup
  ne : rs ≠ []
  le : rs.length ≤ 3
  ok : ∀ r ∈ rs, RkOk r ∧ (qTxt r.1).length ≤ 2000
theorem RtB.same {P : Program} {w : World} {K : PySem.W.Frag} {RD : Addr} {es : List Qe} {rs : List Rk} {H H' : Hp} (s : Same H H') (h : RtB P w K RD es rs H) : RtB P w K RD es rs H' := ⟨s _ _ h.hr, h.hk.same s, h.hE, h.nd, h.ne, h.le, h.ok⟩
theorem RtB.sameB {P : Program} {w : World} {K : PySem.W.Frag} {D RD : Addr} {es : List Qe} {rs : List Rk} {H H' : Hp} (s : SameB D H H') (hD : DiO H D) (h : RtB P w K RD es rs H) : RtB P w K RD es rs H' := by
  refine ⟨s _ _ (fun z => ?_) h.hr, h.hk.sameL (dice_sL s hD), h.hE, h.nd, h.ne, h.le, h.ok⟩
  obtain ⟨x, y, z', hD'⟩ := hD
  have := h.hr
  rw [z, hD'] at this
  cases this
abbrev rAddT : R2 := fun x y H Q => ∃ i j, x = .str i ∧ y = .str j ∧ i.length + j.length ≤ sizeLine ∧ Q (.str (i ++ j)) H
abbrev rStrI : List V → Hp → VK → Prop := fun xs H Q => ∃ i : Int, xs = [V.int i] ∧ i.natAbs.log2 < 1920 ∧ Q (V.str (Str.ofString (toString i))) H
theorem paired_snocP {α β : Type} {G : α → β → Prop} : ∀ {l₁ : List α} {l₂ : List β} {a : α} {b : β}, Paired G l₁ l₂ → G a b → Paired G (l₁ ++ [a]) (l₂ ++ [b])
  | _, _, _, _, .nil, r => .cons r .nil
  | _, _, _, _, .cons h t, r => .cons h (paired_snocP t r)
theorem dio_off {H : Hp} {D b : Addr} {o : HO} (h : DiO H D) (n : b ≠ D) : DiO (upd H b o) D := by
  obtain ⟨x, y, z, e⟩ := h
  exact ⟨x, y, z, by rw [upd_ne n.symm]; exact e⟩
theorem rke_of {Pn : Nat → Prop} : ∀ {es : List Qe}, (∀ e ∈ es, ∃ n : Nat, e.2.2 = V.int (n : Int) ∧ Pn n) → ∃ rs, RkE es rs ∧ ∀ r ∈ rs, Pn r.2
  | [], _ => ⟨[], rfl, fun r hr => by cases hr⟩
  | e :: es, h => by
    obtain ⟨n, h1, h2⟩ := h e (by simp)
    obtain ⟨rs, h3, h4⟩ := rke_of (es := es) fun e he => h e (by simp [he])
    refine ⟨(e.1, n) :: rs, ?_, fun r hr => ?_⟩
    · unfold RkE at h3 ⊢
      rw [List.map_cons, List.map_cons, h3, h1]
    · rcases List.mem_cons.mp hr with rfl | hr
      · exact h2
      · exact h4 r hr
theorem rk_line (q : Qn) (r : Rk) (h : q = r.1 := by rfl) : Str.ofString (toString ((r.2 : Nat) : Int)) ++ Str.ofString " " ++ qTxt q = rkLine r := by
  subst h
  apply ext_l
  unfold rkLine
  rw [tl_app2, tl_app2, tl_app2, tl_app2, tl_app2]
  rfl
theorem prs_qas {K : PySem.W.Frag} {H : Hp} : ∀ {as bs : List Qa}, as.map Prod.fst = bs.map Prod.fst → QAs K H as → QAs K H bs → Prs (DQn K) (qaV as) (qaV bs) H
  | [], [], _, _, _ => Prs.nil
  | [], _ :: _, h, _, _ => by simp at h
  | _ :: _, [], h, _, _ => by simp at h
  | a :: as, b :: bs, h, ha, hb => by
    rw [List.map_cons, List.map_cons] at h
    injection h with h1 h2
    have hb1 := hb b (by simp)
    rw [← h1] at hb1
    exact Prs.cons (dqn_of (ha a (by simp)) hb1) (prs_qas h2 (fun x hx => ha x (by simp [hx])) fun x hx => hb x (by simp [hx]))
/-- in a call that raises nothing -/
abbrev spQ (sp : Sp) : Sp := fun vs H Q _ => sp vs H Q E0
theorem Cal.q {P : Program} {w : World} {K : PySem.W.Frag} {mg : Str → Option Value} {base : Heap} {k : Nat} {x : Str} {sp : Sp} (c : Cal P w K mg base (L2.CX P w) k x sp) : Cal P w K mg base CX0 k x (spQ sp) := c.quiet fun _ _ _ _ h => h
section
variable {P : Program} {w : World} {K : PySem.W.Frag} {mg : Str → Option Value} {base : Heap}
abbrev s__law_right : Stmt := top 96
abbrev N__law_right : List Str := ["_law_dice_here", "_law_library_here", "_law_view_here", "_law_questions", "_law_ranks_here", "_law_question_here", "_law_rows", "_law_due", "_law_turn", "_law_one"]
theorem sc__law_right : FnScope N__law_right ["_law_dice_here"] (defScope s__law_right) := ⟨rfl, rfl, rfl, by decide +kernel, rfl, by decide +kernel, by decide +kernel⟩
def sp_law_right (T : List (Addr × Str)) : Sp := fun vs H Q _ => ∃ D, vs = [.ref D] ∧ DiO H D ∧ LamX.Tabs T H ∧ ∀ H', ExtB D H H' → LamX.Tabs T H' → Q (.bl true) H'
theorem ok_law_right {CP CI CL fe : Addr} {fde : FuncData} {T : List (Addr × Str)} {f : Addr} {fd : FuncData} (F : Fun K "_law_right" "_law_right" s__law_right f fd) (N : Nm mg) (L : Lbf K mg CL)
    (FE : FnOk P w K mg base CX0 2 fe fde ["self", "other"] (spEq (RLib K CL))) (hse : PySem.W.findIn K (.ref CL) "__eq__" = some (some (.ref fe))) (hfe : PySem.W.isFn K (.ref fe) = true) (hbe : Binds K fde ["self", "other"] [])
    (c_read_question : Cal P w K mg base (L2.CX P w) 14 "read_question" (sp_read_question K CP)) (c_read_library : Cal P w K mg base (L2.CX P w) 15 "read_library" (sp_read_library K CL CI CP)) (c_read_ranks : Cal P w K mg base (L2.CX P w) 16 "read_ranks" (sp_read_ranks P w K CP))
    (c_write_question : Cal P w K mg base CX0 13 "write_question" (sp_question_text K)) (c_write_ranks : Cal P w K mg base CX0 14 "write_ranks" (sp_write_ranks P w K)) (c_write_library : Cal P w K mg base CX0 2 "write_library" (sp_write_library K CL))
    (c__law_library : Cal P w K mg base CX0 7 "_law_library" (sp_law_library K)) (c__law_goal : Cal P w K mg base CX0 7 "_law_goal" (sp_law_goal K)) (c__law_view : Cal P w K mg base CX0 8 "_law_view" (sp_law_view P w K))
    (c__law_some : Cal P w K mg base CX0 2 "_law_some" (sp_law_some K)) (c__law_roll : Cal P w K mg base CX0 1 "_law_roll" sp_law_roll) (c__law_pick : Cal P w K mg base CX0 2 "_law_pick" (sp_law_pick K)) (c__law_bent : Cal P w K mg base CX0 3 "_law_bent" sp_law_bent)
    (c__law_question_line : Cal P w K mg base CX0 1 "_law_question_line" (sp_question_text K)) (c__law_lines : Cal P w K mg base CX0 5 "_law_lines" (sp_law_lines K)) (c__law_made : Cal P w K mg base CX0 7 "_law_made" (sp_law_made K CL))
    (c__law_near_right : Cal P w K mg base CX0 20 "_law_near_right" (sp_law_near_right T)) : FnOk P w K mg base CX0 21 f fd ["_law_dice_here"] (sp_law_right T) := by
  refine F.ok sc__law_right (fun vs H Q E h => ?_) (fun cdv A outer s H vs Q E hr h => ?_)
  · obtain ⟨D, rfl, _⟩ := h
    rfl
  · obtain ⟨D, rfl, hD, hT, k⟩ := h
    refine ⟨_, (pss_cons (ps_set (i := 1) sc__law_right.nd rfl (Or.inl rfl) (pe_c c__law_library hr (ha := (pa_cons (pv 0) pa_nil))))
      (pss_cons (ps_set (i := 2) sc__law_right.nd rfl (Or.inl rfl) (pe_c c__law_view hr (ha := (pa_cons (pv 1) (pa_cons (pe_c c__law_goal hr (ha := (pa_cons (pv 0) (pa_cons (pv 1) pa_nil)))) pa_nil)))))
      (C8.pss_cut (ps_set (i := 3) sc__law_right.nd rfl (Or.inl rfl) (pe_slice sl_list (pe_callB (cr_sortDQ rfl hr.units) (by rfl) N.sorted (by decide +kernel) (pa_cons (pe_dget (hu_of hr) (pv 2) pe_str (fun _ _ => rfl)) pa_nil)) po_none (po_some pe_int)))
      (C8.pss_cut (ps_set (i := 4) sc__law_right.nd rfl (Or.inr rfl) (pe_callTy (call_dictQ rfl hr.units) (by rfl) N.dict (by decide +kernel) (pa_cons (pe_lc (own := [("_law_one", 9)]) (g := gName 9) (tt := tYes) rfl sc__law_right.nd (pi_list (pe_c c__law_some hr (ha := (pa_cons (pv 0) (pa_cons (pv 3) (pa_cons pe_int pa_nil)))))) (blkOk_by (N := N__law_right) (sc := defScope s__law_right) (by decide +kernel)) (fun _ _ _ _ _ => pg_name (i := 9) sc__law_right.nd rfl (Or.inl rfl)) (fun _ _ _ _ _ => pts_nil) (fun _ _ _ _ _ => (pe_tup (pa_cons (pv 9) (pa_cons (pe_op op_add pe_int (pe_c c__law_roll hr (ha := (pa_cons (pv 0) (pa_cons pe_int pa_nil))))) pa_nil))))) pa_nil)))
      (C8.pss_cut (ps_set (i := 5) sc__law_right.nd rfl (Or.inl rfl) (pe_c c__law_pick hr (ha := (pa_cons (pv 0) (pa_cons (pv 3) pa_nil)))))
      (C8.pss_cut (ps_setLc (i := 6) (own := [("_law_one", 9)]) (g := gName 9) (tt := tYes) (te := tOp rAddT (tOp rAddT (tCB rStrI (tCons (tOp (rIxQ K P w) (tVar 4) (tVar 9)) tNil)) (tC (.str (Str.ofString " ")))) (tCall (sp_question_text K) [] E0 (tCons (tVar 9) tNil))) rfl sc__law_right.nd rfl rfl (sw_true rfl rfl rfl (by decide +kernel)) (pi_list (pe_callB (cr_sortDQ rfl hr.units) (by rfl) N.sorted (by decide +kernel) (pa_cons (pv 4) pa_nil))) (blkOk_by (N := N__law_right) (sc := defScope s__law_right) (by decide +kernel)) (fun _ _ _ _ _ => pg_name (i := 9) sc__law_right.nd rfl (Or.inl rfl)) (fun _ _ _ _ _ => pts_nil) (fun _ _ _ _ _ => (pe_op op_add_str (pe_op op_add_str (pe_callTy call_str_int (by rfl) N.str (by decide +kernel) (pa_cons (pe_ix (ix_dictQ hr.units) (pv 4) (pv 9) (fun _ _ => rfl)) pa_nil)) pe_str) (pe_c c__law_question_line hr (ha := (pa_cons (pv 9) pa_nil))))))
      (C8.pss_cut (ps_set (i := 7) sc__law_right.nd rfl (Or.inl rfl) (pe_lst (pa_cons (pe_c c__law_question_line hr (ha := (pa_cons (pv 5) pa_nil))) (pa_cons (pe_join pe_str (pv 6)) (pa_cons (pe_join pe_str (pe_c c__law_lines hr (ha := (pa_cons (pv 1) pa_nil)))) pa_nil)))))
      (C8.pss_cut (ps_if (pt_cmpR (op_neG mon_flat eqG_flat (hr.mono (by decide))) (pe_lst (pa_cons (pe_c c_write_question hr (ha := (pa_cons (pv 5) pa_nil))) (pa_cons (pe_c c_write_ranks hr (ha := (pa_cons (pv 4) pa_nil))) (pa_cons (pe_c c_write_library hr (ha := (pa_cons (pe_c c__law_made hr (ha := (pa_cons (pv 1) pa_nil))) pa_nil))) pa_nil)))) (pv 7) (nomark _)) (pss_one (ps_ret pe_bl)) pss_nil)
      (C8.pss_cut (ps_if (pt_cmpR (op_neG (n := 2) (Mon.or mon_qn (Mon.or mon_dict mon_lib)) (EqG.or eqG_qn (EqG.or eqG_dict (eqG_ins (E := E0) FE hse hfe hbe pass0))) (hr.mono (by decide))) (pe_lst (pa_cons (pe_c c_read_question.q hr (ha := (pa_cons (pe_ix ix_list (pv 7) pe_int (fun _ _ => rfl)) pa_nil))) (pa_cons (pe_c c_read_ranks.q hr (ha := (pa_cons (pe_ix ix_list (pv 7) pe_int (fun _ _ => rfl)) pa_nil))) (pa_cons (pe_c c_read_library.q hr (ha := (pa_cons (pe_ix ix_list (pv 7) pe_int (fun _ _ => rfl)) pa_nil))) pa_nil)))) (pe_lst (pa_cons (pv 5) (pa_cons (pv 4) (pa_cons (pe_c c__law_made hr (ha := (pa_cons (pv 1) pa_nil))) pa_nil)))) (nomark _)) (pss_one (ps_ret pe_bl)) pss_nil)
      (C8.pss_cut (ps_if (pt_cmpR (op_neG mon_qn eqG_qn (hr.mono (by decide))) (pe_callTy (call_listQ rfl) (by rfl) N.list (by decide +kernel) (pa_cons (pe_c c_read_ranks.q hr (ha := (pa_cons (pe_ix ix_list (pv 7) pe_int (fun _ _ => rfl)) pa_nil))) pa_nil)) (pe_callB (cr_sortDQ rfl hr.units) (by rfl) N.sorted (by decide +kernel) (pa_cons (pv 4) pa_nil)) (nomark _)) (pss_one (ps_ret pe_bl)) pss_nil)
      (pss_cons (ps_for PassesOwn.never rfl (pi_range1 (by rfl) N.range (pa_cons pe_int pa_nil)) (pg_name (i := 8) sc__law_right.nd rfl (Or.inl rfl)) (pss_one (ps_if (pt_not (pt_val (pe_c c__law_near_right hr (ha := (pa_cons (pe_c c__law_bent hr (ha := (pa_cons (pv 0) (pa_cons (pe_ix ix_list (pv 7) pe_int (fun _ _ => rfl)) pa_nil)))) (pa_cons (pe_c c__law_bent hr (ha := (pa_cons (pv 0) (pa_cons (pe_ix ix_list (pv 7) pe_int (fun _ _ => rfl)) pa_nil)))) (pa_cons (pe_c c__law_bent hr (ha := (pa_cons (pv 0) (pa_cons (pe_ix ix_list (pv 7) pe_int (fun _ _ => rfl)) pa_nil)))) pa_nil))))))) (pss_one (ps_ret pe_bl)) pss_nil)))
      (pss_one (ps_ret pe_bl))))))))))))), ?_⟩
    refine ⟨_, rfl, D, rfl, hD, fun d kvs ps H1 sB1 hD1 hdn hd1 hkv1 hL => ?_⟩
    have ndD : d ≠ D := fun z => by
      obtain ⟨a, b, c, h⟩ := hD1
      rw [z, h] at hd1
      cases hd1
    refine ⟨_, rfl, _, rfl, _, rfl, D, d, kvs, ps, rfl, hD1, hd1, hkv1, hL, fun gv g H2 sB2 hD2 dg hg => ?_⟩
    refine ⟨d, kvs, ps, gv, g, rfl, sB2 _ _ ndD hd1, hkv1.sameL (dice_sL sB2 hD1), hL, dg, hg, fun v kvs' e es H3 s3 hv3 hve he3 hk3 hn3 hl3 hl3' hes => ?_⟩
    have hd3 := s3 _ _ (sB2 _ _ ndD hd1)
    have hkv3 := (hkv1.sameL (dice_sL sB2 hD1)).sameL (Fp.sL s3)
    have hD3 := hD2.same s3
    have sB3 : SameB D H H3 := (sB1.trans sB2).trans (sB s3)
    refine ⟨fun σ4 H4 => ∃ (L : Addr) (p6 : List Qa), σ4 = [some (.ref D), some (.ref d), some (.ref v), some (.ref L), none, none, none, none, none, none] ∧ RtA K D d L kvs ps p6 H4 ∧ SameB D H H4, ?_, ?_⟩
    · refine ⟨_, rfl, v, .ref e, rfl, by rw [← hve]; exact DGet.k (k := .inr "asked") hv3, e, es, rfl, .inl he3, hk3, fun l hl => ?_⟩
      refine ⟨_, rfl, l, _, rfl, SqL.of upd_same, fun L hLn => ?_⟩
      have s4 := same_new (o := .lst (qaV (sortQ (qas es)))) hl
      have s5 := same_new (o := .lst (cutV (qaV (sortQ (qas es))) none (some 6))) hLn
      have s45 := Same.trans s4 s5
      have hperm : (sortQ (qas es)).Perm (qas es) := List.mergeSort_perm _ _
      have hmem : ∀ x ∈ (sortQ (qas es)).take 6, ∃ q ∈ es, x = (q.1, q.2.1) := fun x hx => by
        obtain ⟨q, hq, h⟩ := List.mem_map.mp (hperm.mem_iff.mp ((List.take_sublist _ _).subset hx))
        exact ⟨q, hq, h.symm⟩
      have hlen : (sortQ (qas es)).length = es.length := by rw [hperm.length_eq, List.length_map]
      refine ⟨L, (sortQ (qas es)).take 6, rfl, ⟨s45 _ _ hd3, hkv3.sameL (Fp.sL s45), hL, ?_, ?_, ?_, ?_, ?_, ?_, hD3.same s45, (hD3.same s4).ne hLn⟩, sB3.trans (sB s45)⟩
      · rw [upd_same, show cutV (qaV (sortQ (qas es))) none (some 6) = (qaV (sortQ (qas es))).take 6 from cutV_head _ 6]
        unfold qaV
        rw [List.map_take]
      · intro x hx
        obtain ⟨q, hq, rfl⟩ := hmem x hx
        exact Dp.same s45 (hk3 q hq)
      · have h1 : ((sortQ (qas es)).map Prod.fst).Nodup := (hperm.map Prod.fst).nodup_iff.mpr (by
          rw [show (qas es).map Prod.fst = qks es from by unfold qas qks; rw [List.map_map]; rfl]
          exact hn3)
        rw [List.map_take]
        exact (List.take_sublist _ _).nodup h1
      · rw [List.length_take, hlen]; omega
      · rw [List.length_take]; omega
      · intro x hx
        obtain ⟨q, hq, rfl⟩ := hmem x hx
        exact hes q hq
    clear hes hl3' hl3 hn3 hk3 he3 hve hv3 hD3 hkv3 hd3 sB3 s3 dg hg sB2 hD2 sB1 hD1 hdn hd1 hkv1 kvs' es e
    rintro σ4 H4 ⟨L, p6, rfl, a4, sB4⟩
    -- the ranks
    refine ⟨fun σ5 H5 => ∃ (RD : Addr) (es : List Qe) (rs : List Rk), σ5 = [some (.ref D), some (.ref d), some (.ref v), some (.ref L), some (.ref RD), none, none, none, none, none] ∧ RtA K D d L kvs ps p6 H5 ∧ RtB P w K RD es rs H5 ∧ SameB D H H5, ?_, ?_⟩
    · have hql : (qaV p6).length = p6.length := List.length_map ..
      have h61 := a4.l1
      have h66 := a4.l6
      refine ⟨_, rfl, _, rfl, D, L, 3, qaV p6, rfl, a4.dice, SqL.of a4.hq, by omega, by decide, fun q ys zs H5 hpm hyl sB5 hD5 hqn hq5 => ?_⟩
      obtain ⟨l', hl', hl2⟩ := perm_lift hpm p6 rfl
      have a5 := a4.sameB sB5 hD5
      have hys : ys = qaV (l'.take ys.length) := by
        have := congrArg (fun l => l.take ys.length) hl2
        unfold qaV
        rw [List.map_take]
        simpa using this
      have hlen' : (l'.take ys.length).length = ys.length := by
        have := congrArg List.length hys
        unfold qaV at this
        rw [List.length_map] at this
        exact this.symm
      have hsub : ∀ x ∈ l'.take ys.length, x ∈ p6 := fun x hx => hl'.mem_iff.mp ((List.take_sublist _ _).subset hx)
      have hnd3 : ((l'.take ys.length).map Prod.fst).Nodup := by
        rw [List.map_take]
        exact (List.take_sublist _ _).nodup ((hl'.map Prod.fst).nodup_iff.mpr a4.nd)
      generalize l'.take ys.length = p3 at *
      subst hys
      clear hl2 hl' hpm l' zs
      have hp3 : (qaV p3).length = p3.length := List.length_map ..
      refine ⟨q, rfl, ⟨_, SqL.of hq5⟩, fun PD hPD => ?_⟩
      have nqD : q ≠ D := a4.dice.ne hqn
      have nPD : PD ≠ D := hD5.ne hPD
      have nqP : q ≠ PD := ne_of_none hq5 hPD
      have s6 := same_new (o := .lst []) hPD
      refine lc_it walk_list (fun i H6 => ∃ (ts : List Addr) (es : List Qe), H6 PD = some (.lst (ts.map V.ref)) ∧ ts.length = i ∧ Paired (fun t (e : Qe) => SqT K H6 t [.ref e.2.1, e.2.2]) ts es ∧ es.map (fun e => (e.1, e.2.1)) = p3.take i ∧ (∀ e ∈ es, ∃ n : Nat, e.2.2 = .int (n : Int) ∧ (1 ≤ n ∧ n < 10 ^ 60)) ∧ SameB D H5 H6 ∧ DiO H6 D)
        ⟨[], [], upd_same, rfl, .nil, rfl, (fun e he => by cases he), sB s6, hD5.same s6⟩ (fun i H6 _ ⟨_, _, _, _, _, _, _, s, _⟩ => SqL.of (s _ _ nqD hq5)) (fun i z H6 H6' hi ⟨ts, es, h1, h2, h3, h4, h5, sB6, hD6⟩ y => ?_) (fun H6 ⟨ts, es, h1, h2, h3, h4, h5, sB6, hD6⟩ => ?_)
      · obtain ⟨rfl, hz⟩ := y
        unfold qaV at hz
        rw [List.getElem?_map] at hz
        obtain ⟨x, hx, rfl⟩ := Option.map_eq_some_iff.mp hz
        refine ⟨rfl, _, rfl, _, rfl, D, 12, rfl, hD6, by decide, by decide, fun r H7 hr7 s7 hD7 => ⟨_, _, rfl, rfl, szl (by show 2 ≤ 16777216; decide), fun t ht => ?_⟩⟩
        have s8 := same_new (o := .tup [V.ref x.2, V.int (1 + (r : Int))]) ht
        have e8 : (upd H7 t (.tup [V.ref x.2, V.int (1 + (r : Int))])) t = some (.tup [V.ref x.2, V.int (1 + (r : Int))]) := upd_same
        have hP8 := s8 _ _ (s7 _ _ nPD h1)
        have sl8 := SameL.trans (dice_sL s7 hD6) (Fp.sL s8)
        have hD8 := hD7.same s8
        have sB8 := (sB6.trans s7).trans (sB s8)
        refine ⟨ts.map V.ref, hP8, szlt (by rw [List.length_map]; omega), ts ++ [t], es ++ [(x.1, x.2, V.int (1 + (r : Int)))], by rw [upd_same, List.map_append]; rfl, by rw [List.length_append, h2]; rfl, ?_, ?_, ?_, ?_, ?_⟩
        · generalize (upd H7 t (.tup [V.ref x.2, V.int (1 + (r : Int))])) = H8 at *
          have sl9 : SameL H8 (upd H8 PD (.lst (ts.map V.ref ++ [V.ref t]))) := sameL_upd hP8 rfl
          exact paired_snocP (Paired.mapP h3 fun _ _ h => SqT.sameL sl9 (SqT.sameL sl8 h)) (SqT.of (by rw [upd_ne (fun z => by rw [z, hP8] at e8; cases e8)]; exact e8))
        · rw [List.map_append, h4, take_snoc hx]
          rfl
        · intro e he
          rcases List.mem_append.mp he with he | he
          · exact h5 e he
          · rw [List.mem_singleton.mp he]
            refine ⟨r + 1, congrArg V.int (by omega), by omega, Nat.lt_of_lt_of_le (by omega : r + 1 < 13) (by decide)⟩
        · exact SameB.put sB8 hPD
        · exact dio_off hD8 nPD
      · rw [hp3, List.take_length] at h4
        obtain ⟨rs, hE, hrs⟩ := rke_of h5
        have hk4 : qks es = p3.map Prod.fst := by
          rw [← h4, List.map_map]
          rfl
        have hrl := hE.length
        have hel : es.length = p3.length := by rw [← h4, List.length_map]
        refine ⟨PD, ts, es, rfl, SqL.of h1, h3, fun e he => ?_, by rw [hk4]; exact hnd3, fun RD hRD => ?_⟩
        · have : (e.1, e.2.1) ∈ p3 := by rw [← h4]; exact List.mem_map.mpr ⟨e, he, rfl⟩
          exact (a5.sameB sB6 hD6).hQ _ (hsub _ this)
        have s9 := same_new (o := QdO P w RD es) hRD
        have hQ9 : QKs K (upd H6 RD (QdO P w RD es)) es := fun e he => by
          have : (e.1, e.2.1) ∈ p3 := by rw [← h4]; exact List.mem_map.mpr ⟨e, he, rfl⟩
          exact ((a5.sameB sB6 hD6).same s9).hQ _ (hsub _ this)
        refine ⟨RD, es, rs, rfl, (a5.sameB sB6 hD6).same s9, ⟨upd_same, hQ9, hE, by rw [← hE.keys, hk4]; exact hnd3, fun z => ?_, by omega, fun r hr1 => ?_⟩, ((sB4.trans sB5).trans sB6).trans (sB s9)⟩
        · rw [z] at hrl
          rw [List.length_nil] at hrl
          omega
        · have h6 : r.1 ∈ p3.map Prod.fst := by
            rw [← hk4, hE.keys]
            exact List.mem_map.mpr ⟨r, hr1, rfl⟩
          obtain ⟨x, hx, hxe⟩ := List.mem_map.mp h6
          obtain ⟨o1, o2⟩ := a4.ok x (hsub _ hx)
          rw [hxe] at o1 o2
          exact ⟨⟨o1, (hrs r hr1).1, (hrs r hr1).2⟩, o2⟩
    clear a4 sB4
    rintro σ5 H5 ⟨RD, es, rs, rfl, a5, b5, sB5⟩
    -- one of the questions
    refine ⟨fun σ6 H6 => ∃ (qa : Addr) (q0 : Qn), σ6 = [some (.ref D), some (.ref d), some (.ref v), some (.ref L), some (.ref RD), some (.ref qa), none, none, none, none] ∧ Dp K H6 (.ref qa) (qD q0) ∧ isQ q0 = true ∧ (qTxt q0).length ≤ 2000 ∧ RtA K D d L kvs ps p6 H6 ∧ RtB P w K RD es rs H6 ∧ SameB D H H6, ?_, ?_⟩
    · have hql : (qaV p6).length = p6.length := List.length_map ..
      have h61 := a5.l1
      have h66 := a5.l6
      refine ⟨_, rfl, _, rfl, D, L, qaV p6, rfl, a5.dice, SqL.of a5.hq, a5.ne, by omega, by omega, fun u H6 hu sB6 hD6 => ?_⟩
      obtain ⟨x, hx, rfl⟩ := List.mem_map.mp hu
      have a6 := a5.sameB sB6 hD6
      exact ⟨x.2, x.1, rfl, a6.hQ x hx, (a6.ok x hx).1, (a6.ok x hx).2, a6, b5.sameB sB6 a5.dice, sB5.trans sB6⟩
    clear a5 b5 sB5
    rintro σ6 H6 ⟨qa, q0, rfl, d6, i6, l6, a6, b6, sB6⟩
    -- the rows
    refine ⟨fun σ7 H7 => ∃ (B : Addr), σ7 = [some (.ref D), some (.ref d), some (.ref v), some (.ref L), some (.ref RD), some (.ref qa), some (.ref B), none, none, none] ∧ H7 B = some (.lst (((sortR rs).map rkLine).map V.str)) ∧ Same H6 H7, ?_, ?_⟩
    · refine ⟨_, rfl, RD, es, rfl, .inl b6.hr, b6.hk, fun l hl => ⟨l, rfl, ⟨_, SqL.of upd_same⟩, fun B hB => ?_⟩⟩
      rw [sortQ_qas] at hB ⊢
      have s7 := same_new (o := .lst (qaV (qas (sortE es)))) hl
      have e7 : (upd H6 l (.lst (qaV (qas (sortE es))))) l = some (.lst (qaV (qas (sortE es)))) := upd_same
      generalize (upd H6 l (.lst (qaV (qas (sortE es))))) = H7 at *
      have b7 := b6.same s7
      have hEs := b7.hE.sort
      have hperm : (sortE es).Perm es := List.mergeSort_perm _ _
      have hql : (qaV (qas (sortE es))).length = rs.length := by
        unfold qaV qas
        rw [List.length_map, List.length_map, hperm.length_eq, b7.hE.length]
      have hrl := b7.le
      refine lc_each (g := gName 9) (te := tOp rAddT (tOp rAddT (tCB rStrI (tCons (tOp (rIxQ K P w) (tVar 4) (tVar 9)) tNil)) (tC (.str (Str.ofString " ")))) (tCall (sp_question_text K) [] E0 (tCons (tVar 9) tNil))) walk_list hB (by omega) (fun H8 s8 => SqL.of (s8 _ _ e7)) (fun i y _ => ∃ r, (sortR rs)[i]? = some r ∧ y = .str (rkLine r)) (fun i y H H' l hl sb h => h) (fun i z H8 H8' hi s8 hl8 y Qy hy => ?_) (fun H8 acc s8 hacc hal hout => ?_)
      · obtain ⟨rfl, hz⟩ := y
        unfold qaV qas at hz
        rw [List.map_map, List.getElem?_map] at hz
        obtain ⟨e, he, rfl⟩ := Option.map_eq_some_iff.mp hz
        obtain ⟨r, hr1, hr2, hr3⟩ := hEs.get he
        have hem : e ∈ es := hperm.mem_iff.mp (List.mem_of_getElem? he)
        have hrm : r ∈ rs := (sortR_perm rs).mem_iff.mp (List.mem_of_getElem? hr1)
        obtain ⟨o1, o2⟩ := b7.ok r hrm
        have hrl := rk_len o1
        have l1 : (Str.ofString " ").length = 1 := by decide +kernel
        have de := (b7.hk.same s8) e hem
        refine ⟨rfl, _, rfl, _, rfl, e.2.1, RD, e.1, es, e.2.1, .int (r.2 : Int), rfl, rfl, de, .inl (s8 _ _ b7.hr), b7.hk.same s8, by rw [← hr3]; exact hem, (r.2 : Int), rfl, log_rank o1.2.2, _, _, rfl, rfl, szl (by rw [l1]; omega), _, rfl, .ref e.2.1, e.1, rfl, de, by rw [hr2]; exact o1.1, fun H9 s9 => ⟨_, _, rfl, rfl, szl (by rw [len_app, l1, hr2]; omega), hy _ _ s9 ⟨r, hr1, ?_⟩⟩⟩
        rw [hr2, rk_line r.1 r]
      · have hacc' : acc = ((sortR rs).map rkLine).map V.str := by
          rw [List.map_map]
          refine eq_map_of (xs := sortR rs) (f := V.str ∘ rkLine) ?_ fun i y e => hout i y e
          rw [hal, hql, (sortR_perm rs).length_eq]
        exact ⟨B, rfl, by rw [hacc, hacc'], Same.trans s7 s8⟩
    rintro σ7 H7 ⟨B, rfl, hB7, s7⟩
    have a7 := a6.same s7
    have b7 := b6.same s7
    have d7 := Dp.same s7 d6
    have sB7 := sB6.trans (sB s7)
    clear a6 b6 d6 sB6 s7
    -- what is due
    have hlen1 := ranks_len b7.ok b7.le
    have hrne : (sortR rs).map rkLine ≠ [] := fun z => b7.ne (List.length_eq_zero_iff.mp (by
      have := congrArg List.length z
      rw [List.length_map, (sortR_perm rs).length_eq] at this
      exact this))
    refine ⟨fun σ8 H8 => ∃ (Du : Addr) (ps' : List (Str × Kd)), σ8 = [some (.ref D), some (.ref d), some (.ref v), some (.ref L), some (.ref RD), some (.ref qa), some (.ref B), some (.ref Du), none, none] ∧ H8 Du = some (.lst [.str (qTxt q0), .str (Txt.join (Str.ofString "\n") ((sortR rs).map rkLine)), .str (Txt.join (Str.ofString "\n") (ps'.map lineOf))]) ∧ ps'.Perm ps ∧ sortedS (ps'.map Prod.fst) = true ∧ Du ≠ D ∧ Same H7 H8, ?_, ?_⟩
    · have l1 : (Str.ofString "\n").length = 1 := by decide +kernel
      have hs1 := join_sum hrne
      refine ⟨_, rfl, .ref qa, q0, rfl, d7, i6, fun H8 s8 => ?_⟩
      refine ⟨⟨_, rfl⟩, _, rfl, _, B, (sortR rs).map rkLine, rfl, rfl, .inl (SqL.of (s8 _ _ hB7)), by rw [l1]; omega, ?_⟩
      have a8 := a7.same s8
      refine ⟨⟨_, rfl⟩, _, rfl, d, kvs, ps, rfl, a8.hd, a8.hkv, a8.hL, fun q ps' H9 s9 hqn hperm hsort hq9 => ?_⟩
      have hL' := a8.hL.perm hperm
      have hlen2 := lib_len hL'
      have hs2 := join_sum (ls := ps'.map lineOf) (fun z => by
        have := congrArg List.length z
        rw [List.length_map, List.length_nil] at this
        have := hL'.ne
        omega)
      refine ⟨_, q, ps'.map lineOf, rfl, rfl, .inl (SqL.of hq9), by rw [l1]; omega, szl (by show 3 ≤ 16777216; decide), fun Du hDu => ?_⟩
      exact ⟨Du, ps', rfl, upd_same, hperm, hsort, ((a7.dice.same s8).same s9).ne hDu, Same.trans s8 (Same.trans s9 (same_new hDu))⟩
    rintro σ8 H8 ⟨Du, ps', rfl, hDu, hperm, hsort, nDu, s8⟩
    have a8 := a7.same s8
    have b8 := b7.same s8
    have d8 := Dp.same s8 d7
    have sB8 := sB7.trans (sB s8)
    clear a7 b7 d7 sB7 s8 hB7
    have hL' := hL.perm hperm
    have hlen2 := lib_len hL'
    have hlsne : ps'.map lineOf ≠ [] := fun z => by
      have := congrArg List.length z
      rw [List.length_map, List.length_nil] at this
      have := hL'.ne
      omega
    have hs2 := join_sum hlsne
    have hread1 := ranks_read b8.nd (fun r hr => (b8.ok r hr).1) b8.ne
    have hread2 := parts_read hL' hsort
    have hsame : ∀ ps'' : List (Str × Kd), ps''.Perm ps → sortedS (ps''.map Prod.fst) = true → ps'' = ps' := fun ps'' h1 h2 => sorted_same (h1.trans hperm.symm) h2 (asc_of_sorted hsort hL'.nd)
    have hws : joinT ((sortR rs).map rkLine) = Txt.join (Str.ofString "\n") ((sortR rs).map rkLine) := joinT_ne hrne
    have hwl : libTxt (ps'.map lineOf) = Txt.join (Str.ofString "\n") (ps'.map lineOf) := by
      unfold libTxt
      rw [if_neg hlsne]
    generalize Txt.join (Str.ofString "\n") ((sortR rs).map rkLine) = J1 at *
    generalize Txt.join (Str.ofString "\n") (ps'.map lineOf) = J2 at *
    -- written as due
    refine ⟨fun σ9 H9 => σ9 = [some (.ref D), some (.ref d), some (.ref v), some (.ref L), some (.ref RD), some (.ref qa), some (.ref B), some (.ref Du), none, none] ∧ Same H8 H9, ?_, ?_⟩
    · refine ⟨_, rfl, .ref qa, q0, rfl, d8, i6, fun H9 s9 => ?_⟩
      have b9 := b8.same s9
      refine ⟨_, rfl, RD, es, rs, rfl, b9.hr, b9.hk, b9.hE, fun r hr1 => (b9.ok r hr1).1, ?_, fun H10 s10 => ?_⟩
      · have h1 := hlen1.1
        rw [List.map_map] at h1
        exact Nat.le_trans h1 (by decide)
      have a10 := (a8.same s9).same s10
      refine ⟨_, rfl, d, kvs, ps, rfl, a10.hd, a10.hkv, hL, fun lv ps'' H11 s11 hp11 hs11 hl11 => ?_⟩
      rw [hsame ps'' hp11 hs11] at hl11
      refine ⟨lv, _, rfl, hl11, by omega, fun H12 s12 => ⟨szl (by show 3 ≤ 16777216; decide), fun A hA => ?_⟩⟩
      have s13 := same_new (o := .lst [V.str (qTxt q0), V.str (joinT ((sortR rs).map rkLine)), V.str (libTxt (ps'.map lineOf))]) hA
      have s813 := Same.trans s9 (Same.trans s10 (Same.trans s11 (Same.trans s12 s13)))
      refine ⟨_, rfl, ⟨A, Du, _, _, rfl, rfl, upd_same, s813 _ _ hDu, ?_⟩, fun H14 s14 => ⟨_, rfl, iteF ⟨rfl, Same.trans s813 s14⟩⟩⟩
      rw [hws, hwl]
      exact Prs.cons (flat_str _ _) (Prs.cons (flat_str _ _) (Prs.cons (flat_str _ _) Prs.nil))
    rintro σ9 H9 ⟨rfl, s9⟩
    replace a8 := a8.same s9
    replace b8 := b8.same s9
    replace d8 := Dp.same s9 d8
    replace sB8 := sB8.trans (sB s9)
    replace hDu := s9 _ _ hDu
    clear s9
    -- read back
    refine ⟨fun σ10 H10 => σ10 = [some (.ref D), some (.ref d), some (.ref v), some (.ref L), some (.ref RD), some (.ref qa), some (.ref B), some (.ref Du), none, none] ∧ Same H9 H10, ?_, ?_⟩
    · refine ⟨_, rfl, Du, _, 0, _, rfl, rfl, SqL.of hDu, rfl, qTxt q0, rfl, by omega, (fun hn => by rw [qTold_txt i6] at hn; cases hn), fun q hq u1 H10 s10 du1 => ?_⟩
      rw [qTold_txt i6] at hq
      cases hq
      refine ⟨_, rfl, Du, _, 1, _, rfl, rfl, SqL.of (s10 _ _ hDu), rfl, J1, rfl, by omega, (fun j hj => by rw [hread1] at hj; cases hj), fun r hr1 rd es' H11 s11 hrd hk11 hE11 => ?_⟩
      rw [hread1] at hr1
      cases hr1
      refine ⟨_, rfl, Du, _, 2, _, rfl, rfl, SqL.of (s11 _ _ (s10 _ _ hDu)), rfl, J2, rfl, by omega, (fun j hj => by rw [hread2] at hj; cases hj), fun r hr2 => ?_⟩
      rw [hread2] at hr2
      cases hr2
      refine ⟨fun h8 lv H12 s12 hl12 => ?_, fun h8 => absurd h8 (by have := hL'.le; omega)⟩
      refine ⟨szl (by show 3 ≤ 16777216; decide), fun A1 hA1 => ?_⟩
      have s13 := same_new (o := .lst [u1, V.ref rd, lv]) hA1
      have e13 : (upd H12 A1 (.lst [u1, V.ref rd, lv])) A1 = some (.lst [u1, V.ref rd, lv]) := upd_same
      have s1113 := Same.trans s11 (Same.trans s12 s13)
      have s1213 := Same.trans s12 s13
      have hl13 := hl12.same s13
      generalize (upd H12 A1 (.lst [u1, V.ref rd, lv])) = H13 at *
      have a13 := (a8.same s10).same s1113
      refine ⟨_, rfl, _, rfl, _, rfl, d, kvs, ps, rfl, a13.hd, a13.hkv, hL, fun lv2 ps'' H14 s14 hp14 hs14 hl14 => ⟨szl (by show 3 ≤ 16777216; decide), fun A2 hA2 => ?_⟩⟩
      rw [hsame ps'' hp14 hs14] at hl14
      have s15 := same_new (o := .lst [V.ref qa, V.ref RD, lv2]) hA2
      have e15 : (upd H14 A2 (.lst [V.ref qa, V.ref RD, lv2])) A2 = some (.lst [V.ref qa, V.ref RD, lv2]) := upd_same
      have s1415 := Same.trans s14 s15
      have hl15 := hl14.same s15
      generalize (upd H14 A2 (.lst [V.ref qa, V.ref RD, lv2])) = H15 at *
      have s1115 := Same.trans s1113 s1415
      have s915 := Same.trans s10 s1115
      have b15 := b8.same s915
      refine ⟨⟨A1, A2, _, _, rfl, rfl, s1415 _ _ e13, e15, Prs.cons (.inl (dqn_of (Dp.same s1115 du1) (Dp.same s915 d8))) (Prs.cons (.inr (.inl ⟨rd, RD, es', es, rfl, rfl, (Same.trans s1213 s1415) _ _ hrd, b15.hr, hk11.same (Same.trans s1213 s1415), b15.hk, ?_, ?_⟩)) (Prs.cons (.inr (.inr (dlib_of (hl13.same s1415) hl15))) Prs.nil))⟩, fun H16 s16 => ⟨_, rfl, iteF ⟨rfl, Same.trans s915 s16⟩⟩⟩
      · rw [hE11.length, b15.hE.length, (sortR_perm rs).length_eq]
      · intro e he
        have h1 : (e.1, e.2.2) ∈ es'.map (fun e => (e.1, e.2.2)) := List.mem_map.mpr ⟨e, he, rfl⟩
        rw [hE11] at h1
        obtain ⟨r, hr1, hr2⟩ := List.mem_map.mp h1
        have h2 : (r.1, V.int (r.2 : Int)) ∈ rs.map (fun r => (r.1, V.int (r.2 : Int))) := List.mem_map.mpr ⟨r, (sortR_perm rs).mem_iff.mp hr1, rfl⟩
        rw [← b15.hE] at h2
        obtain ⟨e2, he2, hee⟩ := List.mem_map.mp h2
        have q1 : r.1 = e.1 := congrArg Prod.fst hr2
        have q2 : V.int (r.2 : Int) = e.2.2 := congrArg Prod.snd hr2
        have q3 : e2.1 = r.1 := congrArg Prod.fst hee
        have q4 : e2.2.2 = V.int (r.2 : Int) := congrArg Prod.snd hee
        refine ⟨e2.2.1, (r.2 : Int), q2.symm, ?_⟩
        rw [← q1, ← q3, ← q4]
        exact he2
    rintro σ10 H10 ⟨rfl, s10⟩
    replace a8 := a8.same s10
    replace b8 := b8.same s10
    replace sB8 := sB8.trans (sB s10)
    replace hDu := s10 _ _ hDu
    clear s10 d8
    -- the order of the ranks
    refine ⟨fun σ11 H11 => σ11 = [some (.ref D), some (.ref d), some (.ref v), some (.ref L), some (.ref RD), some (.ref qa), some (.ref B), some (.ref Du), none, none] ∧ Same H10 H11, ?_, ?_⟩
    · refine ⟨_, rfl, Du, _, 1, _, rfl, rfl, SqL.of hDu, rfl, J1, rfl, by omega, (fun j hj => by rw [hread1] at hj; cases hj), fun r hr1 rd es' H11 s11 hrd hk11 hE11 => ?_⟩
      rw [hread1] at hr1
      cases hr1
      refine ⟨rd, es', rfl, .inl hrd, fun A1 hA1 => ?_⟩
      have s12 := same_new (o := .lst (es'.map fun e => V.ref e.2.1)) hA1
      have e12 : (upd H11 A1 (.lst (es'.map fun e => V.ref e.2.1))) A1 = some (.lst (es'.map fun e => V.ref e.2.1)) := upd_same
      generalize (upd H11 A1 (.lst (es'.map fun e => V.ref e.2.1))) = H12 at *
      have b12 := (b8.same s11).same s12
      refine ⟨_, rfl, RD, es, rfl, .inl b12.hr, b12.hk, fun A2 hA2 => ?_⟩
      have s13 := same_new (o := .lst (qaV (sortQ (qas es)))) hA2
      refine ⟨⟨A1, A2, _, _, rfl, rfl, s13 _ _ e12, upd_same, ?_⟩, fun H14 s14 => ⟨_, rfl, iteF ⟨rfl, Same.trans s11 (Same.trans s12 (Same.trans s13 s14))⟩⟩⟩
      have h1 : (es'.map fun e => V.ref e.2.1) = qaV (qas es') := by
        unfold qaV qas
        rw [List.map_map]
        rfl
      rw [sortQ_qas] at s13
      rw [h1, sortQ_qas]
      refine prs_qas ?_ (fun x hx => ?_) (fun x hx => ?_)
      · have e1 : (qas es').map Prod.fst = qks es' := by unfold qas qks; rw [List.map_map]; rfl
        have e2 : (qas (sortE es)).map Prod.fst = qks (sortE es) := by unfold qas qks; rw [List.map_map]; rfl
        rw [e1, e2, hE11.keys, b12.hE.sort.keys]
      · obtain ⟨e, he, rfl⟩ := List.mem_map.mp hx
        exact Dp.same (Same.trans s12 s13) (hk11 e he)
      · obtain ⟨e, he, rfl⟩ := List.mem_map.mp hx
        exact Dp.same s13 (b12.hk e ((List.mergeSort_perm es _).mem_iff.mp he))
    rintro σ11 H11 ⟨rfl, s11⟩
    replace a8 := a8.same s11
    replace sB8 := sB8.trans (sB s11)
    replace hDu := s11 _ _ hDu
    clear s11
    -- strings near
    have hT11 := tabs_B hT sB8 hD
    refine ⟨8, rfl, by decide, by decide, ?_⟩
    refine for_it (walk_range (lo := 0) (n := 8)) (fun i σ12 H12 => ∃ s8 : Option V, σ12 = [some (.ref D), some (.ref d), some (.ref v), some (.ref L), some (.ref RD), some (.ref qa), some (.ref B), some (.ref Du), s8, none] ∧ H12 Du = some (.lst [.str (qTxt q0), .str J1, .str J2]) ∧ DiO H12 D ∧ ExtB D H H12 ∧ LamX.Tabs T H12)
      ⟨_, rfl, hDu, a8.dice, extB_B sB8, hT11⟩ (fun _ _ _ _ _ => True.intro) (fun i z σ12 Hx H12 hi ⟨s8, hσ, hDu12, hD12, eB12, hT12⟩ y => ?_) (fun σ12 H12 ⟨s8, hσ, hDu12, hD12, eB12, hT12⟩ => ?_)
    · subst hσ
      obtain ⟨rfl, rfl⟩ := y
      refine ⟨_, rfl, _, rfl, Du, _, 0, _, rfl, rfl, SqL.of hDu12, rfl, D, qTxt q0, rfl, hD12, by omega, fun y1 H13 hy1 sB13 hD13 => ?_⟩
      have hDu13 := sB13 _ _ nDu hDu12
      refine ⟨_, rfl, _, rfl, Du, _, 1, _, rfl, rfl, SqL.of hDu13, rfl, D, J1, rfl, hD13, by omega, fun y2 H14 hy2 sB14 hD14 => ?_⟩
      have hDu14 := sB14 _ _ nDu hDu13
      refine ⟨_, rfl, _, rfl, Du, _, 2, _, rfl, rfl, SqL.of hDu14, rfl, D, J2, rfl, hD14, by omega, fun y3 H15 hy3 sB15 hD15 => ?_⟩
      have hDu15 := sB15 _ _ nDu hDu14
      have hT15 := tabs_B (tabs_B (tabs_B hT12 sB13 hD12) sB14 hD13) sB15 hD14
      refine ⟨y1, y2, y3, rfl, by omega, by omega, by omega, hT15, fun H16 e16 t16 => ⟨_, rfl, iteF ?_⟩⟩
      refine ⟨_, rfl, e16 _ _ hDu15 (fun ps q => by cases q), ?_, ((eB12.trans (extB_B ((sB13.trans sB14).trans sB15))).trans (extB_N e16)), t16⟩
      obtain ⟨a, b, c, h⟩ := hD15
      exact ⟨a, b, c, e16 _ _ h (fun ps q => by cases q)⟩
    · subst hσ
      exact k _ eB12 hT12
end
end Fp
/-! W43: law -/
namespace Fp
open PySem PySem.Spec PyProof.Rows L2 TL
def lawTexts : List Str := ["", "n |- n |- n", "n; n |- n", "n -> n; n |- n", " |- n", "|- ", "n |-n"]
theorem lawTexts_bad : ∀ x ∈ lawTexts, qTold x = none ∧ x.length ≤ 100 := by
  have h : lawTexts.all (fun x => (qTold x).isNone && decide (x.length ≤ 100)) = true := by decide +kernel
  intro x hx
  have h1 := List.all_eq_true.mp h x hx
  rw [Bool.and_eq_true] at h1
  exact ⟨Option.isNone_iff_eq_none.mp h1.1, of_decide_eq_true h1.2⟩
def lawWrong : Str := Str.ofString "g : a\nf : a"
theorem lawWrong_told : runParts lawWrong = .inl 1 := by
  have h : (match runParts lawWrong with | .inl j => decide (j = 1) | .inr _ => false) = true := by decide +kernel
  cases e : runParts lawWrong with
  | inl j => rw [e] at h; rw [of_decide_eq_true h]
  | inr r => rw [e] at h; cases h
theorem law_ask : qTold (Str.ofString "|- n") = some ([], Str.ofString "n") := by
  have h : (match qTold (Str.ofString "|- n") with | some q => decide (q = ([], Str.ofString "n")) | none => false) = true := by decide +kernel
  cases e : qTold (Str.ofString "|- n") with
  | some q => rw [e] at h; rw [of_decide_eq_true h]
  | none => rw [e] at h; cases h
theorem read_none : runRanks (Str.ofString "none") = .inr [] ∧ runParts (Str.ofString "none") = .inr [] := by
  unfold runRanks runParts
  rw [linesOf_none]
  exact ⟨rfl, rfl⟩
theorem MkC.q {P : Program} {w : World} {K : PySem.W.Frag} {mg : Str → Option Value} {base : Heap} {k : Nat} {x : Str} {C : Addr} {sp : Sp} {dvs : List V} (c : MkC P w K mg base (L2.CX P w) k x C sp dvs) : MkC P w K mg base CX0 k x C (spQ sp) dvs := by
  obtain ⟨f, fd, ps, ds, M, F, h⟩ := c.ex
  exact ⟨f, fd, ps, ds, M, FnOk.quiet F (fun _ _ _ _ h => h), h⟩
/-- Library() -/
theorem ev_lib {K : PySem.W.Frag} {CT CL CI : Addr} {σ : L2.St} {H : Hp} {Q : VK} (q : ∀ v H', Same H H' → LibO K CL H' v [] → Q v H') : tMake CL (spQ (sp_Library_init K CT CL CI)) [.non] E0 tNil σ H Q := by
  intro o dx ho hdx hne
  refine ⟨H, o, dx, .non, [], rfl, same_upd (same_new hdx) (by rw [upd_ne hne.symm]; exact ho), ho, upd_same, .inl ⟨rfl, rfl⟩, ⟨(fun p hp => by cases hp), List.nodup_nil, Nat.zero_le _, fun p hp => by cases hp⟩, fun _ H2 ps' s2 hp _ hL => ⟨rfl, ?_⟩, fun h8 => by cases h8⟩
  rw [hp.eq_nil] at hL
  exact q _ _ s2 hL
theorem call_i {sp : Sp} {dvs : List V} {E : XK} {t : TA} {σ : L2.St} {H : Hp} {Q : VK} (h : t σ H fun vs H1 => sp (vs ++ dvs) H1 Q E) : tCall sp dvs E t σ H Q := h
theorem tabs_L {T : List (Addr × Str)} {D : Addr} {H : Hp} {xs : List V} {o : HO} (t : LamX.Tabs T H) (h : H D = some (.lst xs)) : LamX.Tabs T (upd H D o) := fun p hp => by
  obtain ⟨ps, h1, h2, h3⟩ := t p hp
  have ne : ∀ {b : Addr} {u : HO}, H b = some u → u ≠ .lst xs → b ≠ D := fun {b u} e n q => by
    rw [q, h] at e
    exact n (Option.some.inj e).symm
  refine ⟨ps, by rw [upd_ne (ne h1 fun q => by cases q)]; exact h1, h2, fun pos cv hc => ?_⟩
  obtain ⟨c, e1, e2⟩ := h3 pos cv hc
  exact ⟨c, e1, by rw [upd_ne (ne e2 fun q => by unfold LamX.CodeO at q; cases q)]; exact e2⟩
theorem extN_sL {H H' : Hp} (e : LamX.ExtN H H') : SameL H H' := fun b o n h => e b o h fun ps q => by rw [q] at n; cases n
theorem sqL_extN {K : PySem.W.Frag} {H H' : Hp} {a : Addr} {xs : List V} (e : LamX.ExtN H H') (h : SqL K H a xs) : SqL K H' a xs :=
  h.elim (fun h => .inl (h.elim (fun h => .inl (e _ _ h fun ps q => by cases q)) fun ⟨o, h⟩ => .inr ⟨o, e _ _ h fun ps q => by cases q⟩)) fun h => .inr h
theorem extB_none {D : Addr} {H H' : Hp} (h : H D = none) (e : ExtB D H H') : LamX.ExtN H H' := fun b o hb t => e b o (fun z => by rw [z, h] at hb; cases hb) hb t
section
variable {P : Program} {w : World} {K : PySem.W.Frag} {mg : Str → Option Value} {base : Heap}
abbrev s_law : Stmt := top 97
abbrev N_law : List Str := ["_law_script", "_law_spot", "_law_told", "_law_found", "_law_lines_here", "_law_at", "_law_texts"]
theorem sc_law : FnScope N_law ["_law_script"] (defScope s_law) := ⟨rfl, rfl, rfl, by decide +kernel, rfl, by decide +kernel, by decide +kernel⟩
def sp_law (K : PySem.W.Frag) (T : List (Addr × Str)) : Sp := fun vs H Q _ => ∃ (a : Addr) (ns : List Int), vs = [.ref a] ∧ SqL K H a (ns.map V.int) ∧ ns.length ≤ 63 ∧ LamX.Tabs T H ∧ ∀ H', Q (.bl true) H'
theorem ok_law {CP CI CL CT fe c Pt : Addr} {fde : FuncData} {T : List (Addr × Str)} {f : Addr} {fd : FuncData} (F : FunL K "law" "law" s_law f fd c) (N : Nm mg) (L : Lbf K mg CL) (G : GotF K mg CP CI) (D : GotD K mg) (TB : TbL base mg T c Pt (qL "law"))
    (FE : FnOk P w K mg base CX0 2 fe fde ["self", "other"] (spEq (RLib K CL))) (hse : PySem.W.findIn K (.ref CL) "__eq__" = some (some (.ref fe))) (hfe : PySem.W.isFn K (.ref fe) = true) (hbe : Binds K fde ["self", "other"] [])
    (c_make0 : MkC P w K mg base (L2.CX P w) 3 "Library" CL (sp_Library_init K CT CL CI) [.non])
    (c_read_question : Cal P w K mg base (L2.CX P w) 14 "read_question" (sp_read_question K CP)) (c_read_library : Cal P w K mg base (L2.CX P w) 15 "read_library" (sp_read_library K CL CI CP)) (c_read_ranks : Cal P w K mg base (L2.CX P w) 16 "read_ranks" (sp_read_ranks P w K CP))
    (c_write_ranks : Cal P w K mg base CX0 14 "write_ranks" (sp_write_ranks P w K)) (c_write_library : Cal P w K mg base CX0 2 "write_library" (sp_write_library K CL))
    (c__law_dice : Cal P w K mg base CX0 1 "_law_dice" (sp_law_dice K)) (c__law_right : Cal P w K mg base CX0 21 "_law_right" (sp_law_right T)) : FnOk P w K mg base CX0 22 f fd ["_law_script"] (sp_law K T) := by
  refine F.ok sc_law (fun vs H Q E h => ?_) (fun A outer s H vs Q E hr h => ?_)
  · obtain ⟨a, ns, rfl, _⟩ := h
    rfl
  · obtain ⟨a, ns, rfl, hS, hns, hT, k⟩ := h
    have hmon : Mon (fun x y H => DQn K x y H ∨ (DDict P w K x y H ∨ (DIns CL (RLib K CL) x y H ∨ DFlat x y H))) := Mon.or mon_qn (Mon.or mon_dict (Mon.or mon_lib mon_flat))
    refine ⟨_, (pss_cons (ps_for PassesOwn.never rfl (pi_range1 (by rfl) N.range (pa_cons (pe_callB (call_max2 rfl) (by rfl) N.max (by decide +kernel) (pa_cons pe_int (pa_cons (pe_callB (call_min2 rfl) (by rfl) N.min (by decide +kernel) (pa_cons pe_int (pa_cons (pe_callB call_len_seq (by rfl) N.len (by decide +kernel) (pa_cons (pv 0) pa_nil)) pa_nil))) pa_nil))) pa_nil)) (pg_name (i := 1) sc_law.nd rfl (Or.inl rfl)) (pss_one (ps_if (pt_not (pt_val (pe_c c__law_right hr (ha := (pa_cons (pe_c c__law_dice hr (ha := (pa_cons (pv 0) (pa_cons (pv 1) pa_nil)))) pa_nil))))) (pss_one (ps_ret pe_bl)) pss_nil)))
      (C8.pss_cut (ps_set (i := 2) sc_law.nd rfl (Or.inl rfl) (pe_lst (pa_cons (pe_c c_read_ranks.q hr (ha := (pa_cons pe_str pa_nil))) (pa_cons (pe_c c_read_library.q hr (ha := (pa_cons pe_str pa_nil))) (pa_cons (pe_c c_write_ranks hr (ha := (pa_cons pe_dnewQ pa_nil))) (pa_cons (pe_c c_write_library hr (ha := (pa_cons (pe_mk0 c_make0.q hr) pa_nil))) (pa_cons (pe_c c_read_question.q hr (ha := (pa_cons pe_str pa_nil))) pa_nil)))))))
      (C8.pss_cut (ps_set (i := 6) sc_law.nd rfl (Or.inr rfl) (pe_lst (pa_cons pe_str (pa_cons pe_str (pa_cons pe_str (pa_cons pe_str (pa_cons pe_str (pa_cons pe_str (pa_cons pe_str pa_nil)))))))))
      (C8.pss_cut (ps_set (i := 3) sc_law.nd rfl (Or.inl rfl) (pe_lst (pa_cons (pe_got (k := 16) (t := fun E => tCallS (sp_read_question K CP) (fun σ => WE (fun cls d _ H => E cls d H) σ) (tCons (tOp (rIxL K) (tVar 6) (tC (.int 0))) tNil)) N G D TB rfl (hr.mono (by decide)) (fun A outer s H E f c' hr' => pe_cx c_read_question hr' (fun σ => passAt (takes_of rfl rfl rfl rfl) σ) (ha := pa_cons (pe_ix ix_list (pv 6) pe_int (fun _ _ => rfl)) pa_nil))) pa_nil)))
      (pss_cons (ps_for PassesOwn.never rfl (pi_range2 (by rfl) N.range (pa_cons pe_int (pa_cons (pe_callB call_len_seq (by rfl) N.len (by decide +kernel) (pa_cons (pv 6) pa_nil)) pa_nil))) (pg_name (i := 5) sc_law.nd rfl (Or.inr rfl)) (pss_one (ps_expr (pe_bm PySem.F.plainAttrs_list PySem.F.slot_list_append PySem.F.type_list_append mt_append (pv 3) (pa_cons (pe_got (k := 16) (t := fun E => tCallS (sp_read_question K CP) (fun σ => WE (fun cls d _ H => E cls d H) σ) (tCons (tOp (rIxL K) (tVar 6) (tVar 5)) tNil)) N G D TB rfl (hr.mono (by decide)) (fun A outer s H E f c' hr' => pe_cx c_read_question hr' (fun σ => passAt (takes_of rfl rfl rfl rfl) σ) (ha := pa_cons (pe_ix ix_list (pv 6) (pv 5) (fun _ _ => rfl)) pa_nil))) pa_nil)))))
      (C8.pss_cut (ps_set (i := 4) sc_law.nd rfl (Or.inl rfl) (pe_got (k := 16) N G D TB rfl (hr.mono (by decide)) (fun A outer s H E f c' hr' => pe_cx c_read_library hr' (fun σ => passAt (takes_of rfl rfl rfl rfl) σ) (ha := pa_cons pe_str pa_nil))))
      (pss_one (ps_ret (pe_and (pe_cmpR (op_eqG (rcG_list (n := 2) hmon (EqG.or eqG_qn (EqG.or eqG_dict (EqG.or (eqG_ins (E := E0) FE hse hfe hbe pass0) (eqG_flat.mono (by decide)))))) (hr.mono (by decide))) (pv 2) (pe_lst (pa_cons pe_dnewQ (pa_cons (pe_mk0 c_make0.q hr) (pa_cons pe_str (pa_cons pe_str (pa_cons (pe_tup (pa_cons (pe_tup pa_nil) (pa_cons pe_str pa_nil))) pa_nil)))))) (nomark _)) (pe_and (pe_cmpR (op_eqG (rcG_list mon_flat eqG_flat) (hr.mono (by decide))) (pv 3) (pe_op op_rep (pe_lst (pa_cons pe_str pa_nil)) pe_int) (nomark _)) (pe_one (pe_cmpR op_eq (pv 4) pe_str (nomark _))))))))))))), ?_⟩
    have hnl : (ns.map V.int).length = ns.length := List.length_map ..
    refine ⟨_, rfl, a, _, rfl, .inl hS, 6, _, rfl, 1, _, rfl, _, rfl, by split <;> (try split) <;> omega, by split <;> (try split) <;> omega, ?_⟩
    refine for_it (walk_range (lo := 0)) (fun i σ1 H1 => ∃ s1 : Option V, σ1 = [some (.ref a), s1, none, none, none, none, none] ∧ LamX.ExtN H H1 ∧ LamX.Tabs T H1)
      ⟨_, rfl, LamX.ExtN.refl H, hT⟩ (fun _ _ _ _ _ => True.intro) (fun i z σ1 Hx H1 hi ⟨s1, hσ, e1, t1⟩ y => ?_) (fun σ1 H1 ⟨s1, hσ, e1, t1⟩ => ?_)
    · subst hσ
      obtain ⟨rfl, hz⟩ := y
      have hz' : z = V.int (i : Int) := by
        rw [hz]
        show V.int (0 + (i : Int)) = _
        rw [Int.zero_add]
      clear hz
      subst hz'
      refine ⟨_, rfl, _, rfl, a, ns, i, rfl, sqL_extN e1 hS, fun D H2 s2 hDn hD2 => ⟨D, rfl, hD2, t1.same s2, fun H3 e3 t3 => ⟨_, rfl, iteF ⟨_, rfl, ?_, t3⟩⟩⟩⟩
      intro b o hb t
      have h2 := s2 _ _ (e1 b o hb t)
      exact e3 b o (fun z => by rw [z] at hb; have := e1 _ _ hb t; rw [this] at hDn; cases hDn) h2 t
    subst hσ
    -- what is told
    refine ⟨fun σ2 H2 => ∃ (TL rd : Addr) (lv u : V), σ2 = [some (.ref a), s1, some (.ref TL), none, none, none, none] ∧ LamX.Tabs T H2 ∧ H2 TL = some (.lst [.ref rd, lv, .str (Str.ofString "none"), .str (Str.ofString "none"), u]) ∧ H2 rd = some (QdO P w rd []) ∧ LibO K CL H2 lv [] ∧ Dp K H2 u (qD ([], Str.ofString "n")), ?_, ?_⟩
    · have l4 := len_none
      have hs0 : sortR ([] : List Rk) = [] := List.length_eq_zero_iff.mp (by rw [(sortR_perm []).length_eq]; rfl)
      refine ⟨Str.ofString "none", rfl, by omega, (fun j hj => by rw [read_none.1] at hj; cases hj), fun r hr1 rd es H2 s2 hrd _ hE => ?_⟩
      rw [read_none.1] at hr1
      cases hr1
      have hes : es = [] := List.length_eq_zero_iff.mp hE.length
      subst hes
      refine ⟨Str.ofString "none", rfl, by omega, (fun j hj => by rw [read_none.2] at hj; cases hj), fun r hr2 => ?_⟩
      rw [read_none.2] at hr2
      cases hr2
      refine ⟨fun _ lv H3 s3 hl3 => ?_, fun h8 => by cases h8⟩
      intro d0 hd0
      have s4 := same_new (o := QdO P w d0 []) hd0
      refine ⟨d0, [], [], rfl, upd_same, (fun e he => by cases he), rfl, (fun r hr => by cases hr), by rw [hs0]; exact Nat.zero_le _, fun H5 s5 => ?_⟩
      refine cons_i (K := K) (call_i (cons_i (K := K) (ev_lib fun lv0 H6 s6 hL6 => ⟨lv0, [], rfl, hL6, Nat.zero_le _, fun H7 s7 => ?_⟩)))
      have l3 : (Str.ofString "|- n").length = 4 := by decide +kernel
      refine ⟨Str.ofString "|- n", rfl, by omega, (fun hn => by rw [law_ask] at hn; cases hn), fun q hq u H8 s8 du => ⟨szl (by show 5 ≤ 16777216; decide), fun TL hTL => ?_⟩⟩
      rw [law_ask] at hq
      cases hq
      have s9 := same_new (o := .lst [V.ref rd, lv, V.str (joinT ((sortR ([] : List Rk)).map rkLine)), V.str (libTxt []), u]) hTL
      have s39 := Same.trans s4 (Same.trans s5 (Same.trans s6 (Same.trans s7 (Same.trans s8 s9))))
      have s29 := Same.trans s3 s39
      refine ⟨TL, rd, lv, u, rfl, t1.same (Same.trans s2 s29), ?_, s29 _ _ hrd, hl3.same s39, Dp.same s9 du⟩
      rw [upd_same, hs0]
      rfl
    rintro σ2 H2 ⟨TL, rd, lv, u, rfl, t2, hTL, hrd, hlv, du⟩
    clear e1 hT hS
    -- the texts
    refine ⟨fun σ3 H3 => ∃ TX : Addr, σ3 = [some (.ref a), s1, some (.ref TL), none, none, none, some (.ref TX)] ∧ H3 TX = some (.lst (lawTexts.map V.str)) ∧ Same H2 H3, ?_, ?_⟩
    · exact ⟨szl (by show 7 ≤ 16777216; decide), fun TX hTX => ⟨TX, rfl, upd_same, same_new hTX⟩⟩
    rintro σ3 H3 ⟨TX, rfl, hTX, s3⟩
    replace t2 := t2.same s3
    replace hTL := s3 _ _ hTL
    replace hrd := s3 _ _ hrd
    replace hlv := hlv.same s3
    replace du := Dp.same s3 du
    clear s3
    have hread : ∀ (n : Nat) (z : Int), n < 7 → z = (n : Int) → ∃ x, atI (lawTexts.map V.str) z = some (.str x) ∧ qTold x = none ∧ x.length ≤ 100 := fun n z hn hz => by
      have hl : n < lawTexts.length := hn
      obtain ⟨h1, h2⟩ := lawTexts_bad _ (List.getElem_mem hl)
      exact ⟨lawTexts[n], at_eq hz (by rw [List.getElem?_map, List.getElem?_eq_getElem hl]; rfl), h1, h2⟩
    refine ⟨fun σ4 H4 => ∃ FD : Addr, σ4 = [some (.ref a), s1, some (.ref TL), some (.ref FD), none, none, some (.ref TX)] ∧ H4 FD = some (.lst [.str tellN]) ∧ (FD ≠ TL ∧ FD ≠ TX) ∧ LamX.ExtN H3 H4 ∧ LamX.Tabs T H4, ?_, ?_⟩
    · refine ⟨t2, fun H4 e4 t4 => ?_⟩
      obtain ⟨x, hx1, hx2, hx3⟩ := hread 0 0 (by decide) rfl
      refine ⟨_, rfl, TX, _, 0, _, rfl, rfl, SqL.of (e4 _ _ hTX (fun ps q => by cases q)), hx1, x, rfl, by omega, (fun hn d H5 s5 hd => .inl ⟨rfl, d, _, rfl, hd, .inl ⟨rfl, szl (by show 1 ≤ 16777216; decide), fun FD hFD => ?_⟩⟩), fun q hq => by rw [hx2] at hq; cases hq⟩
      have e5 := e4.trans (extN_same s5)
      have nf : ∀ {b : Addr} {xs : List V}, H3 b = some (.lst xs) → FD ≠ b := fun {b xs} h z => by
        rw [z, e5 _ _ h (fun ps q => by cases q)] at hFD
        cases hFD
      exact ⟨FD, rfl, upd_same, ⟨nf hTL, nf hTX⟩, e5.trans (extN_same (same_new hFD)), t4.same (Same.trans s5 (same_new hFD))⟩
    rintro σ4 H4 ⟨FD, rfl, hFD, ⟨nTL, nTX⟩, e4, t4⟩
    replace hTL := e4 _ _ hTL (fun ps q => by cases q)
    replace hTX := e4 _ _ hTX (fun ps q => by cases q)
    replace hrd := e4 _ _ hrd (fun ps q => by unfold QdO at q; cases q)
    replace hlv := hlv.sameL (extN_sL e4)
    replace du := Dp.sameL (extN_sL e4) (noL_q _) du
    clear e4
    -- the other texts
    have hl7 : ((lawTexts.map V.str).length : Int) = 7 := by decide +kernel
    refine ⟨_, rfl, TX, _, rfl, .inl (SqL.of hTX), 1, _, rfl, by rw [hl7]; decide, ?_⟩
    rw [hl7]
    refine for_it (walk_range (lo := 1) (n := 6)) (fun i σ5 H5 => ∃ s5 : Option V, σ5 = [some (.ref a), s1, some (.ref TL), some (.ref FD), none, s5, some (.ref TX)] ∧ H5 FD = some (.lst (List.replicate (i + 1) (.str tellN))) ∧ H5 TL = some (.lst [.ref rd, lv, .str (Str.ofString "none"), .str (Str.ofString "none"), u]) ∧ H5 rd = some (QdO P w rd []) ∧ LibO K CL H5 lv [] ∧ Dp K H5 u (qD ([], Str.ofString "n")) ∧ H5 TX = some (.lst (lawTexts.map V.str)) ∧ LamX.Tabs T H5)
      ⟨_, rfl, hFD, hTL, hrd, hlv, du, hTX, t4⟩ (fun _ _ _ _ _ => True.intro) (fun i z σ5 Hx H5 hi ⟨s5, hσ, f1, f2, f3, f4, f5, f6, f7⟩ y => ?_) (fun σ5 H5 ⟨s5, hσ, f1, f2, f3, f4, f5, f6, f7⟩ => ?_)
    · subst hσ
      obtain ⟨rfl, rfl⟩ := y
      obtain ⟨x, hx1, hx2, hx3⟩ := hread (i + 1) (1 + (i : Int)) (by omega) (by omega)
      refine ⟨_, rfl, .inl ⟨rfl, _, SqL.of f1⟩, f7, fun H6 e6 t6 => ?_⟩
      refine ⟨_, rfl, _, rfl, TX, _, 1 + (i : Int), _, rfl, rfl, SqL.of (e6 _ _ f6 (fun ps q => by cases q)), hx1, x, rfl, by omega, (fun hn d H7 s7 hd => .inl ⟨rfl, d, _, rfl, hd, .inl ⟨rfl, ?_⟩⟩), fun q hq => by rw [hx2] at hq; cases hq⟩
      have e7 := e6.trans (extN_same s7)
      have g1 := e7 _ _ f1 (fun ps q => by cases q)
      refine ⟨FD, _, _, rfl, rfl, g1, szlt (by rw [List.length_replicate]; omega), ?_⟩
      have sl8 : SameL H7 (upd H7 FD (.lst (List.replicate (i + 1) (V.str tellN) ++ [V.str tellN]))) := sameL_upd g1 rfl
      have sl := SameL.trans (extN_sL e7) sl8
      refine ⟨_, rfl, by rw [upd_same]; exact congrArg (fun l => some (HO.lst l)) List.replicate_succ'.symm, by rw [upd_ne nTL.symm]; exact e7 _ _ f2 (fun ps q => by cases q), ?_, f4.sameL sl, Dp.sameL sl (noL_q _) f5, by rw [upd_ne nTX.symm]; exact e7 _ _ f6 (fun ps q => by cases q), tabs_L (t6.same s7) g1⟩
      have g3 := e7 _ _ f3 (fun ps q => by unfold QdO at q; cases q)
      rw [upd_ne (fun z => by rw [z, g1] at g3; unfold QdO at g3; cases g3)]
      exact g3
    subst hσ
    -- the wrong library
    refine ⟨fun σ6 H6 => σ6 = [some (.ref a), s1, some (.ref TL), some (.ref FD), some (.str (tellP 1)), s5, some (.ref TX)] ∧ LamX.ExtN H5 H6, ?_, ?_⟩
    · refine ⟨f7, fun H6 e6 t6 => ⟨lawWrong, rfl, by decide +kernel, (fun j hj d H7 s7 hd => .inl ⟨rfl, d, _, rfl, hd, .inr ⟨j, rfl, ?_, ?_⟩⟩), fun r hr0 => by rw [lawWrong_told] at hr0; cases hr0⟩⟩
      · rw [lawWrong_told] at hj
        cases hj
        decide
      · rw [lawWrong_told] at hj
        cases hj
        exact ⟨rfl, e6.trans (extN_same s7)⟩
    rintro σ6 H6 ⟨rfl, e6⟩
    replace f1 := e6 _ _ f1 (fun ps q => by cases q)
    replace f2 := e6 _ _ f2 (fun ps q => by cases q)
    replace f3 := e6 _ _ f3 (fun ps q => by unfold QdO at q; cases q)
    replace f4 := f4.sameL (extN_sL e6)
    replace f5 := Dp.sameL (extN_sL e6) (noL_q _) f5
    clear e6 f6 f7
    refine ⟨_, rfl, ?_⟩
    intro d0 hd0
    have s7 := same_new (o := QdO P w d0 []) hd0
    have e7 : (upd H6 d0 (QdO P w d0 [])) d0 = some (QdO P w d0 []) := upd_same
    refine cons_i (K := K) (ev_lib fun lv2 H7 s8 hl8 => ?_)
    have s78 := Same.trans s7 s8
    refine ⟨Nat.zero_le _, fun t0 ht0 => ⟨szl (by show 2 ≤ 16777216; decide), fun t1 ht1 => ⟨szl (by show 5 ≤ 16777216; decide), fun A2 hA2 => ?_⟩⟩⟩
    have s9 := same_new (o := .tup []) ht0
    have s10 := same_new (o := .tup [V.ref t0, V.str (Str.ofString "n")]) ht1
    have s11 := same_new (o := .lst [V.ref d0, lv2, V.str (Str.ofString "none"), V.str (Str.ofString "none"), V.ref t1]) hA2
    have s911 := Same.trans s9 (Same.trans s10 s11)
    have s811 := Same.trans s8 s911
    have s711 := Same.trans s7 s811
    have dq := qv_mk (K := K) (q := ([], Str.ofString "n")) (SqT.of (s11 _ _ upd_same)) (SqT.of ((Same.trans s10 s11) _ _ upd_same))
    refine ⟨⟨TL, A2, _, _, rfl, rfl, s711 _ _ f2, upd_same, ?_⟩, fun H8 s12 => ⟨true, rfl, iteT ?_⟩⟩
    · refine Prs.cons (.inr (.inl ⟨rd, d0, [], [], rfl, rfl, s711 _ _ f3, s811 _ _ e7, (fun e he => by cases he), (fun e he => by cases he), rfl, fun e he => by cases he⟩)) (Prs.cons (.inr (.inr (.inl (dlib_of (f4.same s711) (hl8.same s911))))) (Prs.cons (.inr (.inr (.inr (flat_str _ _)))) (Prs.cons (.inr (.inr (.inr (flat_str _ _)))) (Prs.cons (.inl (dqn_of (Dp.same s711 f5) dq)) Prs.nil))))
    have g1 := s12 _ _ (s711 _ _ f1)
    refine ⟨_, rfl, szl (by show 1 ≤ 16777216; decide), fun l hl => ⟨l, 7, _, rfl, rfl, upd_same, by decide, by decide, szl (by show 1 * 7 ≤ 16777216; decide), fun p hp => ?_⟩⟩
    have s13 := Same.trans (same_new (o := .lst [V.str (Str.ofString "parse None")]) hl) (same_new (o := .lst (List.replicate (7 : Int).toNat [V.str (Str.ofString "parse None")]).flatten) hp)
    refine ⟨⟨FD, p, _, _, rfl, rfl, s13 _ _ g1, upd_same, ?_⟩, fun H9 s14 => ⟨true, rfl, iteT ⟨_, rfl, rfl, ?_⟩⟩⟩
    · rw [show (List.replicate (7 : Int).toNat [V.str (Str.ofString "parse None")]).flatten = List.replicate (6 + 1) (V.str tellN) from rfl]
      exact prs_same fun x hx => by
        rw [List.eq_of_mem_replicate hx]
        exact flat_str _ _
    · rw [show decide (V.str (tellP 1) = V.str (Str.ofString "parse 1")) = true from decide_eq_true (congrArg V.str (by decide +kernel))]
      exact k _
end
end Fp
/-! H2: each def keeps its promise, by the head's facts -/
namespace Fp
open PySem PySem.Spec PyProof.Rows L2 He He5
structure Hd (K : PySem.W.Frag) (mg : Str → Option Value) (h : Heap) : Prop where
  X : K.In h
  G : h.Ns mainGlobals mg
  c : SaysF fa fn tf ex h K
section
variable {P : Program} {w : World} {K : PySem.W.Frag} {mg : Str → Option Value} {base h : Heap}
theorem Hd.fact (E : Hd K mg h) (i : Nat) {f : Fa} (hh : fa[i]? = some f) : f.ok K = true := E.c.a.fact i hh
theorem Hd.ex (E : Hd K mg h) {b : Bool} (hb : b ∈ exL K) : b = true := List.all_eq_true.mp E.c.more b hb
theorem Hd.glo (E : Hd K mg h) (i : Nat) {x : Str} (hh : fa[i]? = some (.glo x)) : mg x = some (.ref (ga K x)) := glo_ok E.X E.G (E.fact i hh)
theorem Hd.fn_ (E : Hd K mg h) (i : Nat) {x : Str} {st : Stmt} (hh : fn[i]? = some (dG x st)) : ∃ fd, Fun K x x st (ga K x) fd := by
  obtain ⟨fd, F⟩ := E.c.a.def_ i hh
  exact ⟨fd, fun_of F⟩
theorem Hd.met (E : Hd K mg h) (i : Nat) {C m q : Str} {st : Stmt} (hh : fn[i]? = some (dM C m q st [])) : ∃ fd, Fun K m q st (ma K (ga K C) m) fd := by
  obtain ⟨fd, F⟩ := E.c.a.def_ i hh
  exact ⟨fd, fun_of F⟩
theorem cal_of {CX : CXT} {k : Nat} {x : Str} {fd : FuncData} {ps : List Str} {sp : Sp} (F : FnOk P w K mg base CX k (ga K x) fd ps sp) (hm : mg x = some (.ref (ga K x))) (kp : PySem.W.keepIn K (.ref (ga K x)) = true) (hb : Binds K fd ps []) : Cal P w K mg base CX k x sp := ⟨_, fd, ps, F, hm, kp, hb⟩
theorem gv_int (E : Hd K mg h) {x : Str} {i : Int} (c : (Fa.int x i).ok K = true) : Gv mg x (.int i) := by
  obtain ⟨t, e⟩ := int_ok E.X E.G c
  exact ⟨_, e, t, rfl⟩
theorem gv_str (E : Hd K mg h) {x z : Str} (c : (Fa.str x z).ok K = true) : Gv mg x (.str z) := by
  obtain ⟨t, e⟩ := str_ok E.X E.G c
  exact ⟨_, e, t, rfl⟩
theorem Hd.nm (E : Hd K mg h) : Nm mg := ⟨free_ok E.X E.G (E.fact 64 rfl), free_ok E.X E.G (E.fact 65 rfl), free_ok E.X E.G (E.fact 66 rfl), free_ok E.X E.G (E.fact 67 rfl), free_ok E.X E.G (E.fact 68 rfl), free_ok E.X E.G (E.fact 69 rfl), free_ok E.X E.G (E.fact 70 rfl), free_ok E.X E.G (E.fact 71 rfl), free_ok E.X E.G (E.fact 72 rfl), free_ok E.X E.G (E.fact 73 rfl), free_ok E.X E.G (E.fact 74 rfl), free_ok E.X E.G (E.fact 75 rfl), free_ok E.X E.G (E.fact 76 rfl), free_ok E.X E.G (E.fact 77 rfl), free_ok E.X E.G (E.fact 78 rfl), free_ok E.X E.G (E.fact 79 rfl), free_ok E.X E.G (E.fact 80 rfl), free_ok E.X E.G (E.fact 81 rfl), free_ok E.X E.G (E.fact 82 rfl),
  gv_str E (E.fact 90 rfl), gv_str E (E.fact 91 rfl), gv_int E (E.fact 83 rfl), gv_int E (E.fact 84 rfl), gv_int E (E.fact 85 rfl), gv_int E (E.fact 86 rfl), gv_str E (E.fact 92 rfl), gv_int E (E.fact 87 rfl), gv_str E (E.fact 93 rfl), gv_int E (E.fact 88 rfl), gv_int E (E.fact 89 rfl), gv_str E (E.fact 94 rfl), gv_str E (E.fact 95 rfl), gv_str E (E.fact 96 rfl)⟩
theorem Hd.kr (E : Hd K mg h) : KRf K (ga K "KindReader") := ⟨cls_ok (E.fact 97 rfl), noat_ok (E.fact 103 rfl), noat_ok (E.fact 104 rfl)⟩
theorem Hd.ty (E : Hd K mg h) : Tyf K mg (ga K "Type") := ⟨cls_ok (E.fact 98 rfl), noat_ok (E.fact 105 rfl), noat_ok (E.fact 106 rfl), noat_ok (E.fact 107 rfl), noat_ok (E.fact 108 rfl), noat_ok (E.fact 109 rfl), insB_ok (cls_ok (E.fact 98 rfl)) (E.ex (by simp [exL])), _, E.glo 58 rfl, rfl⟩
theorem Hd.lb (E : Hd K mg h) : Lbf K mg (ga K "Library") := ⟨cls_ok (E.fact 99 rfl), noat_ok (E.fact 110 rfl), noat_ok (E.fact 111 rfl), noat_ok (E.fact 112 rfl), noat_ok (E.fact 113 rfl), insB_ok (cls_ok (E.fact 99 rfl)) (E.ex (by simp [exL])), _, E.glo 59 rfl, rfl⟩
theorem Hd.errT (E : Hd K mg h) : ErrF K mg "InvalidType" (ga K "InvalidType") := by
  obtain ⟨h1, h2, h3, h4⟩ := exc_ok (E.fact 121 rfl)
  exact ⟨E.glo 62 rfl, h1, h2, h3, h4, exm_ok (E.fact 123 rfl)⟩
theorem Hd.errL (E : Hd K mg h) : ErrF K mg "InvalidLibrary" (ga K "InvalidLibrary") := by
  obtain ⟨h1, h2, h3, h4⟩ := exc_ok (E.fact 122 rfl)
  exact ⟨E.glo 63 rfl, h1, h2, h3, h4, exm_ok (E.fact 124 rfl)⟩
theorem Hd.gB (E : Hd K mg h) : mg "BuildError" = some (.ref (ga K "BuildError")) := E.glo 61 rfl
theorem Hd.pB (E : Hd K mg h) : PySem.W.exmOne K (.ref (ga K "ParseError")) (.ref (ga K "BuildError")) = some true := exm_ok (E.fact 127 rfl)
theorem Hd.g_line_told (E : Hd K mg h) : mg "line_told" = some (.ref (ga K "line_told")) := E.glo 18 rfl
theorem Hd.g_rank_told (E : Hd K mg h) : mg "rank_told" = some (.ref (ga K "rank_told")) := E.glo 26 rfl
theorem Hd.got (E : Hd K mg h) : GotF K mg (ga K "ParseError") (ga K "InvalidLibrary") := ⟨E.glo 60 rfl, E.glo 63 rfl, xfB_ok (E.ex (by simp [exL])), noat_ok (E.fact 114 rfl), exm_ok (E.fact 125 rfl), exm_ok (E.fact 126 rfl), exm_ok (E.fact 124 rfl)⟩
theorem Hd.gotD (E : Hd K mg h) : GotD K mg := by
  obtain ⟨fd, F⟩ := E.fn_ 52 (x := "_law_got") (st := top 93) rfl
  exact ⟨_, fd, E.glo 52 rfl, F⟩
theorem cal_is_word (E : Hd K mg h) : Cal P w K mg base CX0 1 "is_word" sp_is_word := by
  obtain ⟨fd, F⟩ := E.fn_ 0 (x := "is_word") (st := top 8) rfl
  have hm := E.glo 0 (x := "is_word") rfl
  have hb : Binds K fd ["value"] [] := F.binds (fun _ _ _ _ _ _ us hl => match us, hl with | [_], _ => rfl)
  exact cal_of (ok_is_word F E.nm) hm F.kp hb
theorem cal_signs_of (E : Hd K mg h) : Cal P w K mg base CX0 1 "signs_of" sp_signs_of := by
  obtain ⟨fd, F⟩ := E.fn_ 1 (x := "signs_of") (st := top 24) rfl
  have hm := E.glo 1 (x := "signs_of") rfl
  have hb : Binds K fd ["text"] [] := F.binds (fun _ _ _ _ _ _ us hl => match us, hl with | [_], _ => rfl)
  exact cal_of (ok_signs_of F E.nm) hm F.kp hb
theorem met_end (E : Hd K mg h) : MetC P w K mg base CX0 1 (ga K "KindReader") "take_end" (sp_KR_end K (ga K "KindReader")) := by
  obtain ⟨fd, F⟩ := E.met 59 (C := "KindReader") (m := "take_end") (st := inClass (top 25) 2) rfl
  exact ⟨_, fd, _, meth_ok (E.fact 116 rfl), ok_KR_end F E.nm E.kr, F.binds (fun _ _ _ _ _ _ us hl => match us, hl with | [_, _], _ => rfl)⟩
theorem met_take (E : Hd K mg h) : MetC P w K mg base CX0 2 (ga K "KindReader") "take" (sp_KR_take K (ga K "KindReader")) := by
  obtain ⟨fd, F⟩ := E.met 58 (C := "KindReader") (m := "take") (st := inClass (top 25) 1) rfl
  exact ⟨_, fd, _, meth_ok (E.fact 115 rfl), ok_KR_take F E.nm E.kr (cal_is_word E) (met_end E), F.binds (fun _ _ _ _ _ _ us hl => match us, hl with | [_, _], _ => rfl)⟩
theorem met_result (E : Hd K mg h) : MetC P w K mg base CX0 1 (ga K "KindReader") "result" (sp_KR_result K (ga K "KindReader")) := by
  obtain ⟨fd, F⟩ := E.met 60 (C := "KindReader") (m := "result") (st := inClass (top 25) 3) rfl
  exact ⟨_, fd, _, meth_ok (E.fact 117 rfl), ok_KR_result F E.nm E.kr, F.binds (fun _ _ _ _ _ _ us hl => match us, hl with | [_], _ => rfl)⟩
theorem mk_KR (E : Hd K mg h) : MkC P w K mg base CX0 1 "KindReader" (ga K "KindReader") (sp_KR_init K (ga K "KindReader")) [] := by
  obtain ⟨fd, F⟩ := E.met 57 (C := "KindReader") (m := "__init__") (st := inClass (top 25) 0) rfl
  exact ⟨_, fd, _, [], mkr_ok (E.fact 100 rfl), ok_KR_init F E.kr, E.glo 57 rfl, F.binds (fun _ _ _ _ _ _ us hl => match us, hl with | [_], _ => rfl), .nil⟩
theorem cal_shape_of (E : Hd K mg h) : Cal P w K mg base CX0 3 "shape_of" (sp_shape_of K) := by
  obtain ⟨fd, F⟩ := E.fn_ 2 (x := "shape_of") (st := top 26) rfl
  have hm := E.glo 2 (x := "shape_of") rfl
  have hb : Binds K fd ["text"] [] := F.binds (fun _ _ _ _ _ _ us hl => match us, hl with | [_], _ => rfl)
  exact cal_of (ok_shape_of F E.nm E.kr (cal_signs_of E) (mk_KR E) (met_take E) (met_result E)) hm F.kp hb
theorem cal_order_of (E : Hd K mg h) : Cal P w K mg base CX0 1 "order_of" (sp_order_of K (ga K "Type")) := by
  obtain ⟨fd, F⟩ := E.fn_ 4 (x := "order_of") (st := top 28) rfl
  have hm := E.glo 4 (x := "order_of") rfl
  have hb : Binds K fd ["inputs"] [] := F.binds (fun _ _ _ _ _ _ us hl => match us, hl with | [_], _ => rfl)
  exact cal_of (ok_order_of F E.nm E.ty) hm F.kp hb
theorem cal_input_text (E : Hd K mg h) : Cal P w K mg base CX0 1 "input_text" (sp_input_text K (ga K "Type")) := by
  obtain ⟨fd, F⟩ := E.fn_ 5 (x := "input_text") (st := top 29) rfl
  have hm := E.glo 5 (x := "input_text") rfl
  have hb : Binds K fd ["wanted"] [] := F.binds (fun _ _ _ _ _ _ us hl => match us, hl with | [_], _ => rfl)
  exact cal_of (ok_input_text F E.nm E.ty) hm F.kp hb
theorem mk_Type (E : Hd K mg h) : MkC P w K mg base (L2.CX P w) 2 "Type" (ga K "Type") (sp_Type_init K (ga K "Type") (ga K "InvalidType")) [] := by
  obtain ⟨fd, F⟩ := E.met 61 (C := "Type") (m := "__init__") (st := inClass (top 30) 0) rfl
  exact ⟨_, fd, _, [], mkr_ok (E.fact 101 rfl), ok_Type_init F E.nm E.ty E.errT (cal_is_word E) (cal_order_of E) (cal_input_text E), E.glo 58 rfl, F.binds (fun _ _ _ _ _ _ us hl => match us, hl with | [_, _, _], _ => rfl), .nil⟩
theorem cal_kind_in (E : Hd K mg h) : Cal P w K mg base (L2.CX P w) 9 "kind_in" (sp_kind_in K (ga K "Type") (ga K "InvalidType") 6) := by
  obtain ⟨fd, F⟩ := E.fn_ 3 (x := "kind_in") (st := top 27) rfl
  have hm := E.glo 3 (x := "kind_in") rfl
  have hb : Binds K fd ["shape"] [] := F.binds (fun _ _ _ _ _ _ us hl => match us, hl with | [_], _ => rfl)
  exact cal_of (ok_kind_in F E.nm E.ty hm F.kp hb (mk_Type E) 6) hm F.kp hb
theorem cal_type_of_text (E : Hd K mg h) : Cal P w K mg base CX0 10 "type_of_text" (sp_type_of_text K (ga K "Type")) := by
  obtain ⟨fd, F⟩ := E.fn_ 6 (x := "type_of_text") (st := top 31) rfl
  have hm := E.glo 6 (x := "type_of_text") rfl
  have hb : Binds K fd ["text"] [] := F.binds (fun _ _ _ _ _ _ us hl => match us, hl with | [_], _ => rfl)
  exact cal_of (ok_type_of_text F E.nm E.errT (cal_shape_of E) (cal_kind_in E)) hm F.kp hb
theorem pe_f (E : Hd K mg h) : PEf P w K mg base (ga K "ParseError") := by
  obtain ⟨fd, F⟩ := E.met 65 (C := "ParseError") (m := "__init__") (st := inClass (top 17) 0) rfl
  have T := oexB_ok (E.ex (by simp [exL]) : oexB K (ga K "ParseError") = true)
  have ln : PySem.W.findIn K (.ref (ga K "ParseError")) "line" = some none := noat_ok (E.fact 114 rfl)
  exact ⟨T, E.glo 60 rfl, exm_ok (E.fact 125 rfl), _, fd, (meth_ok (E.fact 120 rfl)).at_, of_decide_eq_true (E.ex (by simp [exL])), ok_PE_init F T ln, F.binds (fun _ _ _ _ _ _ us hl => match us, hl with | [_, _], _ => rfl)⟩
theorem cmd_read (E : Hd K mg h) : CMd P w K mg base 11 (ga K "Type") "read" (sp_Type_read K (ga K "Type") (ga K "ParseError")) := by
  obtain ⟨fd, F0⟩ := E.c.a.def_ 66 (d := dRead) rfl
  have F : Fun K "read" "Type.read" (inClass (top 30) 1) _ fd := fun_of F0
  obtain ⟨cr, cm⟩ := readB_ok (E.ex (by simp [exL]) : readB K (ga K "Type") "read" = true)
  have b : Binds K fd ["cls", "text"] [] := F.binds (fun _ _ _ _ _ _ us hl => match us, hl with | [_, _], _ => rfl)
  refine ⟨_, _, cr, cm, ((ok_Type_read F (pe_f E) (cal_type_of_text E)).raw b .nil).imp fun vs H Q E h => ?_⟩
  rw [List.append_nil]
  exact h
theorem cal_part_of_line (E : Hd K mg h) : Cal P w K mg base CX0 12 "part_of_line" (sp_part_of_line K (ga K "Type")) := by
  obtain ⟨fd, F⟩ := E.fn_ 9 (x := "part_of_line") (st := top 38) rfl
  have hm := E.glo 9 (x := "part_of_line") rfl
  have hb : Binds K fd ["line"] [] := F.binds (fun _ _ _ _ _ _ us hl => match us, hl with | [_], _ => rfl)
  exact cal_of (ok_part_of_line F E.nm E.ty E.gB E.pB (cal_is_word E) (cmd_read E)) hm F.kp hb
theorem cal_is_parts (E : Hd K mg h) : Cal P w K mg base CX0 2 "is_parts" (sp_is_parts K (ga K "Type")) := by
  obtain ⟨fd, F⟩ := E.fn_ 7 (x := "is_parts") (st := top 37) rfl
  have hm := E.glo 7 (x := "is_parts") rfl
  have hb : Binds K fd ["value"] [] := F.binds (fun _ _ _ _ _ _ us hl => match us, hl with | [_], _ => rfl)
  exact cal_of (ok_is_parts F E.nm E.ty (cal_is_word E)) hm F.kp hb
theorem cal_ascending_rows (E : Hd K mg h) : Cal P w K mg base CX0 1 "ascending_rows" (sp_ascending_rows K (ga K "Type")) := by
  obtain ⟨fd, F⟩ := E.fn_ 8 (x := "ascending_rows") (st := top 9) rfl
  have hm := E.glo 8 (x := "ascending_rows") rfl
  have hb : Binds K fd ["rows"] [] := F.binds (fun _ _ _ _ _ _ us hl => match us, hl with | [_], _ => rfl)
  exact cal_of (ok_ascending_rows F E.nm) hm F.kp hb
theorem str_Type (E : Hd K mg h) : StrC P w K mg base 1 (ga K "Type") (sp_Type_str K (ga K "Type")) := by
  obtain ⟨fd, F⟩ := E.met 62 (C := "Type") (m := "__str__") (st := inClass (top 30) 20) rfl
  obtain ⟨h1, h2⟩ := strB_ok (E.ex (by simp [exL]) : strB K (ga K "Type") = true)
  have m := meth_ok (E.fact 118 rfl)
  exact ⟨h1, h2, _, fd, _, m.at_, m.fn, ok_Type_str F E.nm E.ty, F.binds (fun _ _ _ _ _ _ us hl => match us, hl with | [_], _ => rfl)⟩
theorem ok_lib (E : Hd K mg h) : ∃ fd, FunD K "__init__" "Library.__init__" (defArgs s_Library_init) (defBody s_Library_init) (defScope s_Library_init) [.non] [] (ma K (ga K "Library") "__init__") fd ∧ FnOk P w K mg base (L2.CX P w) 3 (ma K (ga K "Library") "__init__") fd ["self", "parts"] (sp_Library_init K (ga K "Type") (ga K "Library") (ga K "InvalidLibrary")) := by
  obtain ⟨fd, F0⟩ := E.c.a.def_ 63 (d := dM "Library" "__init__" "Library.__init__" (inClass (top 39) 0) [.non]) rfl
  have F : FunD K "__init__" "Library.__init__" (defArgs s_Library_init) (defBody s_Library_init) (defScope s_Library_init) [.non] [] (ma K (ga K "Library") "__init__") fd := F0
  exact ⟨fd, F, ok_Library_init F E.nm E.ty E.lb E.errL (cal_is_parts E) (cal_ascending_rows E) (str_Type E)⟩
theorem mk_Library (E : Hd K mg h) : MkC P w K mg base (L2.CX P w) 3 "Library" (ga K "Library") (sp_Library_init K (ga K "Type") (ga K "Library") (ga K "InvalidLibrary")) [] := by
  obtain ⟨fd, F, ok⟩ := ok_lib (P := P) (w := w) (base := base) E
  obtain ⟨ds, v, b⟩ := F.binds1 (ps := ["self", "parts"]) 2 1 (by simp) rfl (fun T kV doc pm an cdv ct us its hu hi => match us, hu, its, hi with | [_, _], _, [_], _ => ⟨_, rfl, rfl⟩)
  exact ⟨_, fd, _, ds, mkr_ok (E.fact 102 rfl), ok, E.glo 59 rfl, b, v⟩
theorem mk_Library0 (E : Hd K mg h) : MkC P w K mg base (L2.CX P w) 3 "Library" (ga K "Library") (sp_Library_init K (ga K "Type") (ga K "Library") (ga K "InvalidLibrary")) [.non] := by
  obtain ⟨fd, F, ok⟩ := ok_lib (P := P) (w := w) (base := base) E
  obtain ⟨ds, v, b⟩ := F.binds1 (ps := ["self", "parts"]) 1 0 (by simp) rfl (fun T kV doc pm an cdv ct us its hu hi => match us, hu, its, hi with | [_], _, [_], _ => ⟨_, rfl, rfl⟩)
  exact ⟨_, fd, _, ds, mkr_ok (E.fact 102 rfl), ok, E.glo 59 rfl, b, v⟩
theorem lib_eq (E : Hd K mg h) : ∃ fd, FnOk P w K mg base CX0 2 (ma K (ga K "Library") "__eq__") fd ["self", "other"] (spEq (RLib K (ga K "Library"))) ∧ PySem.W.findIn K (.ref (ga K "Library")) "__eq__" = some (some (.ref (ma K (ga K "Library") "__eq__"))) ∧ PySem.W.isFn K (.ref (ma K (ga K "Library") "__eq__")) = true ∧ Binds K fd ["self", "other"] [] := by
  obtain ⟨fd, F⟩ := E.met 64 (C := "Library") (m := "__eq__") (st := inClass (top 39) 23) rfl
  have m := meth_ok (E.fact 119 rfl)
  exact ⟨fd, ok_Library_eq F E.nm E.lb, m.at_, m.fn, F.binds (fun _ _ _ _ _ _ us hl => match us, hl with | [_, _], _ => rfl)⟩
theorem cal_number_of (E : Hd K mg h) : Cal P w K mg base CX0 1 "number_of" sp_number_of := by
  obtain ⟨fd, F⟩ := E.fn_ 10 (x := "number_of") (st := top 54) rfl
  have hm := E.glo 10 (x := "number_of") rfl
  have hb : Binds K fd ["word"] [] := F.binds (fun _ _ _ _ _ _ us hl => match us, hl with | [_], _ => rfl)
  exact cal_of (ok_number_of F E.nm) hm F.kp hb
theorem cal_is_scope (E : Hd K mg h) : Cal P w K mg base CX0 11 "is_scope" (sp_is_scope K) := by
  obtain ⟨fd, F⟩ := E.fn_ 11 (x := "is_scope") (st := top 47) rfl
  have hm := E.glo 11 (x := "is_scope") rfl
  have hb : Binds K fd ["value"] [] := F.binds (fun _ _ _ _ _ _ us hl => match us, hl with | [_], _ => rfl)
  exact cal_of (ok_is_scope F E.nm (cal_type_of_text E)) hm F.kp hb
theorem cal_is_question (E : Hd K mg h) : Cal P w K mg base CX0 12 "is_question" (sp_is_question K) := by
  obtain ⟨fd, F⟩ := E.fn_ 12 (x := "is_question") (st := top 48) rfl
  have hm := E.glo 12 (x := "is_question") rfl
  have hb : Binds K fd ["value"] [] := F.binds (fun _ _ _ _ _ _ us hl => match us, hl with | [_], _ => rfl)
  exact cal_of (ok_is_question F E.nm (cal_is_word E) (cal_is_scope E)) hm F.kp hb
theorem cal_question_text (E : Hd K mg h) : Cal P w K mg base CX0 1 "question_text" (sp_question_text K) := by
  obtain ⟨fd, F⟩ := E.fn_ 13 (x := "question_text") (st := top 56) rfl
  have hm := E.glo 13 (x := "question_text") rfl
  have hb : Binds K fd ["question"] [] := F.binds (fun _ _ _ _ _ _ us hl => match us, hl with | [_], _ => rfl)
  exact cal_of (ok_question_text F E.nm) hm F.kp hb
theorem cal_question_told (E : Hd K mg h) : Cal P w K mg base CX0 13 "question_told" (sp_question_told K) := by
  obtain ⟨fd, F⟩ := E.fn_ 14 (x := "question_told") (st := top 57) rfl
  have hm := E.glo 14 (x := "question_told") rfl
  have hb : Binds K fd ["text"] [] := F.binds (fun _ _ _ _ _ _ us hl => match us, hl with | [_], _ => rfl)
  exact cal_of (ok_question_told F E.nm (cal_is_question E)) hm F.kp hb
theorem cal_write_question (E : Hd K mg h) : Cal P w K mg base CX0 13 "write_question" (sp_question_text K) := by
  obtain ⟨fd, F⟩ := E.fn_ 15 (x := "write_question") (st := top 58) rfl
  have hm := E.glo 15 (x := "write_question") rfl
  have hb : Binds K fd ["question"] [] := F.binds (fun _ _ _ _ _ _ us hl => match us, hl with | [_], _ => rfl)
  exact cal_of (ok_write_question F E.nm (cal_is_question E) (cal_question_text E)) hm F.kp hb
theorem cal_read_question (E : Hd K mg h) : Cal P w K mg base (L2.CX P w) 14 "read_question" (sp_read_question K (ga K "ParseError")) := by
  obtain ⟨fd, F⟩ := E.fn_ 16 (x := "read_question") (st := top 59) rfl
  have hm := E.glo 16 (x := "read_question") rfl
  have hb : Binds K fd ["text"] [] := F.binds (fun _ _ _ _ _ _ us hl => match us, hl with | [_], _ => rfl)
  exact cal_of (ok_read_question F E.nm (pe_f E) (cal_question_told E)) hm F.kp hb
theorem cal_lines_of (E : Hd K mg h) : Cal P w K mg base CX0 1 "lines_of" sp_lines_of := by
  obtain ⟨fd, F⟩ := E.fn_ 17 (x := "lines_of") (st := top 55) rfl
  have hm := E.glo 17 (x := "lines_of") rfl
  have hb : Binds K fd ["text"] [] := F.binds (fun _ _ _ _ _ _ us hl => match us, hl with | [_], _ => rfl)
  exact cal_of (ok_lines_of F E.nm) hm F.kp hb
theorem cal_line_told (E : Hd K mg h) : Cal P w K mg base CX0 13 "line_told" (sp_part_of_line K (ga K "Type")) := by
  obtain ⟨fd, F⟩ := E.fn_ 18 (x := "line_told") (st := top 66) rfl
  have hm := E.glo 18 (x := "line_told") rfl
  have hb : Binds K fd ["line"] [] := F.binds (fun _ _ _ _ _ _ us hl => match us, hl with | [_], _ => rfl)
  exact cal_of (ok_line_told F (cal_part_of_line E)) hm F.kp hb
theorem cal_rank_told (E : Hd K mg h) : Cal P w K mg base CX0 14 "rank_told" (sp_rank_told K) := by
  obtain ⟨fd, F⟩ := E.fn_ 26 (x := "rank_told") (st := top 62) rfl
  have hm := E.glo 26 (x := "rank_told") rfl
  have hb : Binds K fd ["line"] [] := F.binds (fun _ _ _ _ _ _ us hl => match us, hl with | [_], _ => rfl)
  exact cal_of (ok_rank_told F E.nm (cal_number_of E) (cal_question_told E)) hm F.kp hb
theorem cal_pairs_parts (E : Hd K mg h) : Cal P w K mg base (L2.CX P w) 14 "pairs_told" (sp_pairs_parts K (ga K "Type") (ga K "ParseError") (ga K "line_told")) := by
  obtain ⟨fd, F⟩ := E.fn_ 19 (x := "pairs_told") (st := top 63) rfl
  obtain ⟨fd1, F1⟩ := E.fn_ 18 (x := "line_told") (st := top 66) rfl
  exact cal_of (ok_pairs_parts F E.nm (pe_f E) (cal_lines_of E) (ok_line_told F1 (cal_part_of_line E)) F1.kp (F1.binds (fun _ _ _ _ _ _ us hl => match us, hl with | [_], _ => rfl))) (E.glo 19 rfl) F.kp (F.binds (fun _ _ _ _ _ _ us hl => match us, hl with | [_, _], _ => rfl))
theorem cal_pairs_ranks (E : Hd K mg h) : Cal P w K mg base (L2.CX P w) 15 "pairs_told" (sp_pairs_ranks P w K (ga K "ParseError") (ga K "rank_told")) := by
  obtain ⟨fd, F⟩ := E.fn_ 19 (x := "pairs_told") (st := top 63) rfl
  obtain ⟨fd1, F1⟩ := E.fn_ 26 (x := "rank_told") (st := top 62) rfl
  exact cal_of (ok_pairs_ranks F E.nm (pe_f E) (cal_lines_of E) (ok_rank_told F1 E.nm (cal_number_of E) (cal_question_told E)) F1.kp (F1.binds (fun _ _ _ _ _ _ us hl => match us, hl with | [_], _ => rfl))) (E.glo 19 rfl) F.kp (F.binds (fun _ _ _ _ _ _ us hl => match us, hl with | [_, _], _ => rfl))
theorem cal_read_library (E : Hd K mg h) : Cal P w K mg base (L2.CX P w) 15 "read_library" (sp_read_library K (ga K "Library") (ga K "InvalidLibrary") (ga K "ParseError")) := by
  obtain ⟨fd, F⟩ := E.fn_ 20 (x := "read_library") (st := top 67) rfl
  have hm := E.glo 20 (x := "read_library") rfl
  have hb : Binds K fd ["text"] [] := F.binds (fun _ _ _ _ _ _ us hl => match us, hl with | [_], _ => rfl)
  exact cal_of (ok_read_library F E.g_line_told (cal_pairs_parts E) (mk_Library E)) hm F.kp hb
theorem cal_require_library (E : Hd K mg h) : Cal P w K mg base CX0 1 "require_library" (sp_require_library K (ga K "Library")) := by
  obtain ⟨fd, F⟩ := E.fn_ 21 (x := "require_library") (st := top 40) rfl
  have hm := E.glo 21 (x := "require_library") rfl
  have hb : Binds K fd ["value"] [] := F.binds (fun _ _ _ _ _ _ us hl => match us, hl with | [_], _ => rfl)
  exact cal_of (ok_require_library F E.nm E.lb) hm F.kp hb
theorem cal_write_library (E : Hd K mg h) : Cal P w K mg base CX0 2 "write_library" (sp_write_library K (ga K "Library")) := by
  obtain ⟨fd, F⟩ := E.fn_ 22 (x := "write_library") (st := top 65) rfl
  have hm := E.glo 22 (x := "write_library") rfl
  have hb : Binds K fd ["library"] [] := F.binds (fun _ _ _ _ _ _ us hl => match us, hl with | [_], _ => rfl)
  exact cal_of (ok_write_library F E.nm E.lb (cal_require_library E)) hm F.kp hb
theorem cal_is_integer (E : Hd K mg h) : Cal P w K mg base CX0 1 "is_integer" sp_is_integer := by
  obtain ⟨fd, F⟩ := E.fn_ 23 (x := "is_integer") (st := top 6) rfl
  have hm := E.glo 23 (x := "is_integer") rfl
  have hb : Binds K fd ["value"] [] := F.binds (fun _ _ _ _ _ _ us hl => match us, hl with | [_], _ => rfl)
  exact cal_of (ok_is_integer F E.nm) hm F.kp hb
theorem cal_is_rank_dict (E : Hd K mg h) : Cal P w K mg base CX0 13 "is_rank_dict" (sp_is_rank_dict P w K) := by
  obtain ⟨fd, F⟩ := E.fn_ 24 (x := "is_rank_dict") (st := top 60) rfl
  have hm := E.glo 24 (x := "is_rank_dict") rfl
  have hb : Binds K fd ["value"] [] := F.binds (fun _ _ _ _ _ _ us hl => match us, hl with | [_], _ => rfl)
  exact cal_of (ok_is_rank_dict F E.nm (cal_is_question E) (cal_is_integer E)) hm F.kp hb
theorem cal_write_ranks (E : Hd K mg h) : Cal P w K mg base CX0 14 "write_ranks" (sp_write_ranks P w K) := by
  obtain ⟨fd, F⟩ := E.fn_ 25 (x := "write_ranks") (st := top 61) rfl
  have hm := E.glo 25 (x := "write_ranks") rfl
  have hb : Binds K fd ["ranks"] [] := F.binds (fun _ _ _ _ _ _ us hl => match us, hl with | [_], _ => rfl)
  exact cal_of (ok_write_ranks F E.nm (cal_is_rank_dict E) (cal_question_text E)) hm F.kp hb
theorem cal_read_ranks (E : Hd K mg h) : Cal P w K mg base (L2.CX P w) 16 "read_ranks" (sp_read_ranks P w K (ga K "ParseError")) := by
  obtain ⟨fd, F⟩ := E.fn_ 27 (x := "read_ranks") (st := top 64) rfl
  have hm := E.glo 27 (x := "read_ranks") rfl
  have hb : Binds K fd ["text"] [] := F.binds (fun _ _ _ _ _ _ us hl => match us, hl with | [_], _ => rfl)
  exact cal_of (ok_read_ranks F E.g_rank_told (cal_pairs_ranks E)) hm F.kp hb
theorem cal__law_dice (E : Hd K mg h) : Cal P w K mg base CX0 1 "_law_dice" (sp_law_dice K) := by
  obtain ⟨fd, F⟩ := E.fn_ 28 (x := "_law_dice") (st := top 69) rfl
  have hm := E.glo 28 (x := "_law_dice") rfl
  have hb : Binds K fd ["_law_script", "_law_spot"] [] := F.binds (fun _ _ _ _ _ _ us hl => match us, hl with | [_, _], _ => rfl)
  exact cal_of (ok_law_dice F E.nm) hm F.kp hb
theorem cal__law_roll (E : Hd K mg h) : Cal P w K mg base CX0 1 "_law_roll" sp_law_roll := by
  obtain ⟨fd, F⟩ := E.fn_ 29 (x := "_law_roll") (st := top 70) rfl
  have hm := E.glo 29 (x := "_law_roll") rfl
  have hb : Binds K fd ["_law_dice_here", "_law_total"] [] := F.binds (fun _ _ _ _ _ _ us hl => match us, hl with | [_, _], _ => rfl)
  exact cal_of (ok_law_roll F E.nm) hm F.kp hb
theorem cal__law_pick (E : Hd K mg h) : Cal P w K mg base CX0 2 "_law_pick" (sp_law_pick K) := by
  obtain ⟨fd, F⟩ := E.fn_ 30 (x := "_law_pick") (st := top 71) rfl
  have hm := E.glo 30 (x := "_law_pick") rfl
  have hb : Binds K fd ["_law_dice_here", "_law_items"] [] := F.binds (fun _ _ _ _ _ _ us hl => match us, hl with | [_, _], _ => rfl)
  exact cal_of (ok_law_pick F E.nm (cal__law_roll E)) hm F.kp hb
theorem cal__law_some (E : Hd K mg h) : Cal P w K mg base CX0 2 "_law_some" (sp_law_some K) := by
  obtain ⟨fd, F⟩ := E.fn_ 31 (x := "_law_some") (st := top 72) rfl
  have hm := E.glo 31 (x := "_law_some") rfl
  have hb : Binds K fd ["_law_dice_here", "_law_items", "_law_size"] [] := F.binds (fun _ _ _ _ _ _ us hl => match us, hl with | [_, _, _], _ => rfl)
  exact cal_of (ok_law_some F E.nm (cal__law_roll E)) hm F.kp hb
theorem cal__law_bent (E : Hd K mg h) : Cal P w K mg base CX0 3 "_law_bent" sp_law_bent := by
  obtain ⟨fd, F⟩ := E.fn_ 51 (x := "_law_bent") (st := top 92) rfl
  have hm := E.glo 51 (x := "_law_bent") rfl
  have hb : Binds K fd ["_law_dice_here", "_law_text_here"] [] := F.binds (fun _ _ _ _ _ _ us hl => match us, hl with | [_, _], _ => rfl)
  exact cal_of (ok_law_bent F E.nm (cal__law_roll E) (cal__law_pick E)) hm F.kp hb
theorem cal__law_text (E : Hd K mg h) : Cal P w K mg base CX0 4 "_law_text" (sp_law_text K 3) := by
  obtain ⟨fd, F⟩ := E.fn_ 32 (x := "_law_text") (st := top 73) rfl
  have hm := E.glo 32 (x := "_law_text") rfl
  have hb : Binds K fd ["_law_kind_here"] [] := F.binds (fun _ _ _ _ _ _ us hl => match us, hl with | [_], _ => rfl)
  exact cal_of (ok_law_text F E.nm hm F.kp hb 3) hm F.kp hb
theorem cal_atoms (E : Hd K mg h) (n : Nat) : Cal P w K mg base CX0 (n + 1) "_law_atoms_of" (sp_law_atoms_of K n) := by
  obtain ⟨fd, F⟩ := E.fn_ 33 (x := "_law_atoms_of") (st := top 74) rfl
  have hm := E.glo 33 (x := "_law_atoms_of") rfl
  have hb : Binds K fd ["_law_kind_here"] [] := F.binds (fun _ _ _ _ _ _ us hl => match us, hl with | [_], _ => rfl)
  exact cal_of (ok_law_atoms_of F hm F.kp hb n) hm F.kp hb
theorem cal__law_kinds_under (E : Hd K mg h) : Cal P w K mg base CX0 4 "_law_kinds_under" (sp_law_kinds_under K 3) := by
  obtain ⟨fd, F⟩ := E.fn_ 42 (x := "_law_kinds_under") (st := top 83) rfl
  have hm := E.glo 42 (x := "_law_kinds_under") rfl
  have hb : Binds K fd ["_law_kind_here"] [] := F.binds (fun _ _ _ _ _ _ us hl => match us, hl with | [_], _ => rfl)
  exact cal_of (ok_law_kinds_under F hm F.kp hb 3) hm F.kp hb
theorem cal__law_made_kind (E : Hd K mg h) : Cal P w K mg base CX0 6 "_law_made_kind" (sp_law_made_kind K (ga K "Type") 3) := by
  obtain ⟨fd, F⟩ := E.fn_ 35 (x := "_law_made_kind") (st := top 76) rfl
  have hm := E.glo 35 (x := "_law_made_kind") rfl
  have hb : Binds K fd ["_law_kind_here"] [] := F.binds (fun _ _ _ _ _ _ us hl => match us, hl with | [_], _ => rfl)
  exact cal_of (ok_law_made_kind F E.nm E.ty hm F.kp hb (mk_Type E) 3) hm F.kp hb
theorem cal__law_kind (E : Hd K mg h) : Cal P w K mg base CX0 6 "_law_kind" (sp_law_kind K 3) := by
  obtain ⟨fd, F⟩ := E.fn_ 34 (x := "_law_kind") (st := top 75) rfl
  have hm := E.glo 34 (x := "_law_kind") rfl
  have hb : Binds K fd ["_law_dice_here", "_law_atoms", "_law_order", "_law_most"] [] := F.binds (fun _ _ _ _ _ _ us hl => match us, hl with | [_, _, _, _], _ => rfl)
  exact cal_of (ok_law_kind F E.nm hm F.kp hb (cal__law_roll E) (cal__law_pick E) (cal_atoms E) 3) hm F.kp hb
theorem cal__law_known_library (E : Hd K mg h) : Cal P w K mg base CX0 3 "_law_known_library" (sp_law_library K) := by
  obtain ⟨fd, F⟩ := E.fn_ 37 (x := "_law_known_library") (st := top 78) rfl
  have hm := E.glo 37 (x := "_law_known_library") rfl
  have hb : Binds K fd ["_law_dice_here"] [] := F.binds (fun _ _ _ _ _ _ us hl => match us, hl with | [_], _ => rfl)
  exact cal_of (ok_law_known_library F E.nm (cal__law_pick E)) hm F.kp hb
theorem cal__law_library (E : Hd K mg h) : Cal P w K mg base CX0 7 "_law_library" (sp_law_library K) := by
  obtain ⟨fd, F⟩ := E.fn_ 36 (x := "_law_library") (st := top 77) rfl
  have hm := E.glo 36 (x := "_law_library") rfl
  have hb : Binds K fd ["_law_dice_here"] [] := F.binds (fun _ _ _ _ _ _ us hl => match us, hl with | [_], _ => rfl)
  exact cal_of (ok_law_library F E.nm (cal__law_roll E) (cal__law_pick E) (cal__law_some E) (cal__law_kind E) (cal__law_known_library E)) hm F.kp hb
theorem cal__law_lines (E : Hd K mg h) : Cal P w K mg base CX0 5 "_law_lines" (sp_law_lines K) := by
  obtain ⟨fd, F⟩ := E.fn_ 38 (x := "_law_lines") (st := top 79) rfl
  have hm := E.glo 38 (x := "_law_lines") rfl
  have hb : Binds K fd ["_law_library_here"] [] := F.binds (fun _ _ _ _ _ _ us hl => match us, hl with | [_], _ => rfl)
  exact cal_of (ok_law_lines F E.nm (cal__law_text E)) hm F.kp hb
theorem cal__law_made (E : Hd K mg h) : Cal P w K mg base CX0 7 "_law_made" (sp_law_made K (ga K "Library")) := by
  obtain ⟨fd, F⟩ := E.fn_ 39 (x := "_law_made") (st := top 80) rfl
  have hm := E.glo 39 (x := "_law_made") rfl
  have hb : Binds K fd ["_law_library_here"] [] := F.binds (fun _ _ _ _ _ _ us hl => match us, hl with | [_], _ => rfl)
  exact cal_of (ok_law_made F E.nm (cal__law_made_kind E) (mk_Library E)) hm F.kp hb
theorem cal__law_library_atoms (E : Hd K mg h) : Cal P w K mg base CX0 5 "_law_library_atoms" (sp_law_library_atoms K) := by
  obtain ⟨fd, F⟩ := E.fn_ 40 (x := "_law_library_atoms") (st := top 81) rfl
  have hm := E.glo 40 (x := "_law_library_atoms") rfl
  have hb : Binds K fd ["_law_library_here"] [] := F.binds (fun _ _ _ _ _ _ us hl => match us, hl with | [_], _ => rfl)
  exact cal_of (ok_law_library_atoms F E.nm (cal_atoms E 3)) hm F.kp hb
theorem cal__law_goal (E : Hd K mg h) : Cal P w K mg base CX0 7 "_law_goal" (sp_law_goal K) := by
  obtain ⟨fd, F⟩ := E.fn_ 41 (x := "_law_goal") (st := top 82) rfl
  have hm := E.glo 41 (x := "_law_goal") rfl
  have hb : Binds K fd ["_law_dice_here", "_law_library_here"] [] := F.binds (fun _ _ _ _ _ _ us hl => match us, hl with | [_, _], _ => rfl)
  exact cal_of (ok_law_goal F E.nm (cal__law_library_atoms E) (cal__law_pick E) (cal__law_kind E)) hm F.kp hb
theorem cal__law_kind_dict (E : Hd K mg h) : Cal P w K mg base CX0 5 "_law_kind_dict" (sp_law_kind_dict K) := by
  obtain ⟨fd, F⟩ := E.fn_ 43 (x := "_law_kind_dict") (st := top 84) rfl
  have hm := E.glo 43 (x := "_law_kind_dict") rfl
  have hb : Binds K fd ["_law_library_here", "_law_goal_here"] [] := F.binds (fun _ _ _ _ _ _ us hl => match us, hl with | [_, _], _ => rfl)
  exact cal_of (ok_law_kind_dict F E.nm (cal__law_kinds_under E) (cal__law_text E)) hm F.kp hb
theorem cal__law_question (E : Hd K mg h) : Cal P w K mg base CX0 5 "_law_question" (sp_law_question K) := by
  obtain ⟨fd, F⟩ := E.fn_ 44 (x := "_law_question") (st := top 85) rfl
  have hm := E.glo 44 (x := "_law_question") rfl
  have hb : Binds K fd ["_law_scope", "_law_kind_here"] [] := F.binds (fun _ _ _ _ _ _ us hl => match us, hl with | [_, _], _ => rfl)
  exact cal_of (ok_law_question F E.nm (cal__law_text E)) hm F.kp hb
theorem cal__law_first (E : Hd K mg h) : Cal P w K mg base CX0 6 "_law_first" (sp_law_first K) := by
  obtain ⟨fd, F⟩ := E.fn_ 45 (x := "_law_first") (st := top 86) rfl
  have hm := E.glo 45 (x := "_law_first") rfl
  have hb : Binds K fd ["_law_library_here", "_law_goal_here"] [] := F.binds (fun _ _ _ _ _ _ us hl => match us, hl with | [_, _], _ => rfl)
  exact cal_of (ok_law_first F E.nm (cal__law_text E) (cal__law_question E)) hm F.kp hb
theorem cal__law_subs (E : Hd K mg h) : Cal P w K mg base CX0 6 "_law_subs" (sp_law_subs K) := by
  obtain ⟨fd, F⟩ := E.fn_ 46 (x := "_law_subs") (st := top 87) rfl
  have hm := E.glo 46 (x := "_law_subs") rfl
  have hb : Binds K fd ["_law_kinds", "_law_question_here", "_law_head"] [] := F.binds (fun _ _ _ _ _ _ us hl => match us, hl with | [_, _, _], _ => rfl)
  exact cal_of (ok_law_subs F E.nm (cal__law_question E)) hm F.kp hb
theorem cal__law_asked (E : Hd K mg h) : Cal P w K mg base CX0 7 "_law_asked" (sp_law_asked P w K) := by
  obtain ⟨fd, F⟩ := E.fn_ 47 (x := "_law_asked") (st := top 88) rfl
  have hm := E.glo 47 (x := "_law_asked") rfl
  have hb : Binds K fd ["_law_kinds", "_law_first_here"] [] := F.binds (fun _ _ _ _ _ _ us hl => match us, hl with | [_, _], _ => rfl)
  exact cal_of (ok_law_asked F E.nm (cal__law_subs E)) hm F.kp hb
theorem cal__law_ranks (E : Hd K mg h) : Cal P w K mg base CX0 1 "_law_ranks" (sp_law_ranks P w K) := by
  obtain ⟨fd, F⟩ := E.fn_ 48 (x := "_law_ranks") (st := top 89) rfl
  have hm := E.glo 48 (x := "_law_ranks") rfl
  have hb : Binds K fd ["_law_asked_here"] [] := F.binds (fun _ _ _ _ _ _ us hl => match us, hl with | [_], _ => rfl)
  exact cal_of (ok_law_ranks F E.nm) hm F.kp hb
theorem cal__law_view (E : Hd K mg h) : Cal P w K mg base CX0 8 "_law_view" (sp_law_view P w K) := by
  obtain ⟨fd, F⟩ := E.fn_ 49 (x := "_law_view") (st := top 90) rfl
  have hm := E.glo 49 (x := "_law_view") rfl
  have hb : Binds K fd ["_law_library_here", "_law_goal_here"] [] := F.binds (fun _ _ _ _ _ _ us hl => match us, hl with | [_, _], _ => rfl)
  exact cal_of (ok_law_view F E.nm (cal__law_kind_dict E) (cal__law_first E) (cal__law_asked E) (cal__law_ranks E)) hm F.kp hb
theorem cal__law_question_line (E : Hd K mg h) : Cal P w K mg base CX0 1 "_law_question_line" (sp_question_text K) := by
  obtain ⟨fd, F⟩ := E.fn_ 50 (x := "_law_question_line") (st := top 91) rfl
  have hm := E.glo 50 (x := "_law_question_line") rfl
  have hb : Binds K fd ["_law_question_here"] [] := F.binds (fun _ _ _ _ _ _ us hl => match us, hl with | [_], _ => rfl)
  exact cal_of (ok_law_question_line F E.nm) hm F.kp hb
end
end Fp
/-! H3: the defs that hold lambdas; the law -/
namespace Fp
open PySem PySem.Spec PyProof.Rows L2 He He5
section
variable {P : Program} {w : World} {K : PySem.W.Frag} {mg : Str → Option Value} {base h : Heap}
theorem funL_of {x qual : Str} {st : Stmt} {f : Addr} {fd : FuncData} (F : Fun K x qual st f fd) : ∃ c, fd.code = .ref c ∧ FunL K x qual st f fd c := by
  obtain ⟨oc, od, kV, doc, pm, an, cdv, ct, osl, e, l, hc⟩ := F.ex
  obtain ⟨c, rfl⟩ := codeIn_ref hc
  exact ⟨c, by rw [e], ⟨oc, od, kV, doc, pm, an, ct, osl, e, l, hc⟩⟩
theorem Hd.fnL (E : Hd K mg h) (i : Nat) {x : Str} {st : Stmt} (hh : fn[i]? = some (dG x st)) : ∃ fd, Fun K x x st (ga K x) fd ∧ FunL K x x st (ga K x) fd (cT K (x, none)).1 := by
  obtain ⟨fd, F⟩ := E.fn_ i hh
  obtain ⟨c, e, L⟩ := funL_of F
  obtain ⟨oc, od, kV, doc, pm, an, ct, osl, e1, lk, hc⟩ := L.ex
  have q : codeOf K (x, none) = c := codeOf_eq lk e
  have q2 : (cT K (x, none)).1 = c := q
  rw [q2]
  exact ⟨fd, F, L⟩
/-- the tables and the names they hold -/
def Tl (K : PySem.W.Frag) : List (Addr × Str) := [((cT K ("_law_near_right", none)).2, qL "_law_near_right"), ((cT K ("_law_is_first", none)).2, qL "_law_is_first"), ((cT K ("law", none)).2, qL "law")]
abbrev TBs (K : PySem.W.Frag) (base : Heap) (mg : Str → Option Value) : Prop := ∀ p ∈ tf.map (cT K), LamX.TabB base mg p.1 p.2
theorem Hd.d12 (E : Hd K mg h) : (cT K ("_law_near_right", none)).2 ≠ (cT K ("_law_is_first", none)).2 := of_decide_eq_true (E.ex (b := decide ((cT K ("_law_near_right", none)).2 ≠ (cT K ("_law_is_first", none)).2)) (by simp [exL]))
theorem Hd.d13 (E : Hd K mg h) : (cT K ("_law_near_right", none)).2 ≠ (cT K ("law", none)).2 := of_decide_eq_true (E.ex (b := decide ((cT K ("_law_near_right", none)).2 ≠ (cT K ("law", none)).2)) (by simp [exL]))
theorem Hd.d23 (E : Hd K mg h) : (cT K ("_law_is_first", none)).2 ≠ (cT K ("law", none)).2 := of_decide_eq_true (E.ex (b := decide ((cT K ("_law_is_first", none)).2 ≠ (cT K ("law", none)).2)) (by simp [exL]))
theorem Hd.tb1 (E : Hd K mg h) (B : TBs K base mg) : TbL base mg (Tl K) (cT K ("_law_near_right", none)).1 (cT K ("_law_near_right", none)).2 (qL "_law_near_right") := by
  refine ⟨B _ (List.mem_map_of_mem (by simp [tf])), by simp [Tl], fun p hp e => ?_⟩
  rcases List.mem_cons.mp hp with rfl | hp
  · rfl
  rcases List.mem_cons.mp hp with rfl | hp
  · exact (E.d12 e.symm).elim
  rcases List.mem_cons.mp hp with rfl | hp
  · exact (E.d13 e.symm).elim
  cases hp
theorem Hd.tb2 (E : Hd K mg h) (B : TBs K base mg) : TbL base mg (Tl K) (cT K ("_law_is_first", none)).1 (cT K ("_law_is_first", none)).2 (qL "_law_is_first") := by
  refine ⟨B _ (List.mem_map_of_mem (by simp [tf])), by simp [Tl], fun p hp e => ?_⟩
  rcases List.mem_cons.mp hp with rfl | hp
  · exact (E.d12 e).elim
  rcases List.mem_cons.mp hp with rfl | hp
  · rfl
  rcases List.mem_cons.mp hp with rfl | hp
  · exact (E.d23 e.symm).elim
  cases hp
theorem Hd.tb3 (E : Hd K mg h) (B : TBs K base mg) : TbL base mg (Tl K) (cT K ("law", none)).1 (cT K ("law", none)).2 (qL "law") := by
  refine ⟨B _ (List.mem_map_of_mem (by simp [tf])), by simp [Tl], fun p hp e => ?_⟩
  rcases List.mem_cons.mp hp with rfl | hp
  · exact (E.d13 e).elim
  rcases List.mem_cons.mp hp with rfl | hp
  · exact (E.d23 e).elim
  rcases List.mem_cons.mp hp with rfl | hp
  · rfl
  cases hp
theorem cal__law_is_first (E : Hd K mg h) (B : TBs K base mg) : Cal P w K mg base CX0 19 "_law_is_first" (sp_law_is_first K (Tl K)) := by
  obtain ⟨fd, F0, F⟩ := E.fnL 54 (x := "_law_is_first") (st := top 95) rfl
  have hm := E.glo 54 (x := "_law_is_first") rfl
  have hb : Binds K fd ["_law_told", "_law_lines_here", "_law_is_library"] [] := F0.binds (fun _ _ _ _ _ _ us hl => match us, hl with | [_, _, _], _ => rfl)
  exact cal_of (ok_law_is_first F E.nm E.got E.gotD (E.tb2 B) (cal_read_library E) (cal_read_ranks E)) hm F0.kp hb
theorem cal__law_near_right (E : Hd K mg h) (B : TBs K base mg) : Cal P w K mg base CX0 20 "_law_near_right" (sp_law_near_right (Tl K)) := by
  obtain ⟨fd, F0, F⟩ := E.fnL 53 (x := "_law_near_right") (st := top 94) rfl
  have hm := E.glo 53 (x := "_law_near_right") rfl
  have hb : Binds K fd ["_law_question_here", "_law_ranks_here", "_law_lines_here"] [] := F0.binds (fun _ _ _ _ _ _ us hl => match us, hl with | [_, _, _], _ => rfl)
  exact cal_of (ok_law_near_right F E.nm E.got E.gotD (E.tb1 B) (cal_read_question E) (cal_read_library E) (cal_read_ranks E) (cal_write_question E) (cal_write_ranks E) (cal_write_library E) (cal__law_is_first E B)) hm F0.kp hb
theorem cal__law_right (E : Hd K mg h) (B : TBs K base mg) : Cal P w K mg base CX0 21 "_law_right" (sp_law_right (Tl K)) := by
  obtain ⟨fd, F⟩ := E.fn_ 55 (x := "_law_right") (st := top 96) rfl
  have hm := E.glo 55 (x := "_law_right") rfl
  have hb : Binds K fd ["_law_dice_here"] [] := F.binds (fun _ _ _ _ _ _ us hl => match us, hl with | [_], _ => rfl)
  obtain ⟨fde, FE, hse, hfe, hbe⟩ := lib_eq (P := P) (w := w) (base := base) E
  exact cal_of (ok_law_right F E.nm E.lb FE hse hfe hbe (cal_read_question E) (cal_read_library E) (cal_read_ranks E) (cal_write_question E) (cal_write_ranks E) (cal_write_library E) (cal__law_library E) (cal__law_goal E) (cal__law_view E) (cal__law_some E) (cal__law_roll E) (cal__law_pick E) (cal__law_bent E) (cal__law_question_line E) (cal__law_lines E) (cal__law_made E) (cal__law_near_right E B)) hm F.kp hb
theorem law_facts {f : Addr} (E : Hd K mg h) (hfa : mg ("law" : Str) = some (.ref f)) : ∃ fd : FuncData, (∀ (s : Shared) (v : Value), BindsTo s fd ⟨[v], []⟩ [("_law_script", v)]) ∧ ∀ base : Heap, TBs K base mg → FnOk P w K mg base CX0 22 f fd ["_law_script"] (sp_law K (Tl K)) := by
  have hm := E.glo 56 (x := "law") rfl
  have e := hfa.symm.trans hm
  cases e
  obtain ⟨fd, F0, F⟩ := E.fnL 56 (x := "law") (st := top 97) rfl
  have b : ∀ (s : Shared) (us : List Value), us.length = 1 → BindsTo s fd ⟨us, []⟩ ((["_law_script"] : List Str).zip us) := fun s us hl => by
    obtain ⟨oc, od, kV, doc, pm, an, cdv, ct, osl, e, l, hc⟩ := F0.ex
    rw [e]
    exact .of_eq (match us, hl with | [_], _ => rfl)
  refine ⟨fd, fun s v => b s [v] rfl, fun base B => ?_⟩
  obtain ⟨fde, FE, hse, hfe, hbe⟩ := lib_eq (P := P) (w := w) (base := base) E
  exact ok_law F E.nm E.lb E.got E.gotD (E.tb3 B) FE hse hfe hbe (mk_Library0 E) (cal_read_question E) (cal_read_library E) (cal_read_ranks E) (cal_write_ranks E) (cal_write_library E) (cal__law_dice E) (cal__law_right E B)
end
theorem lawAt {l : PySem.W.OpenLaw} {w : World} {K : PySem.W.Frag} {mg : Str → Option Value} {f : Addr} {h : Heap} (E : Hd K mg h) (hfa : mg ("law" : Str) = some (.ref f)) : LamX.LawAtS l w K CX0 22 63 "_law_script" mg f h := by
  obtain ⟨fd, hb, hF⟩ := law_facts (P := l.prog) (w := w) E hfa
  refine ⟨fd, tf.map (cT K), sp_law K (Tl K), fun p hp => ?_, fun p hp => ?_, fun p hp => ?_, hb, fun H a ns hl _ hH hS => ⟨a, ns, rfl, hS, hl, fun p hp => ?_, fun _ => rfl⟩, fun base _ _ B => hF base B⟩
  · obtain ⟨q, hq, rfl⟩ := List.mem_map.mp hp
    exact E.c.empty q hq
  · obtain ⟨q, hq, rfl⟩ := List.mem_map.mp hp
    exact E.c.out q hq
  · obtain ⟨q, hq, rfl⟩ := List.mem_map.mp hp
    exact PySem.W.codeHd_of_K E.X (E.c.hd q hq)
  · apply LamX.TabS.nil
    rcases List.mem_cons.mp hp with rfl | hp
    · exact hH (cT K ("_law_near_right", none)) (List.mem_map_of_mem (by simp [tf]))
    rcases List.mem_cons.mp hp with rfl | hp
    · exact hH (cT K ("_law_is_first", none)) (List.mem_map_of_mem (by simp [tf]))
    rcases List.mem_cons.mp hp with rfl | hp
    · exact hH (cT K ("law", none)) (List.mem_map_of_mem (by simp [tf]))
    cases hp
end Fp
set_option maxHeartbeats 0
/-! H4: the law holds -/
open PySem PySem.W PySem.Calls PyProof.Rows
theorem PySem.Challenge.cw_fromparts_k75_whole_questions_ranks_and_holds : PySem.Challenge.rw_fromparts_k75_whole_questions_ranks_and.Holds := by
  w_on; o_law
  refine HandSHeadRun.head_any (r := OpenLaw.row PySem.Challenge.rw_fromparts_k75_whole_questions_ranks_and) (q := HdR.qv) (H := HdR.hk) (ob := HdR.ob) (M := 12000) (loose := HdR.names) (d := HandSHeadRun.topDef (OpenLaw.row PySem.Challenge.rw_fromparts_k75_whole_questions_ranks_and).prog 97) (kwd := []) HdR.ob_eq
    (by kernel_rfl) (fun s => by kernel_rfl) HdR.run (by kernel_rfl) (by kernel_rfl) (by kernel_rfl) (by rfl) (by first | assumption | decide +kernel) (by decide +kernel) ⟨rfl, rfl, rfl, rfl, rfl, by decide +kernel⟩ ?hw ?hc
  case hw => w_witness2
  case hc =>
    refine LamX.walk_ofTsE (l := PySem.Challenge.rw_fromparts_k75_whole_questions_ranks_and) (n := 63) (k := 22) (x := "_law_script") (CX := fun _ => L2.CX0) rfl (by decide) (by kernel_rfl) ⟨rfl, by decide, by decide⟩ ?F (fun _ _ _ _ _ z => z)
    intro w mg fa h Y G hmg0
    obtain ⟨K, KX, c⟩ := Y
    have hmg : mg ("law" : PySem.Str) = some (.ref fa) := by
      have e : (HandSHeadRun.topDef (OpenLaw.row PySem.Challenge.rw_fromparts_k75_whole_questions_ranks_and).prog 97).name = ("law" : PySem.Str) := by kernel_rfl
      rw [← e]
      exact hmg0
    exact ⟨K, KX, Fp.lawAt ⟨KX, G, c⟩ hmg⟩
