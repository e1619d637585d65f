import PyProof.Rows.All
import Wide.All
import OpenK.AllK
import Wide.FinOn
import HandS.Text
import HandS.ForMost
import HandS.StrMore
import HandS.TupAny
import HandS.Property
import HandS.Defaults
import HandS.MakeKwOnly
import HandS.Steps
import HandS.Walk
import HandS.Evl
import PySem.Challenge.RW_reactivesynth_k62_whole_recovery
set_option Elab.async false
set_option linter.all false
set_option maxRecDepth 100000
set_option maxHeartbeats 8000000
/-! The plain law: what a journal's text is, how it is cut and read back. No program here. -/
namespace KJ
open PySem TL

/-! ### texts as lists of codes -/
def mkS (l : List Nat) : Str := ⟨l.toArray⟩
theorem tl_mkS (l : List Nat) : tl (mkS l) = l := rfl
theorem mkS_inj {l m : List Nat} (h : mkS l = mkS m) : l = m := by
  have := congrArg tl h
  rwa [tl_mkS, tl_mkS] at this
theorem eq_mkS {x : Str} {l : List Nat} (h : tl x = l) : x = mkS l := ext_tl h
/-- lines, each with a line feed behind it -/
def glue : List (List Nat) → List Nat
  | [] => []
  | l :: r => l ++ (10 :: glue r)
theorem glue_append : ∀ a b, glue (a ++ b) = glue a ++ glue b
  | [], _ => rfl
  | l :: r, b => by
    show l ++ (10 :: glue (r ++ b)) = (l ++ (10 :: glue r)) ++ glue b
    rw [glue_append r b, List.append_assoc, List.cons_append]
theorem glue_end : ∀ ls : List (List Nat), ls = [] ∨ ∃ k, glue ls = k ++ [10]
  | [] => .inl rfl
  | l :: r => .inr (by
    rcases glue_end r with h | ⟨k, h⟩
    · subst h
      exact ⟨l, rfl⟩
    · refine ⟨l ++ (10 :: k), ?_⟩
      show l ++ (10 :: glue r) = _
      rw [h, List.append_assoc, List.cons_append])
theorem glue_ne {ls : List (List Nat)} (h : ls ≠ []) : glue ls ≠ [] := by
  rcases glue_end ls with h' | ⟨k, h'⟩
  · exact absurd h' h
  · rw [h']
    simp

/-! ### counting, splitting, the last place -/
theorem partsFrom_len (x : Str) (k : Nat) : ∀ (cuts : List Nat) (a : Nat), (PySem.StrLaws.partsFrom x k a cuts).length = cuts.length + 1
  | [], _ => rfl
  | c :: r, a => by
    show (PySem.StrLaws.partsFrom x k (c + k) r).length + 1 = r.length + 1 + 1
    rw [partsFrom_len x k r]
theorem count_spl (x y : Str) (hy : tl y ≠ []) : Txt.count x y = ((spl (tl y) 0 [] (tl x)).length : Int) - 1 := by
  obtain ⟨f, g, hn⟩ := PySem.StrLaws.occ_tight x y (len1 hy)
  have key := parts_spl hy _ 0 f (Nat.zero_le _) g hn
  rw [List.drop_zero] at key
  rw [← key, List.length_map, partsFrom_len]
  unfold Txt.count
  omega
theorem spl_free {s : Nat} {S : List Nat} : ∀ (p acc rest : List Nat), s ∉ p → spl (s :: S) 0 acc (p ++ rest) = spl (s :: S) 0 (acc ++ p) rest
  | [], acc, rest, _ => by rw [List.append_nil, List.nil_append]
  | c :: p, acc, rest, h => by
    have hc : c ≠ s := fun e => h (by rw [e]; exact List.mem_cons_self ..)
    rw [List.cons_append, spl_miss (pre_of_head S _ hc), spl_free p _ rest fun m => h (List.mem_cons_of_mem _ m), List.append_assoc]
    rfl
theorem spl_glue : ∀ (ls : List (List Nat)) (j : List Nat), (∀ l ∈ ls, 10 ∉ l) → 10 ∉ j → spl [10] 0 [] (glue ls ++ j) = ls ++ [j]
  | [], j, _, hj => by
    show spl [10] 0 [] j = [j]
    rw [spl_last1 hj, List.nil_append]
  | l :: r, j, h, hj => by
    show spl [10] 0 [] ((l ++ (10 :: glue r)) ++ j) = l :: (r ++ [j])
    rw [List.append_assoc]
    show spl [10] 0 [] (l ++ ([10] ++ (glue r ++ j))) = _
    rw [spl_part1 (h l (List.mem_cons_self ..)), List.nil_append, spl_glue r j (fun m hm => h m (List.mem_cons_of_mem _ hm)) hj]
theorem pre_nl {l : List Nat} : pre [10] l = true ↔ l.head? = some 10 := by
  cases l with
  | nil => simp [pre]
  | cons c r => simp [pre]
theorem rfind_nl {x y : Str} {k j : List Nat} (ey : tl y = [10]) (ex : tl x = k ++ j) (hk : k = [] ∨ ∃ k', k = k' ++ [10]) (hj : 10 ∉ j) : Txt.rfind x y = (k.length : Int) - 1 := by
  have hy : tl y ≠ [] := by rw [ey]; simp
  have noj : ∀ i, k.length ≤ i → ¬ PySem.StrLaws.At x y x.length i := fun i hi hA => by
    have h := (at_iff hy i).mp hA
    rw [ey, ex, pre_nl, List.head?_drop, List.getElem?_append_right hi] at h
    exact hj (List.mem_of_getElem? h)
  unfold Txt.rfind
  rcases PySem.StrLaws.last_spec x y with ⟨h, hn⟩ | ⟨i, h, hA, hl⟩
  · rw [h]
    rcases hk with e | ⟨k', e⟩
    · subst e
      rfl
    · refine absurd ((at_iff hy k'.length).mpr ?_) (hn _)
      rw [ey, ex, e, pre_nl, List.head?_drop, List.append_assoc, List.getElem?_append_right (Nat.le_refl _), Nat.sub_self]
      rfl
  · rw [h]
    have hi : i < k.length := by
      rcases Nat.lt_or_ge i k.length with q | q
      · exact q
      · exact absurd hA (noj i q)
    rcases hk with e | ⟨k', e⟩
    · subst e
      exact absurd hi (Nat.not_lt_zero _)
    · have hA' : PySem.StrLaws.At x y x.length k'.length := by
        refine (at_iff hy k'.length).mpr ?_
        rw [ey, ex, e, pre_nl, List.head?_drop, List.append_assoc, List.getElem?_append_right (Nat.le_refl _), Nat.sub_self]
        rfl
      have h1 : k.length = k'.length + 1 := by rw [e]; simp
      have h2 : ¬ i < k'.length := fun q => hl _ q hA'
      show (i : Int) = _
      omega
/-- a beginning of lines: whole lines, and a piece without a line feed -/
theorem cut_lines : ∀ (ls : List (List Nat)) (m : Nat), (∀ l ∈ ls, 10 ∉ l) → ∃ r j, r ≤ ls.length ∧ (glue ls).take m = glue (ls.take r) ++ j ∧ 10 ∉ j
  | [], m, _ => ⟨0, [], Nat.le_refl _, by show ([] : List Nat).take m = []; exact List.take_nil, by simp⟩
  | l :: r, m, h => by
    have hl := h l (List.mem_cons_self ..)
    by_cases hm : m ≤ l.length
    · refine ⟨0, l.take m, Nat.zero_le _, ?_, fun q => hl (List.mem_of_mem_take q)⟩
      show (l ++ (10 :: glue r)).take m = [] ++ l.take m
      rw [List.nil_append, List.take_append_of_le_length hm]
    · obtain ⟨r', j, h1, h2, h3⟩ := cut_lines r (m - l.length - 1) fun q hq => h q (List.mem_cons_of_mem _ hq)
      refine ⟨r' + 1, j, Nat.succ_le_succ h1, ?_, h3⟩
      show (l ++ (10 :: glue r)).take m = (l ++ (10 :: glue (r.take r'))) ++ j
      have e : m = l.length + ((m - l.length - 1) + 1) := by omega
      rw [e, List.take_length_add_append, List.take_succ_cons, h2, List.append_assoc, List.cons_append]
/-! ### digits -/
abbrev num (n : Nat) : Str := Str.ofString (toString ((n : Nat) : Int))
theorem num_len {n : Nat} (h : n < 100) : (numL n).length ≤ 2 := numL_len (k := 2) (by decide) h
theorem no10 (n : Nat) : 10 ∉ numL n := numL_free (by omega)
theorem no104 (n : Nat) : 104 ∉ numL n := numL_free (by omega)
theorem eq_num {x : Str} {n : Nat} (h : tl x = numL n) : x = num n := ext_tl (h.trans (tl_num n).symm)
theorem int_back {x : Str} {n : Nat} (h : tl x = numL n) (hn : n < 100) : intText? x = some (n : Int) := by
  rw [eq_num h]
  exact int_num (Nat.le_trans (num_len hn) (by decide))
theorem num_head : ∀ n : Nat, n < 100 → (numL n)[0]? = some 48 → (numL n).length ≤ 1 := by decide +kernel
def digs : List Nat := [48, 49, 50, 51, 52, 53, 54, 55, 56, 57]
theorem mem_digs {n c : Nat} (h : c ∈ numL n) : c ∈ digs := by
  have r := numL_digits n c h
  unfold digs
  have : c = 48 ∨ c = 49 ∨ c = 50 ∨ c = 51 ∨ c = 52 ∨ c = 53 ∨ c = 54 ∨ c = 55 ∨ c = 56 ∨ c = 57 := by omega
  simp only [List.mem_cons, List.not_mem_nil, or_false]
  exact this

/-! ### the lines of a journal -/
def cJ : List Nat := [106, 111, 117, 114, 110, 97, 108, 32]
def cH : List Nat := [104, 101, 97, 114, 100, 32]
def cS : List Nat := [115, 116, 97, 116, 101, 32]
theorem tl_J : tl (Str.ofString "journal ") = cJ := by decide +kernel
theorem tl_H : tl (Str.ofString "heard ") = cH := by decide +kernel
theorem tl_S : tl (Str.ofString "state ") = cS := by decide +kernel
theorem tl_N : tl (Str.ofString "\n") = [10] := by decide +kernel
theorem tl_B : tl (Str.ofString " ") = [32] := by decide +kernel
theorem tl_0 : tl (Str.ofString "") = [] := by decide +kernel
/-- a line behind the first: a letter heard; a state -/
inductive Ln where
  | h (a : Nat)
  | s (k st : Nat)
def Ln.code : Ln → List Nat
  | .h a => cH ++ numL a
  | .s k st => cS ++ (numL k ++ (32 :: numL st))
def hdl (sp : Nat) : List Nat := cJ ++ numL sp
theorem hdl10 (sp : Nat) : 10 ∉ hdl sp := fun m => by
  rcases List.mem_append.mp m with m | m
  · exact absurd m (by decide)
  · exact no10 _ m
theorem code10 : ∀ l : Ln, 10 ∉ l.code
  | .h a => fun m => by
    rcases List.mem_append.mp m with m | m
    · exact absurd m (by decide)
    · exact no10 _ m
  | .s k st => fun m => by
    rcases List.mem_append.mp m with m | m
    · exact absurd m (by decide)
    · rcases List.mem_append.mp m with m | m
      · exact no10 _ m
      · rcases List.mem_cons.mp m with m | m
        · exact absurd m (by decide)
        · exact no10 _ m
def heardOf : List Ln → List Nat
  | [] => []
  | .h a :: r => a :: heardOf r
  | .s _ _ :: r => heardOf r
theorem heardOf_append : ∀ a b, heardOf (a ++ b) = heardOf a ++ heardOf b
  | [], _ => rfl
  | .h a :: r, b => by
    show a :: heardOf (r ++ b) = a :: (heardOf r ++ heardOf b)
    rw [heardOf_append r b]
  | .s _ _ :: r, b => heardOf_append r b
/-- "heard " stands in whole lines as often as a letter was heard -/
theorem count_lines : ∀ (L : List Ln) (acc : List Nat), (spl cH 0 acc (glue (L.map Ln.code))).length = (heardOf L).length + 1
  | [], acc => by
    show (spl cH 0 acc []).length = 1
    rw [spl_nil]
    rfl
  | .h a :: r, acc => by
    show (spl cH 0 acc ((cH ++ numL a) ++ (10 :: glue (r.map Ln.code)))).length = (heardOf r).length + 1 + 1
    have e : (cH ++ numL a) ++ (10 :: glue (r.map Ln.code)) = [] ++ (cH ++ ((numL a ++ [10]) ++ glue (r.map Ln.code))) := by simp
    rw [e]
    show (spl (104 :: [101, 97, 114, 100, 32]) 0 acc ([] ++ (104 :: [101, 97, 114, 100, 32] ++ ((numL a ++ [10]) ++ glue (r.map Ln.code))))).length = _
    rw [spl_part1 (by simp), spl_free _ _ _ (fun m => by
      rcases List.mem_append.mp m with m | m
      · exact no104 _ m
      · exact absurd m (by decide)), List.length_cons]
    show (spl cH 0 _ (glue (r.map Ln.code))).length + 1 = _
    rw [count_lines r]
  | .s k st :: r, acc => by
    show (spl cH 0 acc ((cS ++ (numL k ++ (32 :: numL st))) ++ (10 :: glue (r.map Ln.code)))).length = (heardOf r).length + 1
    have e : (cS ++ (numL k ++ (32 :: numL st))) ++ (10 :: glue (r.map Ln.code)) = (cS ++ (numL k ++ (32 :: (numL st ++ [10])))) ++ glue (r.map Ln.code) := by simp
    rw [e]
    show (spl (104 :: [101, 97, 114, 100, 32]) 0 acc _).length = _
    rw [spl_free _ _ _ (fun m => by
      rcases List.mem_append.mp m with m | m
      · exact absurd m (by decide)
      · rcases List.mem_append.mp m with m | m
        · exact no104 _ m
        · rcases List.mem_cons.mp m with m | m
          · exact absurd m (by decide)
          · rcases List.mem_append.mp m with m | m
            · exact no104 _ m
            · exact absurd m (by decide))]
    exact count_lines r _
/-- the same behind the first line -/
theorem count_text (sp : Nat) (L : List Ln) : (spl cH 0 [] (glue (hdl sp :: L.map Ln.code))).length = (heardOf L).length + 1 := by
  have e : glue (hdl sp :: L.map Ln.code) = (hdl sp ++ [10]) ++ glue (L.map Ln.code) := by
    show hdl sp ++ (10 :: glue (L.map Ln.code)) = _
    simp
  rw [e]
  show (spl (104 :: [101, 97, 114, 100, 32]) 0 [] _).length = _
  rw [spl_free _ _ _ (fun m => by
    rcases List.mem_append.mp m with m | m
    · rcases List.mem_append.mp m with m | m
      · exact absurd m (by decide)
      · exact no104 _ m
    · exact absurd m (by decide))]
  exact count_lines L _

/-! ### machines and journals -/
structure Mc where
  inputs : Nat
  outputs : Nat
  lead : Int
  opening : List Nat
  rows : List (List (Nat × Nat))
structure Mc.Ok (M : Mc) : Prop where
  i1 : 1 ≤ M.inputs
  i2 : M.inputs ≤ 12
  o1 : 1 ≤ M.outputs
  o2 : M.outputs ≤ 3
  l1 : -3 ≤ M.lead
  l2 : M.lead ≤ 2
  op : (M.opening.length : Int) = max 0 (-M.lead)
  opb : ∀ n ∈ M.opening, n < M.outputs
  r1 : 1 ≤ M.rows.length
  r2 : M.rows.length ≤ 4
  row : ∀ r ∈ M.rows, r.length = M.inputs ∧ ∀ p ∈ r, p.1 < M.rows.length ∧ p.2 < M.outputs
def Mc.step (M : Mc) (st a : Nat) : Nat × Nat := (M.rows.getD st []).getD a (0, 0)
theorem Mc.Ok.at {M : Mc} (O : M.Ok) {st a : Nat} (h1 : st < M.rows.length) (h2 : a < M.inputs) : ∃ r, M.rows[st]? = some r ∧ r[a]? = some (M.step st a) ∧ (M.step st a).1 < M.rows.length := by
  have e1 : M.rows[st]? = some M.rows[st] := List.getElem?_eq_getElem h1
  have q := O.row M.rows[st] (List.getElem_mem h1)
  have h3 : a < M.rows[st].length := by rw [q.1]; exact h2
  have e2 : M.rows[st][a]? = some M.rows[st][a] := List.getElem?_eq_getElem h3
  have e3 : M.step st a = M.rows[st][a] := by
    unfold Mc.step
    rw [List.getD_eq_getElem?_getD, List.getD_eq_getElem?_getD, e1]
    show (M.rows[st][a]?).getD (0, 0) = _
    rw [e2]
    rfl
  refine ⟨M.rows[st], e1, by rw [e2, e3], ?_⟩
  rw [e3]
  exact (q.2 _ (List.getElem_mem h3)).1
structure Jn where
  text : Str
  state : Nat
  heard : Nat
  letters : List Nat
def lineH (a : Nat) : Str := (Str.ofString "heard " ++ num a) ++ Str.ofString "\n"
def lineS (k st : Nat) : Str := (((Str.ofString "state " ++ num k) ++ Str.ofString " ") ++ num st) ++ Str.ofString "\n"
def lineJ (sp : Nat) : Str := (Str.ofString "journal " ++ num sp) ++ Str.ofString "\n"
theorem tl_lineH (a : Nat) : tl (lineH a) = glue [(Ln.h a).code] := by
  unfold lineH
  rw [tl_append, tl_append, tl_H, tl_num, tl_N]
  rfl
theorem tl_lineS (k st : Nat) : tl (lineS k st) = glue [(Ln.s k st).code] := by
  unfold lineS
  rw [tl_append, tl_append, tl_append, tl_append, tl_S, tl_num, tl_num, tl_N, tl_B]
  show cS ++ numL k ++ [32] ++ numL st ++ [10] = (cS ++ (numL k ++ (32 :: numL st))) ++ [10]
  simp
theorem tl_lineJ (sp : Nat) : tl (lineJ sp) = glue [hdl sp] := by
  unfold lineJ
  rw [tl_append, tl_append, tl_J, tl_num, tl_N]
  rfl
def Jn.hear (M : Mc) (sp : Nat) (J : Jn) (a : Nat) : Jn where
  text := if (J.heard + 1) % sp = 0 then (J.text ++ lineH a) ++ lineS (J.heard + 1) (M.step J.state a).1 else J.text ++ lineH a
  state := (M.step J.state a).1
  heard := J.heard + 1
  letters := if ((J.heard : Int) + 1) ≤ M.lead then J.letters else J.letters ++ [(M.step J.state a).2]
def said (M : Mc) (J : Jn) (a : Nat) : List Nat := if ((J.heard : Int) + 1) ≤ M.lead then [] else [(M.step J.state a).2]
def Jn.init (M : Mc) (sp : Nat) : Jn := ⟨lineJ sp, 0, 0, M.opening⟩
def run (M : Mc) (sp : Nat) (ls : List Nat) : Jn := ls.foldl (Jn.hear M sp) (Jn.init M sp)
theorem run_snoc (M : Mc) (sp : Nat) (ls : List Nat) (a : Nat) : run M sp (ls ++ [a]) = (run M sp ls).hear M sp a := by
  unfold run
  rw [List.foldl_append]
  rfl
/-- what holds of a journal's parts -/
structure Jn.Ok (M : Mc) (J : Jn) : Prop where
  st : J.state < M.rows.length
  tx : (tl J.text).length ≤ 12 + 24 * J.heard
  lt : J.letters.length ≤ 3 + J.heard
theorem lineH_len {a : Nat} (h : a < 100) : (tl (lineH a)).length ≤ 9 := by
  rw [tl_lineH]
  show (cH ++ numL a ++ [10]).length ≤ 9
  have := num_len h
  have e : cH.length = 6 := rfl
  simp only [List.length_append, List.length_singleton, e]
  omega
theorem lineS_len {k st : Nat} (h : k < 100) (h2 : st < 100) : (tl (lineS k st)).length ≤ 12 := by
  rw [tl_lineS]
  show (cS ++ (numL k ++ (32 :: numL st)) ++ [10]).length ≤ 12
  have := num_len h
  have := num_len h2
  have e : cS.length = 6 := rfl
  simp only [List.length_append, List.length_cons, List.length_nil, e]
  omega
theorem lineJ_len {sp : Nat} (h : sp < 100) : (tl (lineJ sp)).length ≤ 11 := by
  rw [tl_lineJ]
  show (cJ ++ numL sp ++ [10]).length ≤ 11
  have := num_len h
  have e : cJ.length = 8 := rfl
  simp only [List.length_append, List.length_singleton, e]
  omega
theorem Jn.Ok.init {M : Mc} (O : M.Ok) {sp : Nat} (h : sp < 100) : (Jn.init M sp).Ok M where
  st := O.r1
  tx := by
    have := lineJ_len h
    show (tl (lineJ sp)).length ≤ 12 + 24 * 0
    omega
  lt := by
    have := O.op
    have := O.l1
    show M.opening.length ≤ 3 + 0
    omega
theorem Jn.Ok.hear {M : Mc} (O : M.Ok) {sp : Nat} {J : Jn} {a : Nat} (h : J.Ok M) (ha : a < M.inputs) (hk : J.heard < 50) : (J.hear M sp a).Ok M := by
  obtain ⟨r, e1, e2, e3⟩ := O.at h.st ha
  have i2 := O.i2
  have r2 := O.r2
  refine ⟨e3, ?_, ?_⟩
  · have t := h.tx
    have l1 := lineH_len (a := a) (by omega)
    have l2 := lineS_len (k := J.heard + 1) (st := (M.step J.state a).1) (by omega) (by omega)
    show (tl (if (J.heard + 1) % sp = 0 then (J.text ++ lineH a) ++ lineS (J.heard + 1) (M.step J.state a).1 else J.text ++ lineH a)).length ≤ 12 + 24 * (J.heard + 1)
    split
    · rw [tl_append, tl_append, List.length_append, List.length_append]
      omega
    · rw [tl_append, List.length_append]
      omega
  · have t := h.lt
    show (if ((J.heard : Int) + 1) ≤ M.lead then J.letters else J.letters ++ [(M.step J.state a).2]).length ≤ 3 + (J.heard + 1)
    split
    · omega
    · rw [List.length_append, List.length_singleton]
      omega
theorem run_heard (M : Mc) (sp : Nat) : ∀ (ls : List Nat) (J : Jn), (ls.foldl (Jn.hear M sp) J).heard = J.heard + ls.length
  | [], J => rfl
  | a :: r, J => by
    show (r.foldl (Jn.hear M sp) (J.hear M sp a)).heard = J.heard + (r.length + 1)
    rw [run_heard M sp r]
    show J.heard + 1 + r.length = _
    omega
theorem run_ok {M : Mc} (O : M.Ok) {sp : Nat} : ∀ (ls : List Nat) (J : Jn), J.Ok M → (∀ a ∈ ls, a < M.inputs) → J.heard + ls.length ≤ 50 → (ls.foldl (Jn.hear M sp) J).Ok M
  | [], J, h, _, _ => h
  | a :: r, J, h, hl, hk => by
    have e : (a :: r).length = r.length + 1 := rfl
    refine run_ok O r (J.hear M sp a) (h.hear O (hl a (List.mem_cons_self ..)) (by omega)) (fun b hb => hl b (List.mem_cons_of_mem _ hb)) ?_
    show J.heard + 1 + r.length ≤ 50
    omega
/-- the lines behind the first -/
def body (M : Mc) (sp : Nat) : Nat → Nat → List Nat → List Ln
  | _, _, [] => []
  | st, k, a :: r => .h a :: ((if (k + 1) % sp = 0 then [Ln.s (k + 1) (M.step st a).1] else []) ++ body M sp (M.step st a).1 (k + 1) r)
theorem run_text (M : Mc) (sp : Nat) : ∀ (ls : List Nat) (J : Jn), tl (ls.foldl (Jn.hear M sp) J).text = tl J.text ++ glue ((body M sp J.state J.heard ls).map Ln.code)
  | [], J => by
    show tl J.text = tl J.text ++ []
    rw [List.append_nil]
  | a :: r, J => by
    show tl (r.foldl (Jn.hear M sp) (J.hear M sp a)).text = _
    rw [run_text M sp r]
    show tl (if (J.heard + 1) % sp = 0 then (J.text ++ lineH a) ++ lineS (J.heard + 1) (M.step J.state a).1 else J.text ++ lineH a) ++ glue ((body M sp (M.step J.state a).1 (J.heard + 1) r).map Ln.code) =
      tl J.text ++ glue ((Ln.h a :: ((if (J.heard + 1) % sp = 0 then [Ln.s (J.heard + 1) (M.step J.state a).1] else []) ++ body M sp (M.step J.state a).1 (J.heard + 1) r)).map Ln.code)
    by_cases c : (J.heard + 1) % sp = 0
    · rw [if_pos c, if_pos c, tl_append, tl_append, tl_lineH, tl_lineS]
      show _ = tl J.text ++ glue ([(Ln.h a).code] ++ ([(Ln.s (J.heard + 1) (M.step J.state a).1).code] ++ (body M sp (M.step J.state a).1 (J.heard + 1) r).map Ln.code))
      rw [glue_append, glue_append, List.append_assoc, List.append_assoc]
    · rw [if_neg c, if_neg c, tl_append, tl_lineH]
      show _ = tl J.text ++ glue ([(Ln.h a).code] ++ ((body M sp (M.step J.state a).1 (J.heard + 1) r).map Ln.code))
      rw [glue_append, List.append_assoc]
/-- the codes of all lines -/
def lines (M : Mc) (sp : Nat) (ls : List Nat) : List (List Nat) := hdl sp :: (body M sp 0 0 ls).map Ln.code
theorem text_run (M : Mc) (sp : Nat) (ls : List Nat) : tl (run M sp ls).text = glue (lines M sp ls) := by
  unfold run
  rw [run_text]
  show tl (lineJ sp) ++ glue _ = glue ([hdl sp] ++ _)
  rw [tl_lineJ, glue_append]
  rfl
theorem lines10 (M : Mc) (sp : Nat) (ls : List Nat) : ∀ l ∈ lines M sp ls, 10 ∉ l := fun l h => by
  rcases List.mem_cons.mp h with e | h
  · rw [e]
    exact hdl10 sp
  · obtain ⟨n, _, e⟩ := List.mem_map.mp h
    rw [← e]
    exact code10 n
theorem body_heard (M : Mc) (sp : Nat) : ∀ (ls : List Nat) (st k : Nat), heardOf (body M sp st k ls) = ls
  | [], _, _ => rfl
  | a :: r, st, k => by
    show a :: heardOf ((if (k + 1) % sp = 0 then [Ln.s (k + 1) (M.step st a).1] else []) ++ body M sp (M.step st a).1 (k + 1) r) = a :: r
    rw [heardOf_append, body_heard M sp r]
    split <;> rfl
/-- a beginning of the lines is a beginning of the lines of the letters heard in it -/
theorem body_pre (M : Mc) (sp : Nat) : ∀ (ls : List Nat) (st k r : Nat),
    heardOf ((body M sp st k ls).take r) = ls.take (heardOf ((body M sp st k ls).take r)).length ∧ ∃ T, body M sp st k (heardOf ((body M sp st k ls).take r)) = (body M sp st k ls).take r ++ T
  | [], st, k, r => by
    have e : (body M sp st k []).take r = [] := List.take_nil
    rw [e]
    exact ⟨rfl, [], rfl⟩
  | a :: ls, st, k, 0 => ⟨rfl, [], rfl⟩
  | a :: ls, st, k, r + 1 => by
    by_cases c : (k + 1) % sp = 0
    · have e : body M sp st k (a :: ls) = .h a :: .s (k + 1) (M.step st a).1 :: body M sp (M.step st a).1 (k + 1) ls := by
        show Ln.h a :: ((if (k + 1) % sp = 0 then [Ln.s (k + 1) (M.step st a).1] else []) ++ _) = _
        rw [if_pos c]
        rfl
      have e' : ∀ q, body M sp st k (a :: q) = .h a :: .s (k + 1) (M.step st a).1 :: body M sp (M.step st a).1 (k + 1) q := fun q => by
        show Ln.h a :: ((if (k + 1) % sp = 0 then [Ln.s (k + 1) (M.step st a).1] else []) ++ _) = _
        rw [if_pos c]
        rfl
      rw [e]
      cases r with
      | zero =>
        refine ⟨rfl, [.s (k + 1) (M.step st a).1], ?_⟩
        show body M sp st k (a :: []) = [Ln.h a] ++ [.s (k + 1) (M.step st a).1]
        rw [e']
        rfl
      | succ r =>
        obtain ⟨h1, T, h2⟩ := body_pre M sp ls (M.step st a).1 (k + 1) r
        refine ⟨?_, T, ?_⟩
        · show a :: heardOf ((body M sp (M.step st a).1 (k + 1) ls).take r) = a :: ls.take (heardOf ((body M sp (M.step st a).1 (k + 1) ls).take r)).length
          rw [← h1]
        · show body M sp st k (a :: heardOf ((body M sp (M.step st a).1 (k + 1) ls).take r)) = Ln.h a :: .s (k + 1) (M.step st a).1 :: ((body M sp (M.step st a).1 (k + 1) ls).take r ++ T)
          rw [e', h2]
    · have e' : ∀ q, body M sp st k (a :: q) = .h a :: body M sp (M.step st a).1 (k + 1) q := fun q => by
        show Ln.h a :: ((if (k + 1) % sp = 0 then [Ln.s (k + 1) (M.step st a).1] else []) ++ _) = _
        rw [if_neg c]
        rfl
      rw [e']
      obtain ⟨h1, T, h2⟩ := body_pre M sp ls (M.step st a).1 (k + 1) r
      refine ⟨?_, T, ?_⟩
      · show a :: heardOf ((body M sp (M.step st a).1 (k + 1) ls).take r) = a :: ls.take (heardOf ((body M sp (M.step st a).1 (k + 1) ls).take r)).length
        rw [← h1]
      · show body M sp st k (a :: heardOf ((body M sp (M.step st a).1 (k + 1) ls).take r)) = Ln.h a :: ((body M sp (M.step st a).1 (k + 1) ls).take r ++ T)
        rw [e', h2]
end KJ

/-! What stands where: the text by places, the objects, the promises. -/
namespace KJ
open PySem L2 TL
/-! ### the text by places -/
def top (i : Nat) : Stmt := PySem.Challenge.pw_reactivesynth_k62_whole_recovery.main.body.getD i (.Pass ⟨0, 0, 0, 0⟩)
abbrev sJInit : Stmt := inClass (top 7) 0
abbrev sSaid : Stmt := inClass (top 7) 1
abbrev sHear : Stmt := inClass (top 7) 2
abbrev sNum : Stmt := top 8
abbrev sLet : Stmt := top 9
abbrev sRec : Stmt := top 10
abbrev sBelow : Stmt := top 12
abbrev sMInit : Stmt := inClass (top 14) 0
abbrev sDraws : Stmt := top 17
abbrev sTake : Stmt := top 18
abbrev sFlat : Stmt := top 19
abbrev sMach : Stmt := top 20
abbrev sSame : Stmt := top 21
abbrev sLaw : Stmt := top 22

/-! ### a target that is an attribute -/
def gAtt (K : PySem.W.Frag) (ta : TE) (f : Str) : TG := fun v σ H Q => ta σ H fun x H1 => ∃ a C dx fs, x = .ref a ∧ H1 a = some (.ins C dx fs) ∧ Cls K C ∧ NoAttr K C f ∧ fs.length < 1000 ∧ Q σ (upd H1 a (.ins C dx (putF f v fs)))
theorem pg_att {X : Cx} {o : Expr} {f : Str} {pos : Pos} {ta : TE} (ho : PE X o ta) : PG X (.Attribute o f pos) (gAtt X.K ta f) := by
  refine ⟨fun pins s σ H v u Q I r h => ?_⟩
  refine PySem.W.kas_attr (L2.thn (ho.run pins s σ H _ I h) fun ov s1 hh => ?_)
  obtain ⟨x, H1, I1, r1, a, C, dx, fs, ex, ea, c, n, l, q⟩ := hh
  subst ex
  obtain rfl : ov = Value.ref a := r1
  exact setattr_ok I1 ea c n l r fun s2 I2 => ⟨σ, _, I2, q⟩

/-! ### attributes by a fixed list of names -/
theorem putF_zip {f : Str} {x : V} : ∀ {ns : List Str} {vs : List V} {i : Nat}, ns.Nodup → ns.length = vs.length → ns[i]? = some f → putF f x (ns.zip vs) = ns.zip (vs.set i x)
  | [], _, i, _, _, h => by simp at h
  | n :: ns, [], i, _, hl, h => by simp at hl
  | n :: ns, v :: vs, 0, _, _, h => by
    have e : n = f := Option.some.inj h
    show (if n = f then (n, x) :: ns.zip vs else (n, v) :: putF f x (ns.zip vs)) = (n, x) :: ns.zip vs
    rw [if_pos e]
  | n :: ns, v :: vs, i + 1, hd, hl, h => by
    have h' : ns[i]? = some f := h
    have hne : n ≠ f := fun e => (List.nodup_cons.mp hd).1 (by rw [e]; exact List.mem_of_getElem? h')
    show (if n = f then (n, x) :: ns.zip vs else (n, v) :: putF f x (ns.zip vs)) = (n, v) :: ns.zip (vs.set i x)
    rw [if_neg hne, putF_zip (List.nodup_cons.mp hd).2 (Nat.succ.inj hl) h']
theorem putF_new {f : Str} {x : V} : ∀ {ns : List Str} {vs : List V}, ns.length = vs.length → f ∉ ns → putF f x (ns.zip vs) = (ns ++ [f]).zip (vs ++ [x])
  | [], [], _, _ => rfl
  | [], _ :: _, hl, _ => by simp at hl
  | _ :: _, [], hl, _ => by simp at hl
  | n :: ns, v :: vs, hl, h => by
    have hne : n ≠ f := fun e => h (by rw [e]; exact List.mem_cons_self ..)
    show (if n = f then (n, x) :: ns.zip vs else (n, v) :: putF f x (ns.zip vs)) = (n, v) :: (ns ++ [f]).zip (vs ++ [x])
    rw [if_neg hne, putF_new (Nat.succ.inj hl) fun m => h (List.mem_cons_of_mem _ m)]
theorem look_zip {f : Str} {x : V} : ∀ {ns : List Str} {vs : List V} {i : Nat}, ns.Nodup → ns[i]? = some f → vs[i]? = some x → (ns.zip vs).lookup f = some x
  | [], _, i, _, h, _ => by simp at h
  | n :: ns, [], i, _, _, h => by simp at h
  | n :: ns, v :: vs, 0, _, h, h2 => by
    have e : n = f := Option.some.inj h
    have e2 : v = x := Option.some.inj h2
    subst e e2
    show List.lookup n ((n, v) :: ns.zip vs) = some v
    rw [List.lookup_cons, beq_self_eq_true n]
  | n :: ns, v :: vs, i + 1, hd, h, h2 => by
    have h' : ns[i]? = some f := h
    have h2' : vs[i]? = some x := h2
    have hne : f ≠ n := fun e => (List.nodup_cons.mp hd).1 (by rw [← e]; exact List.mem_of_getElem? h')
    have ih := look_zip (x := x) (List.nodup_cons.mp hd).2 h' h2'
    show List.lookup f ((n, v) :: ns.zip vs) = some x
    have hb : (f == n) = false := by simpa using hne
    rw [List.lookup_cons, hb]
    exact ih
theorem look_no {f : Str} : ∀ {ns : List Str} {vs : List V}, f ∉ ns → (ns.zip vs).lookup f = none
  | [], _, _ => rfl
  | n :: ns, [], _ => rfl
  | n :: ns, v :: vs, h => by
    have hne : f ≠ n := fun e => h (by rw [e]; exact List.mem_cons_self ..)
    show List.lookup f ((n, v) :: ns.zip vs) = none
    have hb : (f == n) = false := by simpa using hne
    rw [List.lookup_cons, hb]
    exact look_no fun m => h (List.mem_cons_of_mem _ m)

def jN : List Str := ["machine", "spacing", "text", "state", "heard", "letters"]
def mN : List Str := ["inputs", "outputs", "lead", "opening", "rows"]
theorem jNd : jN.Nodup := by decide +kernel
theorem mNd : mN.Nodup := by decide +kernel
/-- a journal's attributes -/
def jv (a b c d e f : V) : List (Str × V) := jN.zip [a, b, c, d, e, f]
def mv (a b c d e : V) : List (Str × V) := mN.zip [a, b, c, d, e]
section
variable {a b c d e f x : V}
theorem jl0 : (jv a b c d e f).lookup ("machine" : Str) = some a := look_zip (i := 0) jNd rfl rfl
theorem jl1 : (jv a b c d e f).lookup ("spacing" : Str) = some b := look_zip (i := 1) jNd rfl rfl
theorem jl2 : (jv a b c d e f).lookup ("text" : Str) = some c := look_zip (i := 2) jNd rfl rfl
theorem jl3 : (jv a b c d e f).lookup ("state" : Str) = some d := look_zip (i := 3) jNd rfl rfl
theorem jl4 : (jv a b c d e f).lookup ("heard" : Str) = some e := look_zip (i := 4) jNd rfl rfl
theorem jl5 : (jv a b c d e f).lookup ("letters" : Str) = some f := look_zip (i := 5) jNd rfl rfl
theorem jnh : (jv a b c d e f).lookup ("hear" : Str) = none := look_no (by decide +kernel)
theorem jp2 : putF "text" x (jv a b c d e f) = jv a b x d e f := putF_zip (i := 2) jNd rfl rfl
theorem jp3 : putF "state" x (jv a b c d e f) = jv a b c x e f := putF_zip (i := 3) jNd rfl rfl
theorem jp4 : putF "heard" x (jv a b c d e f) = jv a b c d x f := putF_zip (i := 4) jNd rfl rfl
theorem jp5 : putF "letters" x (jv a b c d e f) = jv a b c d e x := putF_zip (i := 5) jNd rfl rfl
theorem jlen : (jv a b c d e f).length < 1000 := by show 6 < 1000; decide
theorem ji0 : putF "machine" x [] = (["machine"] : List Str).zip [x] := rfl
theorem ji1 : putF "spacing" x ((["machine"] : List Str).zip [a]) = (["machine", "spacing"] : List Str).zip [a, x] := putF_new rfl (by decide +kernel)
theorem ji2 : putF "text" x ((["machine", "spacing"] : List Str).zip [a, b]) = (["machine", "spacing", "text"] : List Str).zip [a, b, x] := putF_new rfl (by decide +kernel)
theorem ji3 : putF "state" x ((["machine", "spacing", "text"] : List Str).zip [a, b, c]) = (["machine", "spacing", "text", "state"] : List Str).zip [a, b, c, x] := putF_new rfl (by decide +kernel)
theorem ji4 : putF "heard" x ((["machine", "spacing", "text", "state"] : List Str).zip [a, b, c, d]) = (["machine", "spacing", "text", "state", "heard"] : List Str).zip [a, b, c, d, x] := putF_new rfl (by decide +kernel)
theorem ji5 : putF "letters" x ((["machine", "spacing", "text", "state", "heard"] : List Str).zip [a, b, c, d, e]) = jv a b c d e x := putF_new rfl (by decide +kernel)
theorem ml0 : (mv a b c d e).lookup ("inputs" : Str) = some a := look_zip (i := 0) mNd rfl rfl
theorem ml2 : (mv a b c d e).lookup ("lead" : Str) = some c := look_zip (i := 2) mNd rfl rfl
theorem ml3 : (mv a b c d e).lookup ("opening" : Str) = some d := look_zip (i := 3) mNd rfl rfl
theorem ml4 : (mv a b c d e).lookup ("rows" : Str) = some e := look_zip (i := 4) mNd rfl rfl
theorem mnt : (mv a b c d e).lookup ("text" : Str) = none := look_no (by decide +kernel)
theorem mi0 : putF "inputs" x [] = (["inputs"] : List Str).zip [x] := rfl
theorem mi1 : putF "outputs" x ((["inputs"] : List Str).zip [a]) = (["inputs", "outputs"] : List Str).zip [a, x] := putF_new rfl (by decide +kernel)
theorem mi2 : putF "lead" x ((["inputs", "outputs"] : List Str).zip [a, b]) = (["inputs", "outputs", "lead"] : List Str).zip [a, b, x] := putF_new rfl (by decide +kernel)
theorem mi3 : putF "opening" x ((["inputs", "outputs", "lead"] : List Str).zip [a, b, c]) = (["inputs", "outputs", "lead", "opening"] : List Str).zip [a, b, c, x] := putF_new rfl (by decide +kernel)
theorem mi4 : putF "rows" x ((["inputs", "outputs", "lead", "opening"] : List Str).zip [a, b, c, d]) = mv a b c d x := putF_new rfl (by decide +kernel)
end

/-! ### the objects -/
def nats (l : List Nat) : List V := l.map fun (n : Nat) => V.int (n : Int)
/-- tuples of two numbers -/
def PairsAt (H : Hp) : List V → List (Nat × Nat) → Prop := Paired fun v p => ∃ t, v = .ref t ∧ H t = some (.tup [.int (p.1 : Int), .int (p.2 : Int)])
/-- lists of such tuples; tuples of such tuples -/
def RowsL (H : Hp) : List V → List (List (Nat × Nat)) → Prop := Paired fun v row => ∃ r xs, v = .ref r ∧ H r = some (.lst xs) ∧ PairsAt H xs row
def RowsT (H : Hp) : List V → List (List (Nat × Nat)) → Prop := Paired fun v row => ∃ r xs, v = .ref r ∧ H r = some (.tup xs) ∧ PairsAt H xs row
theorem PairsAt.keep {H H' : Hp} (k : ∀ t xs, H t = some (.tup xs) → H' t = some (.tup xs)) {vs : List V} {ps : List (Nat × Nat)} (h : PairsAt H vs ps) : PairsAt H' vs ps :=
  Paired.mapP h fun _ _ ⟨t, e, q⟩ => ⟨t, e, k _ _ q⟩
theorem RowsT.keep {H H' : Hp} (k : ∀ t xs, H t = some (.tup xs) → H' t = some (.tup xs)) {vs : List V} {ps : List (List (Nat × Nat))} (h : RowsT H vs ps) : RowsT H' vs ps :=
  Paired.mapP h fun _ _ ⟨t, xs, e, q, r⟩ => ⟨t, xs, e, k _ _ q, r.keep k⟩
theorem RowsL.keep {H H' : Hp} (k : Same H H') {vs : List V} {ps : List (List (Nat × Nat))} (h : RowsL H vs ps) : RowsL H' vs ps :=
  Paired.mapP h fun _ _ ⟨t, xs, e, q, r⟩ => ⟨t, xs, e, k _ _ q, r.keep fun t xs => k t _⟩
/-- a machine stands at m -/
structure MAt (C : Addr) (H : Hp) (m : Addr) (M : Mc) : Prop where
  ex : ∃ (dx to tr : Addr) (rs : List V), H m = some (.ins C dx (mv (.int (M.inputs : Int)) (.int (M.outputs : Int)) (.int M.lead) (.ref to) (.ref tr))) ∧ H to = some (.tup (nats M.opening)) ∧ H tr = some (.tup rs) ∧ RowsT H rs M.rows
/-- a journal stands at j -/
structure JAt (C : Addr) (H : Hp) (j m : Addr) (sp : Nat) (J : Jn) : Prop where
  ex : ∃ (dx tl : Addr), H j = some (.ins C dx (jv (.ref m) (.int (sp : Int)) (.str J.text) (.int (J.state : Int)) (.int (J.heard : Int)) (.ref tl))) ∧ H tl = some (.tup (nats J.letters))
/-- all that was tracked but what stands at j is as it was -/
def But (j : Addr) (H H' : Hp) : Prop := ∀ b o, H b = some o → b ≠ j → H' b = some o
theorem But.refl (j : Addr) (H : Hp) : But j H H := fun _ _ h _ => h
theorem But.trans {j : Addr} {H H1 H2 : Hp} (a : But j H H1) (b : But j H1 H2) : But j H H2 := fun c o h n => b c o (a c o h n) n
theorem Same.but {H H' : Hp} (s : Same H H') (j : Addr) : But j H H' := fun b o h _ => s b o h
theorem But.same {H H' : Hp} {j : Addr} (s : But j H H') (h : H j = none) : Same H H' := fun b o e => s b o e (ne_of_none e h)
theorem But.upd (j : Addr) (H : Hp) (o : HO) : But j H (upd H j o) := fun b _ h n => by rw [upd_ne n]; exact h
theorem But.new {j : Addr} {H H' : Hp} (s : But j H H') {p : Addr} {o : HO} (hp : H' p = none) : But j H (L2.upd H' p o) := fun b u h n => by
  have e := s b u h n
  rw [upd_ne (ne_of_none e hp)]
  exact e
theorem But.upd2 {j : Addr} {H H' : Hp} (s : But j H H') (o : HO) : But j H (L2.upd H' j o) := fun b u h n => by
  rw [upd_ne n]
  exact s b u h n
theorem same_new {H : Hp} {p : Addr} {o : HO} (hp : H p = none) : Same H (upd H p o) := fun b u h => by
  rw [upd_ne (ne_of_none h hp)]
  exact h
/-- a list that changes at d, tuples and instances elsewhere -/
theorem MAt.keep {C : Addr} {H H' : Hp} {m j : Addr} {M : Mc} (h : MAt C H m M) (s : But j H H') (n : m ≠ j) (nt : ∀ xs, H j ≠ some (.tup xs)) : MAt C H' m M := by
  obtain ⟨dx, to, tr, rs, h1, h2, h3, h4⟩ := h.ex
  have k : ∀ t xs, H t = some (.tup xs) → H' t = some (.tup xs) := fun t xs e => s t _ e fun q => nt xs (by rw [← q]; exact e)
  exact ⟨dx, to, tr, rs, s _ _ h1 n, k _ _ h2, k _ _ h3, h4.keep k⟩
theorem MAt.same {C : Addr} {H H' : Hp} {m : Addr} {M : Mc} (h : MAt C H m M) (s : Same H H') : MAt C H' m M := by
  obtain ⟨dx, to, tr, rs, h1, h2, h3, h4⟩ := h.ex
  exact ⟨dx, to, tr, rs, s _ _ h1, s _ _ h2, s _ _ h3, h4.keep fun t xs => s t _⟩
theorem JAt.same {C : Addr} {H H' : Hp} {j m : Addr} {sp : Nat} {J : Jn} (h : JAt C H j m sp J) (s : Same H H') : JAt C H' j m sp J := by
  obtain ⟨dx, tl, h1, h2⟩ := h.ex
  exact ⟨dx, tl, s _ _ h1, s _ _ h2⟩
theorem JAt.keep {C : Addr} {H H' : Hp} {j m i : Addr} {sp : Nat} {J : Jn} (h : JAt C H j m sp J) (s : But i H H') (n : j ≠ i) (nt : ∀ xs, H i ≠ some (.tup xs)) : JAt C H' j m sp J := by
  obtain ⟨dx, tl, h1, h2⟩ := h.ex
  exact ⟨dx, tl, s _ _ h1 n, s _ _ h2 fun q => nt _ (by rw [← q]; exact h2)⟩
theorem JAt.notup {C : Addr} {H : Hp} {j m : Addr} {sp : Nat} {J : Jn} (h : JAt C H j m sp J) : ∀ xs, H j ≠ some (.tup xs) := fun xs q => by
  obtain ⟨dx, tl, h1, h2⟩ := h.ex
  rw [h1] at q
  cases q
theorem MAt.ne {C D : Addr} {H : Hp} {j m k : Addr} {sp : Nat} {J : Jn} {M : Mc} (h : MAt D H m M) (g : JAt C H j k sp J) : m ≠ j := by
  obtain ⟨dx, to, tr, rs, h1, _⟩ := h.ex
  obtain ⟨dy, tl, g1, g2⟩ := g.ex
  refine ne_of h1 g1 fun q => ?_
  injection q with _ _ q3
  have e := congrArg (List.lookup ("text" : Str)) q3
  rw [mnt, jl2] at e
  cases e
end KJ

/-! The law's helpers: all_below, _law_take, _law_draws, _law_flat. -/
namespace KJ
open PySem L2 TL
/-- the built-in names that the text uses are the built-in ones -/
structure Bi (mg : Str → Option Value) : Prop where
  len : mg "len" = none
  int : mg "int" = none
  str : mg "str" = none
  list : mg "list" = none
  tuple : mg "tuple" = none
  range : mg "range" = none
  max : mg "max" = none
theorem upd_id {H : Hp} {d : Addr} {o : HO} (h : H d = some o) : upd H d o = H := by
  funext b
  by_cases e : b = d
  · rw [e, upd_same, h]
  · rw [upd_ne e]
theorem bi_int : bootBuiltins "int" = some (.type "int") := by decide +kernel
theorem bi_str : bootBuiltins "str" = some (.type "str") := by decide +kernel
theorem bi_list : bootBuiltins "list" = some (.type "list") := by decide +kernel
theorem bi_tuple : bootBuiltins "tuple" = some (.type "tuple") := by decide +kernel
theorem bi_max : bootBuiltins "max" = some (.builtin "max") := by decide +kernel
/-! ### the promises -/
def spBelow (K : PySem.W.Frag) : Sp := fun vs H Q _ => ∃ (a : Addr) (ns : List Nat) (lim : Nat), vs = [.ref a, .int (lim : Int)] ∧ SqL K H a (nats ns) ∧ (∀ n ∈ ns, n < lim) ∧ Q (.bl true) H
def spTake : Sp := fun vs H Q _ => ∃ (d : Addr) (lim : Nat) (ds : List Int), vs = [.ref d, .int (lim : Int)] ∧ 0 < lim ∧ H d = some (.lst (ds.map V.int)) ∧
  ∀ (n : Nat) (ds' : List Int), n < lim → Q (.int (n : Int)) (upd H d (.lst (ds'.map V.int)))
def spDraws (K : PySem.W.Frag) : Sp := fun vs H Q _ => ∃ (a : Addr) (ns : List Int), vs = [.ref a, .int 120] ∧ SqL K H a (ns.map V.int) ∧ ns.length ≤ 63 ∧
  ∀ (p : Addr) (ds : List Int) (H' : Hp), Same H H' → H p = none → H' p = some (.lst (ds.map V.int)) → Q (.ref p) H'
def spFlat : Sp := fun vs H Q _ => ∃ (l : Addr) (rs : List V) (rows : List (List (Nat × Nat))), vs = [.ref l] ∧ H l = some (.lst rs) ∧ RowsL H rs rows ∧ rows.length ≤ 1000 ∧
  ∀ (p : Addr) (rs' : List V) (H' : Hp), Same H H' → H p = none → H' p = some (.lst rs') → RowsL H' rs' rows → Q (.ref p) H'
section
variable {P : Program} {w : World} {K : PySem.W.Frag} {mg : Str → Option Value} {base : Heap}
/-! ### all_below -/
theorem nats_at {l : List Nat} {i : Nat} {x : V} (h : (nats l)[i]? = some x) : ∃ n, l[i]? = some n ∧ x = V.int ((n : Nat) : Int) := by
  unfold nats at h
  rw [List.getElem?_map] at h
  cases e : l[i]? with
  | none =>
    rw [e] at h
    cases h
  | some n =>
    rw [e] at h
    exact ⟨n, rfl, (Option.some.inj h).symm⟩
theorem scB : FnScope ["numbers", "limit", "number"] ["numbers", "limit"] (defScope sBelow) := ⟨rfl, rfl, rfl, by decide +kernel, rfl, by decide +kernel, by decide +kernel⟩
theorem ok_below {f : Addr} {fd : FuncData} (F : Fun K "all_below" "all_below" sBelow f fd) : FnOk P w K mg base CX0 1 f fd ["numbers", "limit"] (spBelow K) := by
  refine F.ok scB (fun vs H Q E h => ?_) (fun cdv A outer s H vs Q E hr h => ?_)
  · obtain ⟨a, ns, lim, rfl, _⟩ := h
    rfl
  · obtain ⟨a, ns, lim, rfl, hS, hb, k⟩ := h
    refine ⟨_, pss_cons (ps_for PassesOwn.never rfl (pi_list (pv 0)) (pg_name (i := 2) scB.nd rfl (Or.inl rfl))
        (pss_one (ps_if (PW.pt (pw_or (pt_cmpR op_lt (pv 2) pe_int (nomark _)) (pw_or1 (pt_cmpR op_ge (pv 2) (pv 1) (nomark _))))) (pss_one ps_never) pss_nil)))
      (pss_one (ps_ret pe_bl)), ?_⟩
    refine ⟨_, rfl, a, rfl, ⟨_, hS⟩, for_list (K := K) (a := a) (xs := nats ns) (fun i σ H' => H' = H ∧ ∃ v : Option V, σ = [some (.ref a), some (.int (lim : Int)), v]) ⟨rfl, none, rfl⟩ (fun i σ H' _ ⟨e, _⟩ => by rw [e]; exact hS) ?_ ?_⟩
    · rintro i y σ H' hi ⟨rfl, v, rfl⟩
      obtain ⟨n, hn, rfl⟩ := nats_at hi
      have hlt := hb n (List.mem_of_getElem? hn)
      refine ⟨_, rfl, _, _, rfl, rfl, _, rfl, ?_⟩
      refine ite2 (fun c => ?_) (fun _ => ?_)
      · exact absurd (of_decide_eq_true c) (by omega)
      · refine ⟨_, rfl, _, rfl, _, _, rfl, rfl, _, rfl, ?_⟩
        refine ite2 (fun c => ?_) (fun _ => ?_)
        · exact absurd (of_decide_eq_true c) (by omega)
        · exact ⟨rfl, _, rfl⟩
    · rintro σ H' ⟨rfl, v, rfl⟩
      exact k
/-! ### _law_take -/
theorem scT : FnScope ["_law_draws_here", "_law_limit"] ["_law_draws_here", "_law_limit"] (defScope sTake) := ⟨rfl, rfl, rfl, by decide +kernel, rfl, by decide +kernel, by decide +kernel⟩
theorem ok_take {f : Addr} {fd : FuncData} (F : Fun K "_law_take" "_law_take" sTake f fd) (T : Bi mg) : FnOk P w K mg base CX0 1 f fd ["_law_draws_here", "_law_limit"] spTake := by
  refine F.ok scT (fun vs H Q E h => ?_) (fun cdv A outer s H vs Q E hr h => ?_)
  · obtain ⟨d, lim, ds, rfl, _⟩ := h
    rfl
  · obtain ⟨d, lim, ds, rfl, h0, hd, k⟩ := h
    refine ⟨_, pss_cons (ps_if (pt_cmpR op_eq (pe_callB call_len_seq (by rfl) T.len PySem.boot_len (pa_cons (pv 0) pa_nil)) pe_int (nomark _)) (pss_one (ps_ret pe_int)) pss_nil)
      (pss_one (ps_ret (pe_op op_modN (pe_callTy call_int1 (by rfl) T.int bi_int (pa_cons (pe_bm0 PySem.F.plainAttrs_list PySem.F.slot_list_pop PySem.F.type_list_pop mt_pop (pv 0)) pa_nil)) (pv 1)))), ?_⟩
    refine ⟨_, rfl, d, _, rfl, .inl (SqL.of hd), rfl, _, rfl, ?_⟩
    refine ite2 (fun _ => ?_) (fun c => ?_)
    · have q := k 0 ds h0
      rw [upd_id hd] at q
      exact q
    · rcases List.eq_nil_or_concat ds with e | ⟨ini, z, e⟩
      · subst e
        exact absurd (decide_eq_true rfl) c
      · have e' : ds = ini ++ [z] := e.trans List.concat_eq_append
        subst e'
        have hl : ((ini ++ [z]).map V.int)[((ini ++ [z]).map V.int).length - 1]? = some (V.int z) := by simp
        have hdl : ((ini ++ [z]).map V.int).dropLast = ini.map V.int := by simp
        refine ⟨_, rfl, .inl ⟨rfl, _, SqL.of hd⟩, d, _, _, rfl, rfl, hd, hl, .inl ⟨z, rfl, ?_⟩⟩
        have hl0 : (0 : Int) < (lim : Int) := by omega
        have em : z.fmod (lim : Int) = z % (lim : Int) := Int.fmod_eq_emod_of_nonneg z (by omega)
        have m0 : 0 ≤ z % (lim : Int) := Int.emod_nonneg z (by omega)
        have m1 : z % (lim : Int) < (lim : Int) := Int.emod_lt_of_pos z hl0
        refine ⟨_, rfl, _, _, rfl, rfl, by omega, ?_⟩
        obtain ⟨n, hn⟩ := Int.eq_ofNat_of_zero_le m0
        show Q (V.int (z.fmod (lim : Int))) (upd H d (.lst ((ini ++ [z]).map V.int).dropLast))
        rw [em, hn, hdl]
        exact k n ini (by omega)
/-! ### _law_flat -/
def rLO (K : PySem.W.Frag) : List V → Hp → VK → Prop := fun xs H Q => ∃ p ys, xs = [.ref p] ∧ (SqL K H p ys ∨ SqT K H p ys) ∧ ∀ l, H l = none → Q (.ref l) (upd H l (.lst ys))
/-- the rows copied so far, none of them at D -/
def RowsN (D : Addr) (H : Hp) : List V → List (List (Nat × Nat)) → Prop := Paired fun v row => ∃ r xs, v = .ref r ∧ r ≠ D ∧ H r = some (.lst xs) ∧ PairsAt H xs row
theorem scF : FnScope ["_law_rows", "_law_row"] ["_law_rows"] (defScope sFlat) := ⟨rfl, rfl, rfl, by decide +kernel, rfl, by decide +kernel, by decide +kernel⟩
theorem paired_at {α β : Type} {R : α → β → Prop} : ∀ {xs : List α} {ys : List β} {i : Nat} {x : α}, Paired R xs ys → xs[i]? = some x → ∃ y, ys[i]? = some y ∧ R x y
  | _, _, _, _, .nil, h => by simp at h
  | _, _, 0, _, .cons r _, h => by
    have e := Option.some.inj h
    subst e
    exact ⟨_, rfl, r⟩
  | _, _, i + 1, x, .cons _ t, h => by
    obtain ⟨y, e, r⟩ := paired_at (i := i) (x := x) t h
    exact ⟨y, e, r⟩
theorem paired_snoc {α β : Type} {R : α → β → Prop} : ∀ {xs : List α} {ys : List β} {x : α} {y : β}, Paired R xs ys → R x y → Paired R (xs ++ [x]) (ys ++ [y])
  | _, _, _, _, .nil, h => .cons h .nil
  | _, _, _, _, .cons r t, h => .cons r (paired_snoc t h)
theorem take_snoc {α : Type} {l : List α} {i : Nat} {x : α} (h : l[i]? = some x) : l.take (i + 1) = l.take i ++ [x] := by
  rw [List.take_succ, h]
  rfl
theorem ok_flat {f : Addr} {fd : FuncData} (F : Fun K "_law_flat" "_law_flat" sFlat f fd) (T : Bi mg) : FnOk P w K mg base CX0 1 f fd ["_law_rows"] spFlat := by
  refine F.ok scF (fun vs H Q E h => ?_) (fun cdv A outer s H vs Q E hr h => ?_)
  · obtain ⟨l, rs, rows, rfl, _⟩ := h
    rfl
  · obtain ⟨l, rs, rows, rfl, hl, hR, hz, k⟩ := h
    refine ⟨_, pss_one (ps_ret (pe_lc (own := [("_law_row", 1)]) (g := gName 1) (tt := tYes) rfl scF.nd (te := tCB (rLO K) (tCons (tVar 1) tNil)) (pi_list (pv 0)) (blkOk_by (N := ["_law_rows", "_law_row"]) (sc := defScope sFlat) (by decide +kernel))
      (fun _ _ _ _ _ => pg_name (i := 1) scF.nd rfl (Or.inl rfl)) (fun _ _ _ _ _ => pts_nil) (fun _ _ _ _ _ => pe_callTy call_list_of (by rfl) T.list bi_list (pa_cons (pv 1) pa_nil)))), ?_⟩
    refine ⟨_, rfl, l, rfl, ⟨_, SqL.of hl⟩, fun D hD => lc_list (K := K) (a := l) (xs := rs) (fun i H' => Same H H' ∧ ∃ acc, H' D = some (.lst acc) ∧ acc.length = i ∧ RowsN D H' acc (rows.take i)) ?_ (fun i H' _ ⟨s, _⟩ => SqL.of (s _ _ hl)) ?_ ?_⟩
    · exact ⟨same_new hD, [], upd_same, rfl, .nil⟩
    · rintro i x H' hi ⟨s, acc, hacc, hlen, hrows⟩
      obtain ⟨row, hrow, r, xs, rfl, hr', hp⟩ := paired_at hR hi
      have hi2 : i < rows.length := (List.getElem?_eq_some_iff.mp hrow).1
      refine ⟨rfl, ?_⟩
      refine ⟨_, rfl, r, xs, rfl, .inl (SqL.of (s _ _ hr')), fun q hq => ?_⟩
      have nDq : D ≠ q := ne_of_none hacc hq
      refine ⟨acc, by rw [upd_ne nDq]; exact hacc, Nat.lt_of_lt_of_le (by omega : acc.length < 1001) (by decide), ?_⟩
      have s2 : But D H' (upd (upd H' q (.lst xs)) D (.lst (acc ++ [.ref q]))) := ((But.refl D H').new hq).upd2 _
      have s3 : Same H (upd (upd H' q (.lst xs)) D (.lst (acc ++ [.ref q]))) := ((Same.but s D).trans s2).same hD
      refine ⟨s3, acc ++ [.ref q], upd_same, by rw [List.length_append, hlen]; rfl, ?_⟩
      rw [take_snoc hrow]
      refine paired_snoc ?_ ⟨q, xs, rfl, nDq.symm, by rw [upd_ne nDq.symm, upd_same], hp.keep fun t ys e => s3 _ _ e⟩
      refine Paired.mapP hrows fun v row' ⟨t, ys, e, n, e2, e3⟩ => ⟨t, ys, e, n, s2 _ _ e2 n, e3.keep fun u zs e4 => s2 _ _ e4 fun z => ?_⟩
      rw [z, hacc] at e4
      cases e4
    · rintro H' ⟨s, acc, hacc, hlen, hrows⟩
      have e : rows.take rs.length = rows := List.take_of_length_le (by rw [Paired.length hR]; exact Nat.le_refl _)
      rw [e] at hrows
      exact k D acc H' s hD hacc (Paired.mapP hrows fun v row' ⟨t, ys, e, _, e2, e3⟩ => ⟨t, ys, e, e2, e3⟩)
/-! ### _law_draws -/
theorem scD : FnScope ["_law_script", "_law_count", "_law_cells", "_law_found", "_law_mixed", "_law_k", "_law_j", "_law_cell", "_law_again"] ["_law_script", "_law_count"] (defScope sDraws) := ⟨rfl, rfl, rfl, by decide +kernel, rfl, by decide +kernel, by decide +kernel⟩
/-- between two turns: the cells at c, what was found at f -/
def DInv (H : Hp) (a c f : Addr) (i : Nat) (σ : St) (H' : Hp) : Prop := ∃ (cs fs : List Int) (m : Int) (v5 v6 v7 v8 : Option V), σ = [some (.ref a), some (.int 120), some (.ref c), some (.ref f), some (.int m), v5, v6, v7, v8] ∧
  Same H H' ∧ H' c = some (.lst (cs.map V.int)) ∧ 0 < cs.length ∧ cs.length ≤ 63 ∧ H' f = some (.lst (fs.map V.int)) ∧ fs.length ≤ i ∧ 0 ≤ m ∧ m < 2147483647
theorem ok_draws {f : Addr} {fd : FuncData} (F : Fun K "_law_draws" "_law_draws" sDraws f fd) (T : Bi mg) : FnOk P w K mg base CX0 1 f fd ["_law_script", "_law_count"] (spDraws K) := by
  refine F.ok scD (fun vs H Q E h => ?_) (fun cdv A outer s H vs Q E hr h => ?_)
  · obtain ⟨a, ns, rfl, _⟩ := h
    rfl
  · obtain ⟨a, ns, rfl, hS, hz, k⟩ := h
    have hu := hu_of hr
    refine ⟨_, pss_cons (ps_set (i := 2) scD.nd rfl (Or.inl rfl) (pe_callTy call_list_of (by rfl) T.list bi_list (pa_cons (pv 0) pa_nil)))
      (Evl.pss_cut (ps_if (pt_cmpR op_eq (pe_callB call_len_seq (by rfl) T.len PySem.boot_len (pa_cons (pv 2) pa_nil)) pe_int (nomark _)) (pss_one (ps_set (i := 2) scD.nd rfl (Or.inl rfl) (pe_lst (pa_cons pe_int pa_nil)))) pss_nil)
      (pss_cons (ps_set (i := 3) scD.nd rfl (Or.inl rfl) (pe_lst pa_nil))
      (pss_cons (ps_set (i := 4) scD.nd rfl (Or.inl rfl) pe_int)
      (pss_cons (ps_for PassesOwn.never rfl (pi_range1 rfl T.range (pa_cons (pv 1) pa_nil)) (pg_name (i := 5) scD.nd rfl (Or.inl rfl))
        (pss_cons (ps_set (i := 6) scD.nd rfl (Or.inl rfl) (pe_op op_modN (pv 5) (pe_callB call_len_seq (by rfl) T.len PySem.boot_len (pa_cons (pv 2) pa_nil))))
        (pss_cons (ps_set (i := 7) scD.nd rfl (Or.inl rfl) (pe_ix ix_list (pv 2) (pv 6) (fun _ _ => rfl)))
        (pss_cons (ps_set (i := 4) scD.nd rfl (Or.inl rfl) (pe_op op_mod (pe_callTy call_int1 (by rfl) T.int bi_int (pa_cons
            (pe_op op_add (pe_op op_add (pe_op op_add (pe_op op_mul (pv 4) pe_int) (pe_op op_mul (pe_op op_mod (pe_callTy call_int1 (by rfl) T.int bi_int (pa_cons (pv 7) pa_nil)) pe_int) pe_int)) (pe_op op_mul (pv 5) pe_int)) pe_int) pa_nil)) pe_int))
        (pss_cons (ps_set (i := 8) scD.nd rfl (Or.inl rfl) (pe_op op_mod (pe_callTy call_int1 (by rfl) T.int bi_int (pa_cons
            (pe_op op_add (pe_op op_add (pe_op op_mul (pv 4) (pv 4)) (pe_op op_mul pe_int (pv 4))) (pv 5)) pa_nil)) pe_int))
        (pss_one (ps_if (pt_cmpR op_ge (pv 7) (pe_op op_pow pe_int pe_int) (nomark _))
          (pss_cons (ps_expr (pe_bm PySem.F.plainAttrs_list PySem.F.slot_list_append PySem.F.type_list_append mt_append (pv 3) (pa_cons (pe_op op_mod (pe_callTy call_int1 (by rfl) T.int bi_int (pa_cons (pv 7) pa_nil)) pe_int) pa_nil)))
            (pss_one (ps_asg (pe_op op_fdiv (pv 7) pe_int) (pg_sub (pv 2) (pv 6) set_list))))
          (pss_one (ps_expr (pe_bm PySem.F.plainAttrs_list PySem.F.slot_list_append PySem.F.type_list_append mt_append (pv 3) (pa_cons (pe_op op_mod (pe_callTy call_int1 (by rfl) T.int bi_int (pa_cons (pv 8) pa_nil)) pe_int) pa_nil))))))))))) 
      (pss_cons (ps_expr (pe_bm0 PySem.F.plainAttrs_list PySem.F.slot_list_reverse PySem.F.type_list_reverse mt_reverse (pv 3)))
      (pss_one (ps_ret (pv 3)))))))), ?_⟩
    refine ⟨_, rfl, a, _, rfl, .inl hS, fun c hc => ?_⟩
    -- behind the first two statements: a list of at least one number stands at some new place
    refine ⟨fun σ H' => ∃ (c : Addr) (cs : List Int), σ = [some (.ref a), some (.int 120), some (.ref c), none, none, none, none, none, none] ∧ Same H H' ∧ H c = none ∧ H' c = some (.lst (cs.map V.int)) ∧ 0 < cs.length ∧ cs.length ≤ 63, ?_, ?_⟩
    · refine ⟨_, rfl, c, _, rfl, .inl (SqL.of upd_same), rfl, _, rfl, ?_⟩
      have s1 : Same H (upd H c (.lst (ns.map V.int))) := same_new hc
      refine ite2 (fun _ => ?_) (fun n => ?_)
      · refine ⟨by show 1 ≤ sizeLine; decide, fun p hp => ?_⟩
        have e : H p = none := s1.free hp
        exact ⟨p, [7], rfl, s1.trans (same_new hp), e, upd_same, by decide, by decide⟩
      · refine ⟨c, ns, rfl, s1, hc, upd_same, ?_, hz⟩
        cases ns with
        | nil => exact absurd (decide_eq_true rfl) n
        | cons x r => exact Nat.zero_lt_succ _
    · rintro σ H1 ⟨c, cs, rfl, s1, hc, hcs, hpos, hle⟩
      refine ⟨Nat.zero_le _, fun f hf => ?_⟩
      have ncf : c ≠ f := ne_of_none hcs hf
      have hf0 : H f = none := s1.free hf
      refine ⟨_, rfl, 120, rfl, by decide, by decide, for_range (lo := 0) (n := 120) (DInv H a c f)
        ⟨cs, [], 12345, none, none, none, none, rfl, s1.trans (same_new hf), by rw [upd_ne ncf]; exact hcs, hpos, hle, upd_same, Nat.le_refl _, by decide, by decide⟩ ?_ ?_⟩
      · rintro i σ H' hi ⟨cs, fs, m, v5, v6, v7, v8, rfl, s2, hc2, hp2, hl2, hf2, hfl, m0, m1⟩
        have hl0 : (0 : Int) < ((cs.map V.int).length : Int) := by rw [List.length_map]; omega
        have em : ((0 : Int) + (i : Int)).fmod ((cs.map V.int).length : Int) = ((0 : Int) + (i : Int)) % ((cs.map V.int).length : Int) := Int.fmod_eq_emod_of_nonneg _ (by omega)
        have q0 : 0 ≤ ((0 : Int) + (i : Int)) % ((cs.map V.int).length : Int) := Int.emod_nonneg _ (by omega)
        have q1 : ((0 : Int) + (i : Int)) % ((cs.map V.int).length : Int) < ((cs.map V.int).length : Int) := Int.emod_lt_of_pos _ hl0
        obtain ⟨j, hj⟩ := Int.eq_ofNat_of_zero_le q0
        have hjl : j < cs.length := by
          rw [List.length_map] at hj q1
          omega
        have hat : (cs.map V.int)[j]? = some (V.int cs[j]) := by rw [List.getElem?_map, List.getElem?_eq_getElem hjl]; rfl
        -- j = k % len(cells); cell = cells[j]
        refine ⟨_, rfl, _, rfl, c, _, rfl, .inl (SqL.of hc2), _, _, rfl, rfl, by omega, ?_⟩
        refine ⟨_, rfl, _, rfl, c, _, _, _, rfl, rfl, SqL.of hc2, at_of (em.trans hj) hat, ?_⟩
        -- mixed
        refine ⟨_, rfl, _, _, rfl, rfl, .inr ⟨by decide, by decide⟩, _, rfl, .inl ⟨_, rfl, _, _, rfl, rfl, by show (0 : Int) < 1000003; decide, _, _, rfl, rfl, .inr ⟨by decide, by decide⟩, _, _, rfl, rfl, _, rfl, _, _, rfl, rfl, .inr ⟨by decide, by decide⟩, _, _, rfl, rfl, _, _, rfl, rfl, .inl ⟨_, rfl, _, _, rfl, rfl, by show (0 : Int) < 2147483647; decide, ?_⟩⟩⟩
        have M0 : 0 ≤ (m * 48271 + cs[j] % 1000003 * 69621 + ((0 : Int) + (i : Int)) * 7919 + 11) % 2147483647 := Int.emod_nonneg _ (by decide)
        have M1 : (m * 48271 + cs[j] % 1000003 * 69621 + ((0 : Int) + (i : Int)) * 7919 + 11) % 2147483647 < 2147483647 := Int.emod_lt_of_pos _ (by decide)
        -- again
        refine ⟨_, rfl, _, rfl, _, _, rfl, rfl, .inl ⟨by omega, by omega⟩, _, rfl, _, _, rfl, rfl, .inl ⟨by decide, by decide⟩, _, _, rfl, rfl, _, rfl, _, _, rfl, rfl, .inl ⟨_, rfl, _, _, rfl, rfl, by show (0 : Int) < 1000003; decide, ?_⟩⟩
        -- if cell >= 10 ** 18
        refine ⟨_, rfl, _, _, rfl, rfl, ⟨by decide, by decide, by decide⟩, _, _, rfl, rfl, _, rfl, ?_⟩
        have small : (fs.map V.int).length < sizeLine := by
          rw [List.length_map]
          exact small1000 (by omega)
        have grown : ∀ z : Int, fs.map V.int ++ [V.int z] = (fs ++ [z]).map V.int := fun z => by rw [List.map_append]; rfl
        refine ite2 (fun _ => ?_) (fun _ => ?_)
        · -- found.append(cell % 1000); cells[j] = cell // 1000
          refine ⟨_, rfl, .inl ⟨rfl, _, SqL.of hf2⟩, _, rfl, .inl ⟨_, rfl, _, _, rfl, rfl, by show (0 : Int) < 1000; decide, f, _, _, rfl, rfl, hf2, small, ?_⟩⟩
          refine ⟨_, rfl, _, _, rfl, rfl, ⟨by decide, by decide⟩, _, rfl, _, rfl, c, _, _, j, rfl, rfl, by rw [upd_ne ncf]; exact hc2, ?_, ?_⟩
          · unfold ixN
            rw [em, hj, if_pos (by omega), if_pos (by rw [List.length_map]; omega)]
            rfl
          · refine ⟨cs.set j (cs[j] / 1000), fs ++ [cs[j] % 1000], _, _, _, _, _, rfl, ?_, ?_, by rw [List.length_set]; exact hp2, by rw [List.length_set]; exact hl2, ?_, by rw [List.length_append]; exact Nat.succ_le_succ hfl, M0, M1⟩
            · exact ((Same.but (((Same.but s2 f).upd2 _).same hf0) c).upd2 _).same hc
            · rw [upd_same, List.map_set]
            · rw [upd_ne ncf.symm, upd_same, grown]
        · -- found.append(again % 1000)
          refine ⟨_, rfl, .inl ⟨rfl, _, SqL.of hf2⟩, _, rfl, .inl ⟨_, rfl, _, _, rfl, rfl, by show (0 : Int) < 1000; decide, f, _, _, rfl, rfl, hf2, small, ?_⟩⟩
          refine ⟨cs, _, _, _, _, _, _, rfl, ?_, by rw [upd_ne ncf]; exact hc2, hp2, hl2, (by rw [upd_same]; exact congrArg (fun l => some (HO.lst l)) (grown _)), by rw [List.length_append]; exact Nat.succ_le_succ hfl, M0, M1⟩
          exact ((Same.but s2 f).upd2 _).same hf0
      · rintro σ H' ⟨cs, fs, m, v5, v6, v7, v8, rfl, s2, hc2, hp2, hl2, hf2, hfl, m0, m1⟩
        refine ⟨_, rfl, .inl ⟨rfl, _, SqL.of hf2⟩, f, _, rfl, rfl, hf2, ?_⟩
        refine ⟨_, rfl, ?_⟩
        refine k f fs.reverse _ (((Same.but s2 f).upd2 _).same hf0) hf0 ?_
        rw [upd_same, List.map_reverse]
end
end KJ

/-! _law_machine and Machine.__init__. -/
namespace KJ
open PySem L2 TL
/-- lists at S may have changed, all else stands; tuples stand -/
structure Mv (S : List Addr) (H H' : Hp) : Prop where
  off : ∀ b o, H b = some o → b ∉ S → H' b = some o
  tup : ∀ t xs, H t = some (.tup xs) → H' t = some (.tup xs)
theorem Mv.refl (S : List Addr) (H : Hp) : Mv S H H := ⟨fun _ _ h _ => h, fun _ _ h => h⟩
theorem Mv.trans {S : List Addr} {H H1 H2 : Hp} (a : Mv S H H1) (b : Mv S H1 H2) : Mv S H H2 := ⟨fun c o h n => b.off c o (a.off c o h n) n, fun t xs h => b.tup t xs (a.tup t xs h)⟩
theorem Mv.lst {S : List Addr} {H H' : Hp} (a : Mv S H H') {x : Addr} {l : List V} {o : HO} (h : H' x = some (.lst l)) (m : x ∈ S) : Mv S H (upd H' x o) :=
  a.trans ⟨fun b u e n => by rw [upd_ne fun z => n (by rw [z]; exact m)]; exact e, fun t xs e => by rw [upd_ne fun z => by rw [z, h] at e; cases e]; exact e⟩
theorem Mv.new {S : List Addr} {H H' : Hp} (a : Mv S H H') {p : Addr} {o : HO} (h : H' p = none) : Mv S H (upd H' p o) :=
  a.trans ⟨fun b u e _ => by rw [upd_ne (ne_of_none e h)]; exact e, fun t xs e => by rw [upd_ne (ne_of_none e h)]; exact e⟩
theorem But.own {d : Addr} {H H' : Hp} (s : But d H H') {x : Addr} {o : HO} (h : H x = none) : But d H (L2.upd H' x o) := fun b u e n => by
  rw [upd_ne (ne_of_none e h)]
  exact s b u e n
theorem But.free {d : Addr} {H H' : Hp} (s : But d H H') {x : Addr} (h : H' x = none) (n : x ≠ d) : H x = none := by
  cases e : H x with
  | none => rfl
  | some o =>
    rw [s x o e n] at h
    cases h
/-- rows that stand off S -/
def RowsX (S : List Addr) (H : Hp) : List V → List (List (Nat × Nat)) → Prop := Paired fun v row => ∃ r xs, v = .ref r ∧ r ∉ S ∧ H r = some (.lst xs) ∧ PairsAt H xs row
theorem RowsX.keep {S : List Addr} {H H' : Hp} (m : Mv S H H') {vs : List V} {rows : List (List (Nat × Nat))} (h : RowsX S H vs rows) : RowsX S H' vs rows :=
  Paired.mapP h fun _ _ ⟨r, xs, e, n, q, p⟩ => ⟨r, xs, e, n, m.off _ _ q n, p.keep m.tup⟩
theorem RowsX.less {S S' : List Addr} {H : Hp} (m : ∀ x ∈ S', x ∈ S) {vs : List V} {rows : List (List (Nat × Nat))} (h : RowsX S H vs rows) : RowsX S' H vs rows :=
  Paired.mapP h fun _ _ ⟨r, xs, e, n, q, p⟩ => ⟨r, xs, e, fun z => n (m _ z), q, p⟩
theorem RowsX.more {S : List Addr} {H : Hp} {x : Addr} (hx : H x = none) {vs : List V} {rows : List (List (Nat × Nat))} (h : RowsX S H vs rows) : RowsX (x :: S) H vs rows :=
  Paired.mapP h fun _ _ ⟨r, xs, e, n, q, p⟩ => ⟨r, xs, e, fun z => (List.mem_cons.mp z).elim (fun y => ne_of_none q hx y) n, q, p⟩
theorem RowsX.rows {S : List Addr} {H : Hp} {vs : List V} {rows : List (List (Nat × Nat))} (h : RowsX S H vs rows) : RowsL H vs rows :=
  Paired.mapP h fun _ _ ⟨r, xs, e, _, q, p⟩ => ⟨r, xs, e, q, p⟩
/-! ### _law_machine -/
def spMach : Sp := fun vs H Q _ => ∃ (d : Addr) (ni no : Nat) (lead : Int) (ds : List Int), vs = [.ref d, .int (ni : Int), .int (no : Int), .int lead, .int 4] ∧ 1 ≤ ni ∧ ni ≤ 12 ∧ 1 ≤ no ∧ no ≤ 3 ∧ -3 ≤ lead ∧ lead ≤ 2 ∧ H d = some (.lst (ds.map V.int)) ∧
  ∀ (q lo lr : Addr) (op : List Nat) (rs : List V) (rows : List (List (Nat × Nat))) (ds' : List Int) (H' : Hp), But d H H' → H' d = some (.lst (ds'.map V.int)) → H' q = some (.tup [.ref lo, .ref lr]) →
    H' lo = some (.lst (nats op)) → H' lr = some (.lst rs) → RowsL H' rs rows → Mc.Ok ⟨ni, no, lead, op, rows⟩ → Q (.ref q) H'
section
variable {P : Program} {w : World} {K : PySem.W.Frag} {mg : Str → Option Value} {base : Heap}
def nMach : List Str := ["_law_draws_here", "_law_inputs", "_law_outputs", "_law_lead", "_law_most", "_law_count", "_law_opening", "_law_rows", "_law_state", "_law_row", "_law_letter", "_law_target", "_law_k"]
def pMach : List Str := ["_law_draws_here", "_law_inputs", "_law_outputs", "_law_lead", "_law_most"]
theorem scMa : FnScope nMach pMach (defScope sMach) := ⟨rfl, rfl, rfl, by decide +kernel, rfl, by decide +kernel, by decide +kernel⟩
/-- a def of the module, called by its name -/
structure Gd (P : Program) (w : World) (K : PySem.W.Frag) (mg : Str → Option Value) (base : Heap) (x : Str) (k : Nat) (ps : List Str) (sp : Sp) (f : Addr) (fd : FuncData) : Prop where
  ok : FnOk P w K mg base CX0 k f fd ps sp
  g : mg x = some (.ref f)
  kp : PySem.W.keepIn K (.ref f) = true
  b : Binds K fd ps []
/-- the inner loop: a row that grows -/
def RInv (H : Hp) (d lo lr ρ : Addr) (ni no cnt : Nat) (cz lead : Int) (op : List Nat) (rows : List (List (Nat × Nat))) (rs : List V) (v8 : Option V) (i : Nat) (σ : St) (H' : Hp) : Prop := ∃ (v10 v11 : Option V) (ds : List Int) (xs : List V) (row : List (Nat × Nat)),
  σ = [some (.ref d), some (.int (ni : Int)), some (.int (no : Int)), some (.int lead), some (.int 4), some (.int cz), some (.ref lo), some (.ref lr), v8, some (.ref ρ), v10, v11, none] ∧
  But d H H' ∧ H' d = some (.lst (ds.map V.int)) ∧ H' lo = some (.lst (nats op)) ∧ H' lr = some (.lst rs) ∧ RowsX [ρ, d, lr, lo] H' rs rows ∧ H' ρ = some (.lst xs) ∧ PairsAt H' xs row ∧ row.length = i ∧ (∀ p ∈ row, p.1 < cnt ∧ p.2 < no)
/-- the outer loop: the rows that are made -/
def OInv (H : Hp) (d lo lr : Addr) (ni no cnt : Nat) (cz lead : Int) (op : List Nat) (i : Nat) (σ : St) (H' : Hp) : Prop := ∃ (v8 v9 v10 v11 : Option V) (ds : List Int) (rs : List V) (rows : List (List (Nat × Nat))),
  σ = [some (.ref d), some (.int (ni : Int)), some (.int (no : Int)), some (.int lead), some (.int 4), some (.int cz), some (.ref lo), some (.ref lr), v8, v9, v10, v11, none] ∧
  But d H H' ∧ H' d = some (.lst (ds.map V.int)) ∧ H' lo = some (.lst (nats op)) ∧ H' lr = some (.lst rs) ∧ RowsX [d, lr, lo] H' rs rows ∧ rows.length = i ∧ (∀ r ∈ rows, r.length = ni ∧ ∀ p ∈ r, p.1 < cnt ∧ p.2 < no)
theorem ok_mach {f fT : Addr} {fd fdT : FuncData} (F : Fun K "_law_machine" "_law_machine" sMach f fd) (T : Bi mg) (GT : Gd P w K mg base "_law_take" 1 ["_law_draws_here", "_law_limit"] spTake fT fdT) : FnOk P w K mg base CX0 2 f fd pMach spMach := by
  refine F.ok scMa (fun vs H Q E h => ?_) (fun cdv A outer s H vs Q E hr h => ?_)
  · obtain ⟨d, ni, no, lead, ds, rfl, _⟩ := h
    rfl
  · obtain ⟨d, ni, no, lead, ds, rfl, i1, i2, o1, o2, l1, l2, hd, k⟩ := h
    refine ⟨_, pss_cons (ps_set (i := 5) scMa.nd rfl (Or.inl rfl) (pe_op op_add pe_int (pe_call GT.ok hr rfl GT.g GT.kp GT.b .nil pass0 (pa_cons (pv 0) (pa_cons (pv 4) pa_nil)))))
      (pss_cons (ps_setLc (i := 6) (own := [("_law_k", 12)]) (g := gName 12) (tt := tYes) (te := tCall spTake [] E0 (tCons (tVar 0) (tCons (tVar 2) tNil))) rfl scMa.nd rfl rfl (sw_true rfl rfl rfl (by decide +kernel))
          (pi_range1 rfl T.range (pa_cons (pe_callB (call_max2 rfl) (by rfl) T.max bi_max (pa_cons pe_int (pa_cons (pe_un un_neg (pv 3)) pa_nil))) pa_nil)) (blkOk_by (N := nMach) (sc := defScope sMach) (by decide +kernel))
          (fun _ _ _ _ _ => pg_name (i := 12) scMa.nd rfl (Or.inl rfl)) (fun _ _ _ _ _ => pts_nil) (fun _ _ _ _ _ => pe_call GT.ok hr rfl GT.g GT.kp GT.b .nil pass0 (pa_cons (pv 0) (pa_cons (pv 2) pa_nil))))
      (pss_cons (ps_set (i := 7) scMa.nd rfl (Or.inl rfl) (pe_lst pa_nil))
      (pss_cons (ps_for PassesOwn.never rfl (pi_range1 rfl T.range (pa_cons (pv 5) pa_nil)) (pg_name (i := 8) scMa.nd rfl (Or.inl rfl))
        (pss_cons (ps_set (i := 9) scMa.nd rfl (Or.inl rfl) (pe_lst pa_nil))
        (pss_cons (ps_for PassesOwn.never rfl (pi_range1 rfl T.range (pa_cons (pv 1) pa_nil)) (pg_name (i := 10) scMa.nd rfl (Or.inl rfl))
          (pss_cons (ps_set (i := 11) scMa.nd rfl (Or.inl rfl) (pe_call GT.ok hr rfl GT.g GT.kp GT.b .nil pass0 (pa_cons (pv 0) (pa_cons (pv 5) pa_nil))))
          (pss_one (ps_expr (pe_bm PySem.F.plainAttrs_list PySem.F.slot_list_append PySem.F.type_list_append mt_append (pv 9) (pa_cons (pe_tup (pa_cons (pv 11) (pa_cons (pe_call GT.ok hr rfl GT.g GT.kp GT.b .nil pass0 (pa_cons (pv 0) (pa_cons (pv 2) pa_nil))) pa_nil))) pa_nil))))))
        (pss_one (ps_expr (pe_bm PySem.F.plainAttrs_list PySem.F.slot_list_append PySem.F.type_list_append mt_append (pv 7) (pa_cons (pv 9) pa_nil)))))))
      (pss_one (ps_ret (pe_tup (pa_cons (pv 6) (pa_cons (pv 7) pa_nil)))))))), ?_⟩
    -- count
    refine ⟨_, rfl, _, rfl, d, 4, ds, rfl, by decide, hd, fun c0 ds1 hc0 => ?_⟩
    refine ⟨1, (c0 : Int), rfl, rfl, ?_⟩
    -- opening
    have hmax : ∀ a b : Int, (if b > a then b else a) = max a b := fun a b => by
      split <;> omega
    have s1 : But d H (upd H d (.lst (ds1.map V.int))) := But.upd d H _
    refine ⟨_, rfl, lead, rfl, _, _, rfl, _, rfl, ?_, ?_, fun lo hlo => ?_⟩
    · rw [hmax]; omega
    · rw [hmax]; omega
    have nlod : lo ≠ d := fun e => by
      rw [e, upd_same] at hlo
      cases hlo
    have hlo0 : H lo = none := s1.free hlo nlod
    refine lc_range (lo := 0) (fun i H' => But d H H' ∧ (∃ ds' : List Int, H' d = some (.lst (ds'.map V.int))) ∧ ∃ op : List Nat, H' lo = some (.lst (nats op)) ∧ op.length = i ∧ ∀ n ∈ op, n < no) ?_ ?_ ?_
    · exact ⟨s1.new hlo, ⟨ds1, by rw [upd_ne nlod.symm, upd_same]⟩, [], upd_same, rfl, fun n hn => nomatch hn⟩
    · rintro i H' hi ⟨s2, ⟨ds2, hd2⟩, op, hop, hol, hob⟩
      refine ⟨rfl, ?_⟩
      refine ⟨_, rfl, _, rfl, d, no, ds2, rfl, by omega, hd2, fun n ds3 hn => ?_⟩
      refine ⟨nats op, by rw [upd_ne nlod]; exact hop, ?_, ?_⟩
      · unfold nats
        rw [List.length_map]
        rw [hmax] at hi
        exact small1000 (by omega)
      · refine ⟨(s2.upd2 _).own hlo0, ⟨ds3, by rw [upd_ne nlod.symm, upd_same]⟩, op ++ [n], ?_, by rw [List.length_append, hol]; rfl, fun q hq => ?_⟩
        · rw [upd_same]
          unfold nats
          rw [List.map_append]
          rfl
        · rcases List.mem_append.mp hq with z | z
          · exact hob q z
          · rw [List.mem_singleton.mp z]
            exact hn
    · rintro H1 ⟨s2, ⟨ds2, hd2⟩, op, hop, hol, hob⟩
      have hol' : (op.length : Int) = max 0 (-lead) := by
        rw [hol, hmax]
        omega
      generalize hcz : (1 : Int) + (c0 : Int) = cz
      have ecz : cz = ((c0 + 1 : Nat) : Int) := by omega
      refine ⟨Nat.zero_le _, fun lr hlr => ?_⟩
      have nlrd : lr ≠ d := fun e => by
        rw [e, hd2] at hlr
        cases hlr
      have nlrlo : lr ≠ lo := fun e => by
        rw [e, hop] at hlr
        cases hlr
      have hlr0 : H lr = none := s2.free hlr nlrd
      refine ⟨_, rfl, _, rfl, by omega, by omega, for_range (lo := 0) (OInv H d lo lr ni no (c0 + 1) (1 + (c0 : Int)) lead op) ?_ ?_ ?_⟩
      · exact ⟨none, none, none, none, ds2, [], [], rfl, s2.new hlr, by rw [upd_ne nlrd.symm]; exact hd2, by rw [upd_ne nlrlo.symm]; exact hop, upd_same, .nil, rfl, fun r hr => nomatch hr⟩
      · rintro i σ H2 hi ⟨v8, v9, v10, v11, ds, rs, rows, rfl, s3, hd3, hop3, hlr3, hrows, hrl, hrok⟩
        -- row = []
        refine ⟨Nat.zero_le _, fun ρ hρ => ?_⟩
        have nρd : ρ ≠ d := fun e => by
          rw [e, hd3] at hρ
          cases hρ
        have nρlo : ρ ≠ lo := fun e => by
          rw [e, hop3] at hρ
          cases hρ
        have nρlr : ρ ≠ lr := fun e => by
          rw [e, hlr3] at hρ
          cases hρ
        have hρ0 : H ρ = none := s3.free hρ nρd
        refine ⟨_, rfl, (ni : Int), rfl, by omega, by omega, for_range (lo := 0) (RInv H d lo lr ρ ni no (c0 + 1) (1 + (c0 : Int)) lead op rows rs (some (.int (0 + (i : Int))))) ?_ ?_ ?_⟩
        · exact ⟨v10, v11, ds, [], [], rfl, s3.new hρ, by rw [upd_ne nρd.symm]; exact hd3, by rw [upd_ne nρlo.symm]; exact hop3, by rw [upd_ne nρlr.symm]; exact hlr3, (hrows.more hρ).keep ((Mv.refl _ _).new hρ), upd_same, .nil, rfl, fun p hp => nomatch hp⟩
        · rintro j σ H3 hj ⟨w10, w11, ds3, xs, row, rfl, s4, hd4, hop4, hlr4, hrows4, hρ4, hpairs, hrowl, hrowok⟩
          have hj' : j < ni := by
            have := hj
            omega
          -- target = take(draws, count)
          refine ⟨_, rfl, _, rfl, d, c0 + 1, ds3, by show [V.ref d, V.int (1 + (c0 : Int))] = [V.ref d, V.int ((c0 + 1 : Nat) : Int)]; rw [hcz, ecz], Nat.succ_pos _, hd4, fun n1 ds4 hn1 => ?_⟩
          -- row.append((target, take(draws, outputs)))
          refine ⟨_, rfl, .inl ⟨rfl, _, SqL.of (by rw [upd_ne nρd]; exact hρ4)⟩, _, rfl, _, rfl, _, rfl, d, no, ds4, rfl, by omega, upd_same, fun n2 ds5 hn2 => ?_⟩
          refine ⟨by show 2 ≤ sizeLine; decide, fun t ht => ?_⟩
          rw [upd_upd] at ht ⊢
          have ndt : d ≠ t := fun e => by
            rw [← e, upd_same] at ht
            cases ht
          have nρt : ρ ≠ t := fun e => by
            rw [← e, upd_ne nρd, hρ4] at ht
            cases ht
          have hlot : lo ≠ t := fun e => by
            rw [← e, upd_ne nlod, hop4] at ht
            cases ht
          have hlrt : lr ≠ t := fun e => by
            rw [← e, upd_ne nlrd, hlr4] at ht
            cases ht
          have h1 : upd (upd H3 d (.lst (ds5.map V.int))) t (.tup [.int (n1 : Int), .int (n2 : Int)]) ρ = some (.lst xs) := by rw [upd_ne nρt, upd_ne nρd]; exact hρ4
          have hxl : xs.length = row.length := Paired.length hpairs
          refine ⟨ρ, xs, .ref t, rfl, rfl, h1, small1000 (by omega), ?_⟩
          have mv : Mv [ρ, d, lr, lo] H3 (upd (upd (upd H3 d (.lst (ds5.map V.int))) t (.tup [.int (n1 : Int), .int (n2 : Int)])) ρ (.lst (xs ++ [.ref t]))) :=
            ((Mv.lst (Mv.refl _ H3) hd4 (List.mem_cons_of_mem _ (List.mem_cons_self ..))).new ht).lst h1 (List.mem_cons_self ..)
          refine ⟨_, _, ds5, xs ++ [.ref t], row ++ [(n1, n2)], rfl, (((s4.upd2 _).new ht).own hρ0), by rw [upd_ne nρd.symm, upd_ne ndt, upd_same], by rw [upd_ne nρlo.symm, upd_ne hlot, upd_ne nlod]; exact hop4, by rw [upd_ne nρlr.symm, upd_ne hlrt, upd_ne nlrd]; exact hlr4, hrows4.keep mv, upd_same, ?_, by rw [List.length_append, hrowl]; rfl, fun p hp => ?_⟩
          · exact paired_snoc (hpairs.keep mv.tup) ⟨t, rfl, by rw [upd_ne nρt.symm, upd_same]⟩
          · rcases List.mem_append.mp hp with z | z
            · exact hrowok p z
            · rw [List.mem_singleton.mp z]
              exact ⟨hn1, hn2⟩
        · rintro σ H3 ⟨w10, w11, ds3, xs, row, rfl, s4, hd4, hop4, hlr4, hrows4, hρ4, hpairs, hrowl, hrowok⟩
          have hrl2 : rs.length = rows.length := Paired.length hrows4
          have hi' : i < c0 + 1 := by
            have := hi
            omega
          -- rows.append(row)
          refine ⟨_, rfl, .inl ⟨rfl, _, SqL.of hlr4⟩, _, rfl, lr, rs, _, rfl, rfl, hlr4, small1000 (by omega), ?_⟩
          have mv : Mv [d, lr, lo] H3 (upd H3 lr (.lst (rs ++ [.ref ρ]))) := Mv.lst (Mv.refl _ H3) hlr4 (List.mem_cons_of_mem _ (List.mem_cons_self ..))
          refine ⟨_, _, _, _, ds3, rs ++ [.ref ρ], rows ++ [row], rfl, s4.own hlr0, by rw [upd_ne nlrd.symm]; exact hd4, by rw [upd_ne nlrlo.symm]; exact hop4, upd_same, ?_, by rw [List.length_append, hrl]; rfl, fun r hr => ?_⟩
          · refine paired_snoc (RowsX.keep mv (hrows4.less fun x hx => List.mem_cons_of_mem _ hx)) ⟨ρ, xs, rfl, ?_, by rw [upd_ne nρlr]; exact hρ4, hpairs.keep mv.tup⟩
            simp [nρd, nρlr, nρlo]
          · rcases List.mem_append.mp hr with z | z
            · exact hrok r z
            · rw [List.mem_singleton.mp z]
              refine ⟨?_, hrowok⟩
              rw [hrowl]
              omega
      · rintro σ H2 ⟨v8, v9, v10, v11, ds, rs, rows, rfl, s3, hd3, hop3, hlr3, hrows, hrl, hrok⟩
        refine ⟨_, rfl, _, rfl, by show 2 ≤ sizeLine; decide, fun q hq => ?_⟩
        have n1 : lo ≠ q := ne_of_none hop3 hq
        have n2 : lr ≠ q := ne_of_none hlr3 hq
        have n3 : d ≠ q := ne_of_none hd3 hq
        have hrl' : rows.length = c0 + 1 := by
          rw [hrl]
          omega
        refine k q lo lr op rs rows ds _ (s3.new hq) (by rw [upd_ne n3]; exact hd3) upd_same (by rw [upd_ne n1]; exact hop3) (by rw [upd_ne n2]; exact hlr3) (hrows.keep ((Mv.refl _ _).new hq)).rows ?_
        refine ⟨i1, i2, o1, o2, l1, l2, hol', hob, ?_, ?_, fun r hr => ?_⟩
        · show 1 ≤ rows.length
          omega
        · show rows.length ≤ 4
          omega
        · show r.length = ni ∧ ∀ p ∈ r, p.1 < rows.length ∧ p.2 < no
          rw [hrl']
          exact hrok r hr
end
end KJ

/-! Machine.__init__. -/
namespace KJ
open PySem L2 TL
def rTO (K : PySem.W.Frag) : List V → Hp → VK → Prop := fun xs H Q => ∃ p ys, xs = [.ref p] ∧ ((SqL K H p ys ∧ ∀ l, H l = none → Q (.ref l) (upd H l (.tup ys))) ∨ (SqT K H p ys ∧ Q (.ref p) H))
/-- the class Machine -/
structure CM (K : PySem.W.Frag) (C : Addr) : Prop where
  cl : Cls K C
  n0 : NoAttr K C "inputs"
  n1 : NoAttr K C "outputs"
  n2 : NoAttr K C "lead"
  n3 : NoAttr K C "opening"
  n4 : NoAttr K C "rows"
def spMInit (C : Addr) : Sp := fun vs H Q _ => ∃ (p dx lo lr : Addr) (rs : List V) (M : Mc), vs = [.ref p, .int (M.inputs : Int), .int (M.outputs : Int), .int M.lead, .ref lo, .ref lr] ∧ M.Ok ∧ H p = some (.ins C dx []) ∧ H lo = some (.lst (nats M.opening)) ∧ H lr = some (.lst rs) ∧ RowsL H rs M.rows ∧
  ∀ H' : Hp, But p H H' → MAt C H' p M → Q .non H'
def nMI : List Str := ["self", "inputs", "outputs", "lead", "opening", "rows", "valid", "row", "pair"]
def pMI : List Str := ["self", "inputs", "outputs", "lead", "opening", "rows"]
theorem scMI : FnScope nMI pMI (defScope sMInit) := ⟨rfl, rfl, rfl, by decide +kernel, rfl, by decide +kernel, by decide +kernel⟩
/-- the names of the outer comprehension of self.rows -/
def scRow : Scope := { kind := .function, names := [(Str.ofString ".0", .local), (Str.ofString "row", .local), (Str.ofString "tuple", .globalImplicit)], isGenerator := false, isCoroutine := false }
/-- a list of numbers read off pairs -/
def tPr (K : PySem.W.Frag) (j : Int) : TE := tLc (iList K (tVar 7)) (gName 8) tYes (tOp (rIxT K) (tVar 8) (tC (.int j))) [8]
theorem pairs_read {K : PySem.W.Frag} {H : Hp} {r : Addr} {xs : List V} {row : List (Nat × Nat)} {σ : St} {Q : VK} (b : Bool) (h7 : σ[7]? = some (some (.ref r))) (hw : ∀ x, wipe ((wipe σ [8]).set 8 (some x)) [8] = wipe σ [8]) (h8 : ∀ x, ((wipe σ [8]).set 8 (some x))[8]? = some (some x))
    (hr : H r = some (.lst xs)) (hp : PairsAt H xs row) (hz : row.length ≤ 100) (h : ∀ D H', Same H H' → H' D = some (.lst (nats (row.map fun p => if b then p.2 else p.1))) → Q (.ref D) H') : tPr K (if b then 1 else 0) σ H Q := by
  refine ⟨_, h7, r, rfl, ⟨_, SqL.of hr⟩, fun D hD => lc_list (K := K) (a := r) (xs := xs) (fun i H' => Same H H' ∧ H' D = some (.lst (nats ((row.take i).map fun p => if b then p.2 else p.1)))) ⟨same_new hD, upd_same⟩ (fun i H' _ ⟨s, _⟩ => SqL.of (s _ _ hr)) ?_ ?_⟩
  · rintro i x H' hi ⟨s, hD'⟩
    obtain ⟨p, hrow, t, rfl, ht⟩ := paired_at hp hi
    have hi2 : i < row.length := (List.getElem?_eq_some_iff.mp hrow).1
    refine ⟨hw _, ?_⟩
    refine ⟨_, h8 _, t, _, (if b then 1 else 0), .int ((if b then p.2 else p.1 : Nat) : Int), rfl, rfl, SqT.of (s _ _ ht), ?_, _, hD', ?_, (Same.but s D).upd2 _ |>.same hD, ?_⟩
    · cases b <;> rfl
    · unfold nats
      rw [List.length_map, List.length_map, List.length_take]
      exact small1000 (by omega)
    · rw [upd_same, take_snoc hrow]
      unfold nats
      rw [List.map_append, List.map_append]
      rfl
  · rintro H' ⟨s, hD'⟩
    have e : row.take xs.length = row := List.take_of_length_le (by rw [Paired.length hp]; exact Nat.le_refl _)
    rw [e] at hD'
    exact h D H' s hD'
section
variable {P : Program} {w : World} {K : PySem.W.Frag} {mg : Str → Option Value} {base : Heap}
theorem ok_minit {f C fB : Addr} {fd fdB : FuncData} (F : Fun K "__init__" "Machine.__init__" sMInit f fd) (T : Bi mg) (c : CM K C) (GB : Gd P w K mg base "all_below" 1 ["numbers", "limit"] (spBelow K) fB fdB) : FnOk P w K mg base CX0 2 f fd pMI (spMInit C) := by
  refine F.ok scMI (fun vs H Q E h => ?_) (fun cdv A outer s H vs Q E hr h => ?_)
  · obtain ⟨p, dx, lo, lr, rs, M, rfl, _⟩ := h
    rfl
  · obtain ⟨p, dx, lo, lr, rs, M, rfl, O, hp, hlo, hlr, hrows, k⟩ := h
    refine ⟨_, (pss_cons (ps_set (i := 6) scMI.nd rfl (Or.inl rfl) (pe_and (pe_cmpR op_ge (pv 1) pe_int (nomark _)) <| pe_and (pe_cmpR op_ge (pv 2) pe_int (nomark _)) <| pe_one <| pe_chain op_le op_le (pe_un un_neg pe_int) (pv 3) pe_int))
      <| pss_cons (ps_set (i := 6) scMI.nd rfl (Or.inl rfl) (pe_and (pv 6) <| pe_and (pe_cmpR op_eq (pe_callB call_len_seq (by rfl) T.len PySem.boot_len (pa_cons (pv 4) pa_nil)) (pe_callB (call_max2 rfl) (by rfl) T.max bi_max (pa_cons pe_int <| pa_cons (pe_un un_neg (pv 3)) pa_nil)) (nomark _))
          <| pe_one <| pe_cmpR op_ge (pe_callB call_len_seq (by rfl) T.len PySem.boot_len (pa_cons (pv 5) pa_nil)) pe_int (nomark _)))
      <| pss_cons (ps_set (i := 6) scMI.nd rfl (Or.inl rfl) (pe_and (pv 6) <| pe_one <| pe_call GB.ok hr rfl GB.g GB.kp GB.b .nil pass0 (pa_cons (pv 4) <| pa_cons (pv 2) pa_nil)))
      <| pss_cons (ps_for PassesOwn.never rfl (pi_list (pv 5)) (pg_name (i := 7) scMI.nd rfl (Or.inl rfl))
        (pss_cons (ps_set (i := 6) scMI.nd rfl (Or.inl rfl) (pe_and (pv 6) <| pe_one <| pe_cmpR op_eq (pe_callB call_len_seq (by rfl) T.len PySem.boot_len (pa_cons (pv 7) pa_nil)) (pv 1) (nomark _)))
        <| pss_cons (ps_set (i := 6) scMI.nd rfl (Or.inl rfl) (pe_and (pv 6) <| pe_one <| pe_call GB.ok hr rfl GB.g GB.kp GB.b .nil pass0 (pa_cons (pe_lc (own := [("pair", 8)]) (g := gName 8) (tt := tYes) (te := tOp (rIxT K) (tVar 8) (tC (.int 0))) rfl scMI.nd (pi_list (pv 7)) (blkOk_by (N := nMI) (sc := defScope sMInit) (by decide +kernel))
            (fun _ _ _ _ _ => pg_name (i := 8) scMI.nd rfl (Or.inl rfl)) (fun _ _ _ _ _ => pts_nil) (fun _ _ _ _ _ => pe_ix ix_tup (pv 8) pe_int (fun _ _ => rfl))) <| pa_cons (pe_callB call_len_seq (by rfl) T.len PySem.boot_len (pa_cons (pv 5) pa_nil)) pa_nil)))
        <| pss_one (ps_set (i := 6) scMI.nd rfl (Or.inl rfl) (pe_and (pv 6) <| pe_one <| pe_call GB.ok hr rfl GB.g GB.kp GB.b .nil pass0 (pa_cons (pe_lc (own := [("pair", 8)]) (g := gName 8) (tt := tYes) (te := tOp (rIxT K) (tVar 8) (tC (.int 1))) rfl scMI.nd (pi_list (pv 7)) (blkOk_by (N := nMI) (sc := defScope sMInit) (by decide +kernel))
            (fun _ _ _ _ _ => pg_name (i := 8) scMI.nd rfl (Or.inl rfl)) (fun _ _ _ _ _ => pts_nil) (fun _ _ _ _ _ => pe_ix ix_tup (pv 8) pe_int (fun _ _ => rfl))) <| pa_cons (pv 2) pa_nil)))))
      <| pss_cons (ps_if (pt_not (pt_val (pv 6))) (pss_one ps_never) pss_nil)
      <| pss_cons (ps_fld (pv 0) (pv 1) rfl)
      <| pss_cons (ps_fld (pv 0) (pv 2) rfl)
      <| pss_cons (ps_fld (pv 0) (pv 3) rfl)
      <| pss_cons (ps_fld (pv 0) (pe_callTy call_tuple_of (by rfl) T.tuple bi_tuple (pa_cons (pv 4) pa_nil)) rfl)
      <| pss_one (ps_fld (pv 0) (pe_callTy call_tuple_of (by rfl) T.tuple bi_tuple (pa_cons
        (pe_lc (own := [("row", 7)]) (g := gName 7) (tt := tYes)
          (te := tCB (rTO K) (tCons (tLc (iList K (tVar 7)) (gName 8) tYes (tTup (tCons (tOp (rIxT K) (tVar 8) (tC (.int 0))) (tCons (tOp (rIxT K) (tVar 8) (tC (.int 1))) tNil))) [8]) tNil))
          rfl scMI.nd (pi_list (pv 5)) (blkOk_by (N := nMI) (sc := defScope sMInit) (by decide +kernel))
          (fun _ _ _ _ _ => pg_name (i := 7) scMI.nd rfl (Or.inl rfl)) (fun _ _ _ _ _ => pts_nil)
          (fun _ _ _ _ _ => pe_callTy call_tuple_of (by rfl) T.tuple bi_tuple (pa_cons
            (pe_lc (own := [("pair", 8)]) (g := gName 8) (tt := tYes) (te := tTup (tCons (tOp (rIxT K) (tVar 8) (tC (.int 0))) (tCons (tOp (rIxT K) (tVar 8) (tC (.int 1))) tNil)))
              rfl scMI.nd (pi_list (pv 7)) (blkOk_by (N := nMI) (sc := scRow) (by decide +kernel)) (fun _ _ _ _ _ => pg_name (i := 8) scMI.nd rfl (Or.inl rfl)) (fun _ _ _ _ _ => pts_nil)
              (fun _ _ _ _ _ => pe_tup (pa_cons (pe_ix ix_tup (pv 8) pe_int (fun _ _ => rfl)) <| pa_cons (pe_ix ix_tup (pv 8) pe_int (fun _ _ => rfl)) pa_nil)))
            pa_nil)))
        pa_nil)) rfl)), ?_⟩
    have i1 := O.i1
    have o1 := O.o1
    have l1 := O.l1
    have l2 := O.l2
    have hop := O.op
    have hrl : rs.length = M.rows.length := Paired.length hrows
    have r1 := O.r1
    have r2 := O.r2
    have i2 := O.i2
    -- valid = inputs >= 1 and outputs >= 1 and -3 <= lead <= 2
    refine ⟨_, rfl, _, _, rfl, rfl, _, rfl, ?_⟩
    rw [if_pos (decide_eq_true (by omega))]
    refine ⟨_, rfl, _, _, rfl, rfl, _, rfl, ?_⟩
    rw [if_pos (decide_eq_true (by omega))]
    refine ⟨_, rfl, _, rfl, _, _, rfl, rfl, _, rfl, ?_⟩
    rw [if_pos (decide_eq_true (by omega))]
    refine ⟨_, _, rfl, rfl, ?_⟩
    have e1 : decide (M.lead ≤ 2) = true := decide_eq_true (by omega)
    -- valid = valid and len(opening) == max(0, -lead) and len(rows) >= 1
    refine ⟨_, rfl, _, rfl, ?_⟩
    rw [if_pos e1]
    refine ⟨_, rfl, lo, _, rfl, .inl (SqL.of hlo), _, rfl, _, rfl, _, _, rfl, rfl, _, rfl, ?_⟩
    have e2 : V.int (((nats M.opening).length : Nat) : Int) = V.int (if -M.lead > 0 then -M.lead else 0) := by
      have : (((nats M.opening).length : Nat) : Int) = if -M.lead > 0 then -M.lead else 0 := by
        unfold nats
        rw [List.length_map, hop]
        split <;> omega
      rw [this]
    rw [if_pos (decide_eq_true e2)]
    refine ⟨_, rfl, lr, _, rfl, .inl (SqL.of hlr), _, _, rfl, rfl, ?_⟩
    have e3 : decide ((1 : Int) ≤ ((rs.length : Nat) : Int)) = true := decide_eq_true (by omega)
    -- valid = valid and all_below(opening, outputs)
    refine ⟨_, rfl, _, rfl, ?_⟩
    rw [if_pos e3]
    refine ⟨_, rfl, _, rfl, lo, M.opening, M.outputs, rfl, SqL.of hlo, O.opb, ?_⟩
    -- for row in rows
    refine ⟨_, rfl, lr, rfl, ⟨_, SqL.of hlr⟩, for_list (K := K) (a := lr) (xs := rs) (fun i σ H' => Same H H' ∧ ∃ v7 : Option V, σ = [some (.ref p), some (.int (M.inputs : Int)), some (.int (M.outputs : Int)), some (.int M.lead), some (.ref lo), some (.ref lr), some (.bl true), v7, none])
      ⟨Same.refl H, none, rfl⟩ (fun i σ H' _ ⟨s, _⟩ => SqL.of (s _ _ hlr)) ?_ ?_⟩
    · rintro i x σ H' hi ⟨s, v7, rfl⟩
      obtain ⟨row, hrow, r, xs, rfl, hr', hpairs⟩ := paired_at hrows hi
      obtain ⟨hrowl, hrowok⟩ := O.row row (List.mem_of_getElem? hrow)
      have hxl : xs.length = row.length := Paired.length hpairs
      have hp' : PairsAt H' xs row := hpairs.keep fun t ys => s t _
      refine ⟨_, rfl, true, rfl, ?_⟩
      refine ⟨_, rfl, r, _, rfl, .inl (SqL.of (s _ _ hr')), _, rfl, rfl, ?_⟩
      have e4 : V.int ((xs.length : Nat) : Int) = V.int (M.inputs : Int) := by rw [hxl, hrowl]
      refine ⟨_, rfl, _, rfl, ?_⟩
      rw [if_pos (decide_eq_true e4)]
      refine pairs_read (K := K) false (by rfl) (by exact fun _ => rfl) (by exact fun _ => rfl) (s _ _ hr') hp' (by omega) fun D H2 s2 hD => ?_
      refine ⟨_, rfl, lr, _, rfl, .inl (SqL.of (s2 _ _ (s _ _ hlr))), D, _, rs.length, rfl, SqL.of hD, fun n hn => ?_, ?_⟩
      · obtain ⟨q, hq, e⟩ := List.mem_map.mp hn
        have := (hrowok q hq).1
        rw [← e]
        show q.1 < rs.length
        omega
      refine ⟨_, rfl, true, rfl, ?_⟩
      refine iteT ?_
      refine pairs_read (K := K) true (by rfl) (by exact fun _ => rfl) (by exact fun _ => rfl) (s2 _ _ (s _ _ hr')) (hp'.keep fun t ys => s2 t _) (by omega) fun D2 H3 s3 hD2 => ?_
      refine ⟨_, rfl, D2, _, M.outputs, rfl, SqL.of hD2, fun n hn => ?_, ?_⟩
      · obtain ⟨q, hq, e⟩ := List.mem_map.mp hn
        have := (hrowok q hq).2
        rw [← e]
        exact this
      exact ⟨(s.trans s2).trans s3, _, rfl⟩
    · rintro σ H1 ⟨s1, v7, rfl⟩
      refine ⟨_, rfl, true, rfl, ?_⟩
      have b1 : But p H H1 := Same.but s1 p
      have nlop : lo ≠ p := ne_of hlo hp (by intro z; cases z)
      have nlrp : lr ≠ p := ne_of hlr hp (by intro z; cases z)
      -- self.inputs, self.outputs, self.lead
      refine ⟨_, rfl, _, rfl, p, C, dx, [], rfl, s1 _ _ hp, c.cl, c.n0, by show 0 < 1000; decide, ?_⟩
      refine ⟨_, rfl, _, rfl, p, C, dx, _, rfl, upd_same, c.cl, c.n1, by show 1 < 1000; decide, ?_⟩
      refine ⟨_, rfl, _, rfl, p, C, dx, _, rfl, upd_same, c.cl, c.n2, by rw [mi0, mi1]; show 2 < 1000; decide, ?_⟩
      rw [mi0, mi1, mi2, upd_upd, upd_upd]
      -- self.opening = tuple(opening)
      refine ⟨_, rfl, lo, _, rfl, .inl ⟨SqL.of (by rw [upd_ne nlop]; exact s1 _ _ hlo), fun to hto => ?_⟩⟩
      have ntop : to ≠ p := fun e => by
        rw [e, upd_same] at hto
        cases hto
      refine ⟨_, rfl, p, C, dx, _, rfl, by rw [upd_ne ntop.symm, upd_same], c.cl, c.n3, by show 3 < 1000; decide, ?_⟩
      rw [mi3]
      generalize hH5 : upd (upd (upd H1 p (.ins C dx ((["inputs", "outputs", "lead"] : List Str).zip [.int (M.inputs : Int), .int (M.outputs : Int), .int M.lead]))) to (.tup (nats M.opening))) p (.ins C dx ((["inputs", "outputs", "lead", "opening"] : List Str).zip [.int (M.inputs : Int), .int (M.outputs : Int), .int M.lead, .ref to])) = H5
      have b5 : But p H H5 := by
        rw [← hH5]
        exact ((b1.upd2 _).new hto).upd2 _
      have hp5 : H5 p = some (.ins C dx ((["inputs", "outputs", "lead", "opening"] : List Str).zip [.int (M.inputs : Int), .int (M.outputs : Int), .int M.lead, .ref to])) := by
        rw [← hH5]
        exact upd_same
      have hto5 : H5 to = some (.tup (nats M.opening)) := by
        rw [← hH5, upd_ne ntop, upd_same]
      have nt : ∀ t ys, H t = some (.tup ys) → H5 t = some (.tup ys) := fun t ys e => b5 _ _ e (ne_of e hp (by intro z; cases z))
      -- self.rows
      refine ⟨_, rfl, lr, rfl, ⟨_, SqL.of (b5 _ _ hlr nlrp)⟩, fun D hD => lc_list (K := K) (a := lr) (xs := rs) (fun i H' => Same H5 H' ∧ ∃ acc, H' D = some (.lst acc) ∧ acc.length = i ∧ RowsT H' acc (M.rows.take i)) ?_ (fun i H' _ ⟨s, _⟩ => SqL.of (s _ _ (b5 _ _ hlr nlrp))) ?_ ?_⟩
      · exact ⟨same_new hD, [], upd_same, rfl, .nil⟩
      · rintro i x H' hi ⟨s, acc, hacc, hal, hrt⟩
        obtain ⟨row, hrow, r, xs, rfl, hr', hpairs⟩ := paired_at hrows hi
        have hi2 : i < M.rows.length := (List.getElem?_eq_some_iff.mp hrow).1
        obtain ⟨hrowl, hrowok⟩ := O.row row (List.mem_of_getElem? hrow)
        have hxl : xs.length = row.length := Paired.length hpairs
        have hr5 : H' r = some (.lst xs) := s _ _ (b5 _ _ hr' (ne_of hr' hp (by intro z; cases z)))
        have hp' : PairsAt H' xs row := (hpairs.keep nt).keep fun t ys => s t _
        refine ⟨rfl, ?_⟩
        refine ⟨_, rfl, r, rfl, ⟨_, SqL.of hr5⟩, fun D2 hD2 => lc_list (K := K) (a := r) (xs := xs) (fun j H2 => Same H' H2 ∧ ∃ acc2, H2 D2 = some (.lst acc2) ∧ acc2.length = j ∧ PairsAt H2 acc2 (row.take j)) ?_ (fun j H2 _ ⟨s2, _⟩ => SqL.of (s2 _ _ hr5)) ?_ ?_⟩
        · exact ⟨same_new hD2, [], upd_same, rfl, .nil⟩
        · rintro j y H2 hj ⟨s2, acc2, hacc2, hal2, hpt⟩
          obtain ⟨q, hq, t, rfl, ht⟩ := paired_at hp' hj
          have hj2 : j < row.length := (List.getElem?_eq_some_iff.mp hq).1
          have ht2 := s2 _ _ ht
          refine ⟨rfl, ?_⟩
          refine ⟨_, rfl, t, _, 0, .int (q.1 : Int), rfl, rfl, SqT.of ht2, rfl, _, rfl, t, _, 1, .int (q.2 : Int), rfl, rfl, SqT.of ht2, rfl, by show 2 ≤ sizeLine; decide, fun u hu => ?_⟩
          have nDu : D2 ≠ u := ne_of_none hacc2 hu
          refine ⟨acc2, by rw [upd_ne nDu]; exact hacc2, small1000 (by omega), ((Same.but s2 D2).new hu |>.upd2 _).same hD2, acc2 ++ [.ref u], upd_same, by rw [List.length_append, hal2]; rfl, ?_⟩
          rw [take_snoc hq]
          refine paired_snoc (hpt.keep fun v ys e => ?_) ⟨u, rfl, by rw [upd_ne nDu.symm, upd_same]⟩
          rw [upd_ne (ne_of e hacc2 (by intro z; cases z)), upd_ne (ne_of_none e hu)]
          exact e
        · rintro H2 ⟨s2, acc2, hacc2, hal2, hpt⟩
          have e : row.take xs.length = row := List.take_of_length_le (by omega)
          rw [e] at hpt
          refine ⟨D2, _, rfl, .inl ⟨SqL.of hacc2, fun u hu => ?_⟩⟩
          have haccD : H2 D = some (.lst acc) := s2 _ _ hacc
          have nDu : D ≠ u := ne_of_none haccD hu
          refine ⟨acc, by rw [upd_ne nDu]; exact haccD, small1000 (by omega), ((Same.but (s.trans s2) D).new hu |>.upd2 _).same hD, acc ++ [.ref u], upd_same, by rw [List.length_append, hal]; rfl, ?_⟩
          have kt : ∀ v ys, H2 v = some (.tup ys) → upd (upd H2 u (.tup acc2)) D (.lst (acc ++ [.ref u])) v = some (.tup ys) := fun v ys e => by
            rw [upd_ne (ne_of e haccD (by intro z; cases z)), upd_ne (ne_of_none e hu)]
            exact e
          rw [take_snoc hrow]
          exact paired_snoc (hrt.keep fun v ys e => kt v ys (s2 _ _ e)) ⟨u, acc2, rfl, by rw [upd_ne nDu.symm, upd_same], hpt.keep kt⟩
      · rintro H6 ⟨s6, acc, hacc, hal, hrt⟩
        have e : M.rows.take rs.length = M.rows := List.take_of_length_le (by omega)
        rw [e] at hrt
        refine ⟨D, _, rfl, .inl ⟨SqL.of hacc, fun tr htr => ?_⟩⟩
        have hp6 := s6 _ _ hp5
        have hto6 := s6 _ _ hto5
        have npt : p ≠ tr := ne_of_none hp6 htr
        have ntt : to ≠ tr := ne_of_none hto6 htr
        refine ⟨_, rfl, p, C, dx, _, rfl, by rw [upd_ne npt]; exact hp6, c.cl, c.n4, by show 4 < 1000; decide, ?_⟩
        rw [mi4]
        refine k _ (((b5.trans (Same.but s6 p)).new htr).upd2 _) ⟨dx, to, tr, acc, upd_same, by rw [upd_ne ntop, upd_ne ntt]; exact hto6, by rw [upd_ne npt.symm, upd_same], hrt.keep fun v ys e => ?_⟩
        rw [upd_ne (ne_of e hp6 (by intro z; cases z)), upd_ne (ne_of_none e htr)]
        exact e
end
end KJ

/-! Journal.__init__, Journal.hear. -/
namespace KJ
open PySem L2 TL
/-- the class Journal -/
structure CJ (K : PySem.W.Frag) (C : Addr) : Prop where
  cl : Cls K C
  n0 : NoAttr K C "machine"
  n1 : NoAttr K C "spacing"
  n2 : NoAttr K C "text"
  n3 : NoAttr K C "state"
  n4 : NoAttr K C "heard"
  n5 : NoAttr K C "letters"
/-- Journal(machine, spacing = sp) -/
def spJInit (CM CJ : Addr) : Sp := fun vs H Q _ => ∃ (p dx m : Addr) (sp : Nat) (M : Mc), vs = [.ref p, .ref m, .int (sp : Int)] ∧ sp < 100 ∧ H p = some (.ins CJ dx []) ∧ MAt CM H m M ∧ m ≠ p ∧
  ∀ H' : Hp, But p H H' → JAt CJ H' p m sp (Jn.init M sp) → Q .non H'
/-- journal.hear(letter) -/
def spHear (CM CJ : Addr) : Sp := fun vs H Q _ => ∃ (j m : Addr) (sp a : Nat) (M : Mc) (J : Jn), vs = [.ref j, .int (a : Int)] ∧ M.Ok ∧ MAt CM H m M ∧ JAt CJ H j m sp J ∧ J.Ok M ∧ J.heard < 50 ∧ a < M.inputs ∧ 1 ≤ sp ∧
  ∀ (l : Addr) (H' : Hp), But j H H' → H l = none → H' l = some (.lst (nats (said M J a))) → JAt CJ H' j m sp (J.hear M sp a) → Q (.ref l) H'
section
variable {P : Program} {w : World} {K : PySem.W.Frag} {mg : Str → Option Value} {base : Heap}
theorem num_ok (n : Nat) (h : n < 1000) : (n : Int).natAbs.log2 < 1920 := by
  have h1 : (n : Int).natAbs = n := Int.natAbs_natCast n
  rw [h1]
  have h2 : n.log2 ≤ n := Nat.log2_le_self n
  omega
theorem len_num {n : Nat} (h : n < 100) : (num n).length ≤ 2 := by
  rw [len_tl, tl_num]
  exact num_len h
def nJI : List Str := ["self", "machine", "spacing"]
theorem scJI : FnScope nJI nJI (defScope sJInit) := ⟨rfl, rfl, rfl, by decide +kernel, rfl, by decide +kernel, by decide +kernel⟩
theorem ok_jinit {f C D : Addr} {fd : FuncData} {kws : List (Str × V)} (F : FunD K "__init__" "Journal.__init__" (defArgs sJInit) (defBody sJInit) (defScope sJInit) [] kws f fd) (T : Bi mg) (cM : CM K D) (c : CJ K C) : FnOk P w K mg base CX0 1 f fd nJI (spJInit D C) := by
  refine F.ok scJI (fun vs H Q E h => ?_) (fun cdv A outer s H vs Q E hr h => ?_)
  · obtain ⟨p, dx, m, sp, M, rfl, _⟩ := h
    rfl
  · obtain ⟨p, dx, m, sp, M, rfl, hsp, hp, hm, nmp, k⟩ := h
    refine ⟨_, (pss_cons (ps_fld (pv 0) (pv 1) rfl) <| pss_cons (ps_fld (pv 0) (pv 2) rfl)
      <| pss_cons (ps_fld (pv 0) (pe_op op_add_str (pe_op op_add_str pe_str (pe_callTy call_str_int (by rfl) T.str bi_str (pa_cons (pv 2) pa_nil))) pe_str) rfl)
      <| pss_cons (ps_fld (pv 0) pe_int rfl) <| pss_cons (ps_fld (pv 0) pe_int rfl)
      <| pss_one (ps_fld (pv 0) (pe_fld (pv 1) rfl) rfl)), ?_⟩
    have z1 : (Str.ofString "journal ").length = 8 := by rw [len_tl, tl_J]; rfl
    have z2 : (Str.ofString "\n").length = 1 := by rw [len_tl, tl_N]; rfl
    have z3 := len_num hsp
    obtain ⟨dm, to, tr, rs, hm1, hto, htr, hrows⟩ := hm.ex
    have ntp : to ≠ p := ne_of hto hp (by intro z; cases z)
    refine ⟨_, rfl, _, rfl, p, C, dx, [], rfl, hp, c.cl, c.n0, by show 0 < 1000; decide, ?_⟩
    refine ⟨_, rfl, _, rfl, p, C, dx, _, rfl, upd_same, c.cl, c.n1, by show 1 < 1000; decide, ?_⟩
    refine ⟨_, rfl, (sp : Int), rfl, num_ok sp (by omega), _, _, rfl, rfl, ?_, _, _, rfl, rfl, ?_, ?_⟩
    · rw [z1]
      exact Nat.le_trans (by omega : 8 + (num sp).length ≤ 1000) (by decide)
    · rw [Str.length_append, z1, z2]
      exact Nat.le_trans (by omega : 8 + (num sp).length + 1 ≤ 1000) (by decide)
    refine ⟨_, rfl, p, C, dx, _, rfl, upd_same, c.cl, c.n2, by rw [ji0, ji1]; show 2 < 1000; decide, ?_⟩
    refine ⟨_, rfl, p, C, dx, _, rfl, upd_same, c.cl, c.n3, by rw [ji0, ji1, ji2]; show 3 < 1000; decide, ?_⟩
    refine ⟨_, rfl, p, C, dx, _, rfl, upd_same, c.cl, c.n4, by rw [ji0, ji1, ji2, ji3]; show 4 < 1000; decide, ?_⟩
    rw [ji0, ji1, ji2, ji3, ji4, upd_upd, upd_upd, upd_upd, upd_upd]
    refine ⟨_, rfl, m, D, dm, _, _, rfl, by rw [upd_ne nmp]; exact hm1, cM.cl, cM.n3, ml3, ?_⟩
    refine ⟨_, rfl, p, C, dx, _, rfl, upd_same, c.cl, c.n5, by show 5 < 1000; decide, ?_⟩
    rw [ji5, upd_upd]
    exact k _ (But.upd p H _) ⟨dx, to, upd_same, by rw [upd_ne ntp]; exact hto⟩
/-! ### hear -/
theorem paired_at2 {α β : Type} {R : α → β → Prop} : ∀ {xs : List α} {ys : List β} {i : Nat} {y : β}, Paired R xs ys → ys[i]? = some y → ∃ x, xs[i]? = some x ∧ R x y
  | _, _, _, _, .nil, h => by simp at h
  | _, _, 0, _, .cons r _, h => by
    have e := Option.some.inj h
    subst e
    exact ⟨_, rfl, r⟩
  | _, _, i + 1, y, .cons _ t, h => by
    obtain ⟨x, e, r⟩ := paired_at2 (i := i) (y := y) t h
    exact ⟨x, e, r⟩
def nHe : List Str := ["self", "letter", "emitted"]
def pHe : List Str := ["self", "letter"]
theorem scHe : FnScope nHe pHe (defScope sHear) := ⟨rfl, rfl, rfl, by decide +kernel, rfl, by decide +kernel, by decide +kernel⟩
theorem ok_hear {f C D : Addr} {fd : FuncData} (F : Fun K "hear" "Journal.hear" sHear f fd) (T : Bi mg) (cM : CM K D) (c : CJ K C) : FnOk P w K mg base CX0 1 f fd pHe (spHear D C) := by
  refine F.ok scHe (fun vs H Q E h => ?_) (fun cdv A outer s H vs Q E hr h => ?_)
  · obtain ⟨j, m, sp, a, M, J, rfl, _⟩ := h
    rfl
  · obtain ⟨j, m, sp, a, M, J, rfl, O, hm, hJ, JO, hk, ha, hsp, k⟩ := h
    refine ⟨_, (pss_cons (ps_if (PW.pt (pw_or (pt_cmpR op_lt (pv 1) pe_int (nomark _)) <| pw_or1 (pt_cmpR op_ge (pv 1) (pe_fld (pe_fld (pv 0) rfl) rfl) (nomark _)))) (pss_one ps_never) pss_nil)
      <| pss_cons (ps_asg (pe_ix ix_tup (pe_ix ix_tup (pe_fld (pe_fld (pv 0) rfl) rfl) (pe_fld (pv 0) rfl) (fun _ _ => rfl)) (pv 1) (fun _ _ => rfl)) (pg_tup rfl (pgs_cons (pg_att (pv 0)) <| pgs_cons (pg_name (i := 2) scHe.nd rfl (Or.inl rfl)) pgs_nil)))
      <| pss_cons (ps_fldaug (pv 0) pe_int in_add)
      <| pss_cons (ps_fldaug (pv 0) (pe_op op_add_str (pe_op op_add_str pe_str (pe_callTy call_str_int (by rfl) T.str bi_str (pa_cons (pv 1) pa_nil))) pe_str) in_addS)
      <| Evl.pss_cut (ps_if (pt_cmpR op_eq (pe_op op_modN (pe_fld (pv 0) rfl) (pe_fld (pv 0) rfl)) pe_int (nomark _))
          (pss_one (ps_fldaug (pv 0) (pe_op op_add_str (pe_op op_add_str (pe_op op_add_str (pe_op op_add_str pe_str (pe_callTy call_str_int (by rfl) T.str bi_str (pa_cons (pe_fld (pv 0) rfl) pa_nil))) pe_str) (pe_callTy call_str_int (by rfl) T.str bi_str (pa_cons (pe_fld (pv 0) rfl) pa_nil))) pe_str) in_addS)) pss_nil)
      <| pss_cons (ps_if (pt_cmpR op_le (pe_fld (pv 0) rfl) (pe_fld (pe_fld (pv 0) rfl) rfl) (nomark _)) (pss_one (ps_ret (pe_lst pa_nil))) pss_nil)
      <| pss_cons (ps_fld (pv 0) (pe_op op_catA (pe_fld (pv 0) rfl) (pe_tup (pa_cons (pv 2) pa_nil))) rfl)
      <| pss_one (ps_ret (pe_lst (pa_cons (pv 2) pa_nil)))), ?_⟩
    obtain ⟨dm, to, tr, rs, hm1, hto, htr, hrows⟩ := hm.ex
    obtain ⟨dx, tl, hj, htl⟩ := hJ.ex
    have nmj : m ≠ j := hm.ne hJ
    obtain ⟨row, hrow, hpair, hst⟩ := O.at JO.st ha
    obtain ⟨vr, hvr, r, xs, rfl, hr1, hps⟩ := paired_at2 hrows hrow
    obtain ⟨vt, hvt, t, rfl, ht⟩ := paired_at2 hps hpair
    have i2 := O.i2
    have r2 := O.r2
    -- the letter is one that the machine may hear
    refine ⟨_, rfl, _, _, rfl, rfl, _, rfl, ?_⟩
    refine ite2 (fun c => ?_) (fun _ => ?_)
    · exact absurd (of_decide_eq_true c) (by omega)
    refine ⟨_, rfl, _, rfl, j, C, dx, _, _, rfl, hj, c.cl, c.n0, jl0, m, D, dm, _, _, rfl, hm1, cM.cl, cM.n0, ml0, _, _, rfl, rfl, _, rfl, ?_⟩
    refine ite2 (fun c => ?_) (fun _ => ?_)
    · exact absurd (of_decide_eq_true c) (by omega)
    -- self.state, emitted = self.machine.rows[self.state][letter]
    refine ⟨_, rfl, j, C, dx, _, _, rfl, hj, c.cl, c.n0, jl0, m, D, dm, _, _, rfl, hm1, cM.cl, cM.n4, ml4, _, rfl, j, C, dx, _, _, rfl, hj, c.cl, c.n3, jl3, tr, rs, _, _, rfl, rfl, SqT.of htr, atI_nat hvr, _, rfl, r, xs, _, _, rfl, rfl, SqT.of hr1, atI_nat hvt, ?_⟩
    refine ⟨t, _, rfl, SqT.of ht, rfl, _, _, rfl, _, rfl, j, C, dx, _, rfl, hj, c.cl, c.n3, jlen, _, _, rfl, rfl, ?_⟩
    rw [jp3]
    -- self.heard += 1
    refine ⟨_, rfl, j, C, dx, _, _, rfl, upd_same, c.cl, c.n4, jl4, _, _, rfl, rfl, dx, _, upd_same, jlen, ?_⟩
    rw [jp4, upd_upd]
    have eh : ((J.heard : Nat) : Int) + 1 = ((J.heard + 1 : Nat) : Int) := by omega
    -- self.text += "heard " ..
    have z1 : (Str.ofString "heard ").length = 6 := by rw [len_tl, tl_H]; rfl
    have z2 : (Str.ofString "\n").length = 1 := by rw [len_tl, tl_N]; rfl
    have z3 : (Str.ofString (toString ((a : Nat) : Int))).length ≤ 2 := len_num (by omega)
    have z4 : J.text.length ≤ 12 + 24 * J.heard := by rw [len_tl]; exact JO.tx
    have line : ∀ {n : Nat}, n ≤ 100000 → n ≤ sizeLine := fun h => Nat.le_trans h (by decide)
    refine ⟨_, rfl, j, C, dx, _, _, rfl, upd_same, c.cl, c.n2, jl2, _, rfl, (a : Int), rfl, num_ok a (by omega), _, _, rfl, rfl, line (by omega), _, _, rfl, rfl, line (by rw [Str.length_append]; omega), _, _, rfl, rfl, line (by rw [Str.length_append, Str.length_append]; omega), dx, _, upd_same, jlen, ?_⟩
    rw [jp2, upd_upd]
    have i1 : J.heard + 1 < 100 := by omega
    have i3 : (M.step J.state a).1 < 100 := by omega
    have hfl : ((J.heard : Int) + 1).fmod (sp : Int) = (((J.heard + 1) % sp : Nat) : Int) := by
      rw [eh, Int.fmod_eq_emod_of_nonneg _ (by omega)]
      exact (Int.natCast_emod _ _).symm
    have tH : J.text ++ ((Str.ofString "heard " ++ num a) ++ Str.ofString "\n") = J.text ++ lineH a := rfl
    -- if self.heard % self.spacing == 0
    refine ⟨fun σ H' => σ = [some (.ref j), some (.int (a : Int)), some (.int ((M.step J.state a).2 : Int))] ∧ H' = upd H j (.ins C dx (jv (.ref m) (.int (sp : Int)) (.str (J.hear M sp a).text) (.int ((M.step J.state a).1 : Int)) (.int ((J.heard + 1 : Nat) : Int)) (.ref tl))), ?_, ?_⟩
    · refine ⟨_, rfl, j, C, dx, _, _, rfl, upd_same, c.cl, c.n4, jl4, _, rfl, j, C, dx, _, _, rfl, upd_same, c.cl, c.n1, jl1, _, _, rfl, rfl, by omega, rfl, _, rfl, ?_⟩
      refine ite2 (fun q => ?_) (fun q => ?_)
      · have q0 : (J.heard + 1) % sp = 0 := by
          have e := of_decide_eq_true q
          injection e with e
          have e' : ((J.heard : Int) + 1).fmod (sp : Int) = 0 := e
          rw [hfl] at e'
          omega
        have y1 : (Str.ofString "state ").length = 6 := by rw [len_tl, tl_S]; rfl
        have y2 : (Str.ofString " ").length = 1 := by rw [len_tl, tl_B]; rfl
        have y3 : (Str.ofString (toString ((J.heard : Int) + 1))).length ≤ 2 := by rw [eh]; exact len_num i1
        have y4 : (Str.ofString (toString (((M.step J.state a).1 : Nat) : Int))).length ≤ 2 := len_num i3
        refine ⟨_, rfl, j, C, dx, _, _, rfl, upd_same, c.cl, c.n2, jl2, _, rfl, j, C, dx, _, _, rfl, upd_same, c.cl, c.n4, jl4, _, rfl, by rw [eh]; exact num_ok _ (by omega), _, _, rfl, rfl, line (by omega), _, _, rfl, rfl, line (by rw [Str.length_append]; omega), _, rfl, j, C, dx, _, _, rfl, upd_same, c.cl, c.n3, jl3, _, rfl, num_ok _ (by omega), _, _, rfl, rfl, line (by rw [Str.length_append, Str.length_append]; omega),
          _, _, rfl, rfl, line (by rw [Str.length_append, Str.length_append, Str.length_append]; omega), _, _, rfl, rfl, line (by simp only [Str.length_append]; omega), dx, _, upd_same, jlen, rfl, ?_⟩
        rw [jp2, upd_upd, eh]
        have et : (J.hear M sp a).text = (J.text ++ lineH a) ++ lineS (J.heard + 1) (M.step J.state a).1 := if_pos q0
        rw [et]
        rfl
      · refine ⟨rfl, ?_⟩
        have q0 : ¬ (J.heard + 1) % sp = 0 := fun z => q (decide_eq_true (congrArg V.int (by
          show ((J.heard : Int) + 1).fmod (sp : Int) = 0
          rw [hfl, z]
          rfl)))
        have et : (J.hear M sp a).text = J.text ++ lineH a := if_neg q0
        rw [et, eh]
        rfl
    · rintro σ H' ⟨rfl, rfl⟩
      have hm2 : upd H j (.ins C dx (jv (.ref m) (.int (sp : Int)) (.str (J.hear M sp a).text) (.int ((M.step J.state a).1 : Int)) (.int ((J.heard + 1 : Nat) : Int)) (.ref tl))) m = some (.ins D dm (mv (.int (M.inputs : Int)) (.int (M.outputs : Int)) (.int M.lead) (.ref to) (.ref tr))) := by rw [upd_ne nmj]; exact hm1
      have ntlj : tl ≠ j := ne_of htl hj (by intro z; cases z)
      -- if self.heard <= self.machine.lead
      refine ⟨_, rfl, j, C, dx, _, _, rfl, upd_same, c.cl, c.n4, jl4, _, rfl, j, C, dx, _, _, rfl, upd_same, c.cl, c.n0, jl0, m, D, dm, _, _, rfl, hm2, cM.cl, cM.n2, ml2, _, _, rfl, rfl, _, rfl, ?_⟩
      refine ite2 (fun q => ?_) (fun q => ?_)
      · have q0 : ((J.heard : Int) + 1) ≤ M.lead := by
          have := of_decide_eq_true q
          omega
        refine ⟨Nat.zero_le _, fun l hl => ?_⟩
        have njl : j ≠ l := fun e => by
          rw [← e, upd_same] at hl
          cases hl
        have hl0 : H l = none := (But.upd j H _).free hl njl.symm
        refine k l _ ((But.upd j H _).new hl) hl0 ?_ ⟨dx, tl, ?_, ?_⟩
        · rw [upd_same]
          unfold said
          rw [if_pos q0]
          rfl
        · rw [upd_ne njl, upd_same]
          rfl
        · have e : (J.hear M sp a).letters = J.letters := if_pos q0
          rw [upd_ne (ne_of_none htl hl0), upd_ne ntlj, e]
          exact htl
      · have q0 : ¬ ((J.heard : Int) + 1) ≤ M.lead := fun z => q (decide_eq_true (by omega))
        have hlet : (J.hear M sp a).letters = J.letters ++ [(M.step J.state a).2] := if_neg q0
        have lt := JO.lt
        have htl2 : upd H j (.ins C dx (jv (.ref m) (.int (sp : Int)) (.str (J.hear M sp a).text) (.int ((M.step J.state a).1 : Int)) (.int ((J.heard + 1 : Nat) : Int)) (.ref tl))) tl = some (.tup (nats J.letters)) := by rw [upd_ne ntlj]; exact htl
        -- self.letters = self.letters + (emitted,); return [emitted]
        refine ⟨_, rfl, j, C, dx, _, _, rfl, upd_same, c.cl, c.n5, jl5, _, rfl, by show 1 ≤ sizeLine; decide, fun u hu => ?_⟩
        have nju : j ≠ u := fun e => by
          rw [← e, upd_same] at hu
          cases hu
        have ntu : tl ≠ u := ne_of_none htl2 hu
        have hsaid : said M J a = [(M.step J.state a).2] := if_neg q0
        have hnl : nats (J.hear M sp a).letters = nats J.letters ++ [V.int ((M.step J.state a).2 : Int)] := by
          rw [hlet]
          unfold nats
          rw [List.map_append]
          rfl
        refine ⟨tl, u, nats J.letters, _, rfl, rfl, SqT.of (by rw [upd_ne ntu]; exact htl2), SqT.of upd_same, ?_, fun q1 => ?_, fun _ q2 => (nomatch q2), fun _ _ p hp => ?_⟩
        · unfold nats
          rw [List.length_map]
          exact line (by show J.letters.length + 1 ≤ 100000; omega)
        · refine ⟨_, rfl, j, C, dx, _, rfl, by rw [upd_ne nju, upd_same], c.cl, c.n5, jlen, ?_⟩
          rw [jp5]
          refine ⟨_, rfl, by show 1 ≤ sizeLine; decide, fun l hl => ?_⟩
          have b4 := ((But.upd j H (.ins C dx (jv (.ref m) (.int (sp : Int)) (.str (J.hear M sp a).text) (.int ((M.step J.state a).1 : Int)) (.int ((J.heard + 1 : Nat) : Int)) (.ref tl)))).new hu (o := .tup [V.int ((M.step J.state a).2 : Int)])).upd2 (.ins C dx (jv (.ref m) (.int (sp : Int)) (.str (J.hear M sp a).text) (.int ((M.step J.state a).1 : Int)) (.int ((J.heard + 1 : Nat) : Int)) (.ref u)))
          have njl : j ≠ l := fun e => by
            rw [← e, upd_same] at hl
            cases hl
          have nul : u ≠ l := fun e => by
            rw [← e, upd_ne nju.symm, upd_same] at hl
            cases hl
          refine k l _ (b4.new hl) (b4.free hl njl.symm) (by rw [upd_same, hsaid]; rfl) ⟨dx, u, by rw [upd_ne njl, upd_same]; rfl, ?_⟩
          rw [upd_ne nul, upd_ne nju.symm, upd_same, hnl, q1]
          rfl
        · have njp : j ≠ p := fun e => by
            rw [← e, upd_ne nju, upd_same] at hp
            cases hp
          refine ⟨_, rfl, j, C, dx, _, rfl, (upd_ne njp).trans ((upd_ne nju).trans upd_same), c.cl, c.n5, jlen, ?_⟩
          rw [jp5]
          refine ⟨_, rfl, by show 1 ≤ sizeLine; decide, fun l hl => ?_⟩
          have b4 := (((But.upd j H (.ins C dx (jv (.ref m) (.int (sp : Int)) (.str (J.hear M sp a).text) (.int ((M.step J.state a).1 : Int)) (.int ((J.heard + 1 : Nat) : Int)) (.ref tl)))).new hu (o := .tup [V.int ((M.step J.state a).2 : Int)])).new hp (o := .tup (nats J.letters ++ [V.int ((M.step J.state a).2 : Int)]))).upd2 (.ins C dx (jv (.ref m) (.int (sp : Int)) (.str (J.hear M sp a).text) (.int ((M.step J.state a).1 : Int)) (.int ((J.heard + 1 : Nat) : Int)) (.ref p)))
          have njl : j ≠ l := fun e => by
            rw [← e, upd_same] at hl
            cases hl
          have npl : p ≠ l := fun e => by
            rw [← e, upd_ne njp.symm, upd_same] at hl
            cases hl
          refine k l _ (b4.new hl) (b4.free hl njl.symm) (by rw [upd_same, hsaid]; rfl) ⟨dx, p, by rw [upd_ne njl, upd_same]; rfl, ?_⟩
          rw [upd_ne npl, upd_ne njp.symm, upd_same, hnl]
end
end KJ

/-! Texts and lists cut; what recover reads off a text. -/
namespace KJ
open PySem L2 TL
/-! ### cutting -/
theorem tl_cutS (z : Str) (lo hi : Option Int) : tl (cutS z lo hi) = ((tl z).drop (HT.sIx z.length 0 lo)).take (HT.sIx z.length z.length hi - HT.sIx z.length 0 lo) := rfl
theorem cut_pre {z : Str} {p q : List Nat} {i : Int} (h : tl z = p ++ q) (hi : i = (p.length : Int)) : tl (cutS z none (some i)) = p := by
  have hl : z.length = p.length + q.length := by rw [len_tl, h, List.length_append]
  rw [tl_cutS, hi, HT.sIx_none, HT.sIx_nat, h, List.drop_zero]
  have e : min p.length z.length - 0 = p.length := by omega
  rw [e, List.take_left']
  rfl
theorem cut_post {z : Str} {p q : List Nat} {i : Int} (h : tl z = p ++ q) (hi : i = (p.length : Int)) : tl (cutS z (some i) none) = q := by
  have hl : z.length = p.length + q.length := by rw [len_tl, h, List.length_append]
  rw [tl_cutS, hi, HT.sIx_none, HT.sIx_nat, h]
  have e : min p.length z.length = p.length := by omega
  rw [e, List.drop_left']
  · have e2 : z.length - p.length = q.length := by omega
    rw [e2, List.take_length]
  · rfl
theorem cut_any {z : Str} {i : Int} (h0 : 0 ≤ i) : tl (cutS z none (some i)) = (tl z).take i.toNat := by
  obtain ⟨n, hn⟩ := Int.eq_ofNat_of_zero_le h0
  rw [tl_cutS, hn, HT.sIx_none, HT.sIx_nat, List.drop_zero, Nat.sub_zero, Int.toNat_natCast]
  rw [len_tl]
  rcases Nat.le_total n (tl z).length with q | q
  · rw [Nat.min_eq_left q]
  · rw [Nat.min_eq_right q, List.take_length, List.take_of_length_le q]
theorem cutV_init (xs : List V) (v : V) : cutV (xs ++ [v]) none (some (-1)) = xs := by
  have e : HT.sIx (xs ++ [v]).length (xs ++ [v]).length (some (-1)) = xs.length := by
    show (if (-1 : Int) < 0 then ((-1 : Int) + ((xs ++ [v]).length : Int)).toNat else min (-1 : Int).toNat (xs ++ [v]).length) = xs.length
    rw [if_pos (by decide), List.length_append, List.length_singleton]
    omega
  show ((xs ++ [v]).drop (HT.sIx (xs ++ [v]).length 0 none)).take (HT.sIx (xs ++ [v]).length (xs ++ [v]).length (some (-1)) - HT.sIx (xs ++ [v]).length 0 none) = xs
  rw [e, HT.sIx_none, List.drop_zero, Nat.sub_zero, List.take_left']
  rfl
theorem cutV_tail (x : V) (xs : List V) : cutV (x :: xs) (some 1) none = xs := by
  have e : HT.sIx (x :: xs).length 0 (some 1) = 1 := by
    have e1 : (1 : Int) = ((1 : Nat) : Int) := rfl
    rw [e1, HT.sIx_nat]
    exact Nat.min_eq_left (Nat.succ_le_succ (Nat.zero_le _))
  show ((x :: xs).drop (HT.sIx (x :: xs).length 0 (some 1))).take (HT.sIx (x :: xs).length (x :: xs).length none - HT.sIx (x :: xs).length 0 (some 1)) = xs
  rw [e, HT.sIx_none]
  show xs.take (xs.length + 1 - 1) = xs
  exact List.take_of_length_le (by omega)
theorem cutV_take (xs : List V) (n : Nat) : cutV xs none (some (n : Int)) = xs.take n := by
  show (xs.drop (HT.sIx xs.length 0 none)).take (HT.sIx xs.length xs.length (some (n : Int)) - HT.sIx xs.length 0 none) = xs.take n
  rw [HT.sIx_none, HT.sIx_nat, List.drop_zero, Nat.sub_zero]
  rcases Nat.le_total n xs.length with q | q
  · rw [Nat.min_eq_left q]
  · rw [Nat.min_eq_right q, List.take_length, List.take_of_length_le q]
/-! ### the lines of a text -/
theorem nl_ne : (Str.ofString "\n").length = 1 := by rw [len_tl, tl_N]; rfl
theorem split_lines {x : Str} {Ls : List (List Nat)} (h : tl x = glue Ls) (h10 : ∀ l ∈ Ls, 10 ∉ l) : Txt.split x (Str.ofString "\n") = (Ls ++ [[]]).map mkS := by
  refine map_tl_inj ?_
  rw [split_spl x _ (by rw [tl_N]; simp) (kind_ok (by decide +kernel)), tl_N, h]
  have e := spl_glue Ls [] h10 (by simp)
  rw [List.append_nil] at e
  rw [e, List.map_map]
  have e2 : tl ∘ mkS = id := by
    funext l
    exact tl_mkS l
  rw [e2, List.map_id]
theorem count_nl {x : Str} {Ls : List (List Nat)} {j : List Nat} (h : tl x = glue Ls ++ j) (h10 : ∀ l ∈ Ls, 10 ∉ l) (hj : 10 ∉ j) : Txt.count x (Str.ofString "\n") = (Ls.length : Int) := by
  rw [count_spl _ _ (by rw [tl_N]; simp), tl_N, h, spl_glue Ls j h10 hj, List.length_append, List.length_singleton]
  omega
theorem count_heard {x : Str} {sp : Nat} {L : List Ln} (h : tl x = glue (hdl sp :: L.map Ln.code)) : Txt.count x (Str.ofString "heard ") = ((heardOf L).length : Int) := by
  rw [count_spl _ _ (by rw [tl_H]; simp [cH]), tl_H, h, count_text]
  omega
theorem count_heard0 {x : Str} (h : tl x = []) : Txt.count x (Str.ofString "heard ") = 0 := by
  rw [count_spl _ _ (by rw [tl_H]; simp [cH]), h, spl_nil]
  rfl
theorem glue_tail (Ls : List (List Nat)) : glue Ls = [] ∨ ∃ k', glue Ls = k' ++ [10] := by
  rcases glue_end Ls with e | e
  · rw [e]
    exact .inl rfl
  · exact .inr e
theorem kept_len {x : Str} {Ls : List (List Nat)} {j : List Nat} (h : tl x = glue Ls ++ j) (hj : 10 ∉ j) : Txt.rfind x (Str.ofString "\n") + 1 = ((glue Ls).length : Int) := by
  rw [rfind_nl tl_N h (glue_tail Ls) hj]
  omega
theorem kept_is {x : Str} {Ls : List (List Nat)} {j : List Nat} (h : tl x = glue Ls ++ j) (hj : 10 ∉ j) : cutS x none (some (Txt.rfind x (Str.ofString "\n") + 1)) = mkS (glue Ls) :=
  eq_mkS (cut_pre h (kept_len h hj))
/-! ### what recover is handed -/
/-- the text's whole lines are the first lines of a journal that has heard ls (or none: then anew, with 4); ls' has been heard in them -/
def RecIn (M : Mc) (x : Str) (sp' : Nat) (ls' : List Nat) : Prop :=
  (∃ j, tl x = glue [] ++ j ∧ 10 ∉ j ∧ sp' = 4 ∧ ls' = []) ∨
  (∃ (j : List Nat) (ls : List Nat) (r : Nat), tl x = glue (hdl sp' :: ((body M sp' 0 0 ls).take r).map Ln.code) ++ j ∧ 10 ∉ j ∧ 1 ≤ sp' ∧ sp' < 100 ∧ (∀ a ∈ ls, a < M.inputs) ∧ ls.length ≤ 40 ∧ ls' = heardOf ((body M sp' 0 0 ls).take r))
theorem heard_take : ∀ {L : List Ln} {i : Nat} {a : Nat}, L[i]? = some (.h a) → heardOf (L.take (i + 1)) = heardOf (L.take i) ++ [a] := fun {L i a} h => by
  rw [List.take_succ, h, heardOf_append]
  rfl
theorem heard_take_s : ∀ {L : List Ln} {i : Nat} {k st : Nat}, L[i]? = some (.s k st) → heardOf (L.take (i + 1)) = heardOf (L.take i) := fun {L i k st} h => by
  rw [List.take_succ, h, heardOf_append]
  show heardOf (L.take i) ++ [] = _
  rw [List.append_nil]
theorem heard_mem : ∀ (L : List Ln) (a : Nat), Ln.h a ∈ L → a ∈ heardOf L
  | [], _, h => nomatch h
  | .h b :: r, a, h => by
    show a ∈ b :: heardOf r
    rcases List.mem_cons.mp h with e | h
    · injection e with e
      rw [e]
      exact List.mem_cons_self ..
    · exact List.mem_cons_of_mem _ (heard_mem r a h)
  | .s _ _ :: r, a, h => by
    rcases List.mem_cons.mp h with e | h
    · cases e
    · exact heard_mem r a h
theorem heard_sub : ∀ {L : List Ln} {i : Nat}, heardOf (L.take i) = (heardOf L).take (heardOf (L.take i)).length := fun {L i} => by
  have e : heardOf L = heardOf (L.take i) ++ heardOf (L.drop i) := by rw [← heardOf_append, List.take_append_drop]
  conv => rhs; rw [e, List.take_left' rfl]
end KJ

/-! read_number, read_letter. -/
namespace KJ
open PySem L2 TL
def spNum : Sp := fun vs H Q _ => ∃ (x : Str) (n : Nat), vs = [.str x] ∧ tl x = numL n ∧ n < 100 ∧ Q (.int (n : Int)) H
def spLet (C : Addr) : Sp := fun vs H Q _ => ∃ (x : Str) (m : Addr) (M : Mc) (a : Nat), vs = [.str x, .ref m] ∧ tl x = cH ++ numL a ∧ M.Ok ∧ MAt C H m M ∧ a < M.inputs ∧ Q (.int (a : Int)) H
theorem tl_D : tl (Str.ofString "0123456789") = digs := by decide +kernel
theorem tl_z : tl (Str.ofString "0") = [48] := by decide +kernel
section
variable {P : Program} {w : World} {K : PySem.W.Frag} {mg : Str → Option Value} {base : Heap}
theorem scN : FnScope ["word", "char"] ["word"] (defScope sNum) := ⟨rfl, rfl, rfl, by decide +kernel, rfl, by decide +kernel, by decide +kernel⟩
theorem ok_num {f : Addr} {fd : FuncData} {t : Tok} (F : Fun K "read_number" "read_number" sNum f fd) (T : Bi mg) (gD : mg "DIGITS" = some (.str (Str.ofString "0123456789") t)) : FnOk P w K mg base CX0 1 f fd ["word"] spNum := by
  refine F.ok scN (fun vs H Q E h => ?_) (fun cdv A outer s H vs Q E hr h => ?_)
  · obtain ⟨x, n, rfl, _⟩ := h
    rfl
  · obtain ⟨x, n, rfl, hx, hn, k⟩ := h
    refine ⟨_, (Evl.pss_cut (ps_if (PW.pt (pw_or (pt_cmpR op_eq (pv 0) pe_str (nomark _)) <| pw_or1 (PW.pt (pw_and (pt_cmpR op_eq (pe_ix ix_str (pv 0) pe_int (fun _ _ => rfl)) pe_str (nomark _)) <| pw_and1 (pt_cmpR op_gt (pe_callB call_len_str (by rfl) T.len PySem.boot_len (pa_cons (pv 0) pa_nil)) pe_int (nomark _)))))) (pss_one ps_never) pss_nil)
      <| pss_cons (ps_for PassesOwn.never rfl (pi_str (pv 0)) (pg_name (i := 1) scN.nd rfl (Or.inl rfl))
          (pss_one (ps_if (pt_cmpR op_notIn_sign (pv 1) (pe_glob (v := .str (Str.ofString "0123456789")) rfl gD ⟨_, rfl⟩) rfl) (pss_one ps_never) pss_nil)))
      <| pss_one (ps_ret (pe_callTy call_int_str (by rfl) T.int bi_int (pa_cons (pv 0) pa_nil)))), ?_⟩
    have hl := num_len hn
    have hxl : x.length = (numL n).length := by rw [len_tl, hx]
    have hne := numL_ne n
    have h0 : 0 < (numL n).length := List.length_pos_iff.mpr hne
    have hsz : x.length ≤ sizeLine := Nat.le_trans (by omega : x.length ≤ 1000) (by decide)
    obtain ⟨d, hd⟩ : ∃ d, (numL n)[0]? = some d := ⟨_, List.getElem?_eq_getElem h0⟩
    refine ⟨fun σ H' => σ = [some (.str x), none] ∧ H' = H, ?_, ?_⟩
    · refine ⟨_, rfl, rfl, _, rfl, ?_⟩
      refine ite2 (fun c => ?_) (fun _ => ?_)
      · have e := of_decide_eq_true c
        injection e with e
        rw [e, tl_0] at hx
        exact absurd hx.symm hne
      · refine ⟨_, rfl, x, 0, d, rfl, rfl, hsz, ?_, rfl, _, rfl, ?_⟩
        · have : (tl x)[0]? = some d := by rw [hx]; exact hd
          exact atI_nat (j := 0) this
        refine ite2 (fun c => ?_) (fun _ => ?_)
        · have e := of_decide_eq_true c
          injection e with e
          have e' : [d] = [48] := (congrArg tl e).trans tl_z
          injection e' with e' _
          rw [e'] at hd
          have h1 := num_head n hn hd
          refine ⟨_, rfl, x, rfl, hsz, _, _, rfl, rfl, _, rfl, ?_⟩
          refine ite2 (fun c2 => ?_) (fun _ => ⟨rfl, rfl⟩)
          have := of_decide_eq_true c2
          exact absurd this (by omega)
        · exact ⟨rfl, rfl⟩
    · rintro σ H' ⟨rfl, rfl⟩
      refine ⟨_, rfl, x, rfl, for_it walk_str (fun i σ H2 => H2 = H' ∧ ∃ v : Option V, σ = [some (.str x), v]) ⟨rfl, none, rfl⟩ (fun _ _ _ _ _ => trivial) ?_ ?_⟩
      · rintro i y σ H2 H3 hi ⟨rfl, v, rfl⟩ ⟨rfl, c, hc, rfl⟩
        have hm : c ∈ digs := by
          refine mem_digs (n := n) ?_
          rw [← hx]
          exact List.mem_of_getElem? (by rw [← hc]; exact Array.getElem?_toList ..)
        refine ⟨_, rfl, c, Str.ofString "0123456789", rfl, rfl, _, rfl, ?_⟩
        refine iteNS (by show c ∈ tl (Str.ofString "0123456789"); rw [tl_D]; exact hm) ?_
        exact ⟨rfl, _, rfl⟩
      · rintro σ H2 ⟨rfl, v, rfl⟩
        exact ⟨_, rfl, x, (n : Int), rfl, int_back hx hn, by omega, k⟩
theorem scLe : FnScope ["line", "machine", "letter"] ["line", "machine"] (defScope sLet) := ⟨rfl, rfl, rfl, by decide +kernel, rfl, by decide +kernel, by decide +kernel⟩
theorem ok_let {f C fN : Addr} {fd fdN : FuncData} (F : Fun K "read_letter" "read_letter" sLet f fd) (cM : CM K C) (GN : Gd P w K mg base "read_number" 1 ["word"] spNum fN fdN) : FnOk P w K mg base CX0 2 f fd ["line", "machine"] (spLet C) := by
  refine F.ok scLe (fun vs H Q E h => ?_) (fun cdv A outer s H vs Q E hr h => ?_)
  · obtain ⟨x, m, M, a, rfl, _⟩ := h
    rfl
  · obtain ⟨x, m, M, a, rfl, hx, O, hm, ha, k⟩ := h
    refine ⟨_, (pss_cons (ps_if (pt_cmpR op_ne (pe_slice sl_str (pv 0) po_none (po_some pe_int)) pe_str (nomark _)) (pss_one ps_never) pss_nil)
      <| pss_cons (ps_set (i := 2) scLe.nd rfl (Or.inl rfl) (pe_call GN.ok hr rfl GN.g GN.kp GN.b .nil pass0 (pa_cons (pe_slice sl_str (pv 0) (po_some pe_int) po_none) pa_nil)))
      <| pss_cons (ps_if (pt_cmpR op_ge (pv 2) (pe_fld (pv 1) rfl) (nomark _)) (pss_one ps_never) pss_nil)
      <| pss_one (ps_ret (pv 2))), ?_⟩
    have i2 := O.i2
    have hl := num_len (n := a) (by omega)
    have hsz : x.length ≤ sizeLine := Nat.le_trans (by rw [len_tl, hx, List.length_append]; show 6 + (numL a).length ≤ 1000; omega) (by decide : 1000 ≤ sizeLine)
    have e1 : cutS x none (some 6) = Str.ofString "heard " := ext_tl ((cut_pre hx (by rfl)).trans tl_H.symm)
    have e2 : tl (cutS x (some 6) none) = numL a := cut_post hx (by rfl)
    obtain ⟨dm, to, tr, rs, hm1, hto, htr, hrows⟩ := hm.ex
    refine ⟨_, rfl, 6, rfl, x, rfl, hsz, rfl, _, rfl, ?_⟩
    refine iteNS (congrArg V.str e1) ?_
    refine ⟨_, rfl, 6, rfl, x, rfl, hsz, _, a, rfl, e2, by omega, ?_⟩
    refine ⟨_, rfl, _, rfl, m, C, dm, _, _, rfl, hm1, cM.cl, cM.n0, ml0, _, _, rfl, rfl, _, rfl, ?_⟩
    refine ite2 (fun c => ?_) (fun _ => ?_)
    · exact absurd (of_decide_eq_true c) (by omega)
    · exact ⟨_, rfl, k⟩
end
end KJ

/-! recover. -/
namespace KJ
open PySem L2 TL
def spRec (CM CJ : Addr) : Sp := fun vs H Q _ => ∃ (m : Addr) (x : Str) (M : Mc) (sp' : Nat) (ls' : List Nat), vs = [.ref m, .str x] ∧ M.Ok ∧ MAt CM H m M ∧ x.length ≤ 10000 ∧ RecIn M x sp' ls' ∧
  ∀ (j : Addr) (H' : Hp), Same H H' → H j = none → JAt CJ H' j m sp' (run M sp' ls') → Q (.ref j) H'
/-- Journal, made and heard -/
structure Gj (P : Program) (w : World) (K : PySem.W.Frag) (mg : Str → Option Value) (base : Heap) (CM CJ fI fH : Addr) (fdI fdH : FuncData) : Prop where
  made : Mk K CJ fI
  ok : FnOk P w K mg base CX0 1 fI fdI nJI (spJInit CM CJ)
  g : mg "Journal" = some (.ref CJ)
  b4 : ∃ ds, Vals [V.int 4] ds ∧ Binds K fdI nJI ds
  kb : ∃ g, KBn K fdI nJI 2 ["spacing"] g (fun vs zs => vs ++ zs)
  mH : Meth K CJ "hear" fH
  okH : FnOk P w K mg base CX0 1 fH fdH pHe (spHear CM CJ)
  bH : Binds K fdH pHe []
theorem ifT {p : Prop} [Decidable p] {A B : Prop} (hp : p) (h : A) : if decide p = true then A else B := by
  rw [if_pos (decide_eq_true hp)]
  exact h
theorem ifF {p : Prop} [Decidable p] {A B : Prop} (hp : ¬ p) (h : B) : if decide p = true then A else B := by
  rw [if_neg (by simpa using hp)]
  exact h
theorem ifNT {p : Prop} [Decidable p] {A B : Prop} (hp : ¬ p) (h : A) : if (!decide p) = true then A else B := by
  rw [decide_eq_false hp]
  exact h
theorem glue_mem_len : ∀ (Ls : List (List Nat)) (l : List Nat), l ∈ Ls → l.length ≤ (glue Ls).length
  | [], _, h => nomatch h
  | q :: r, l, h => by
    show l.length ≤ (q ++ (10 :: glue r)).length
    rw [List.length_append, List.length_cons]
    rcases List.mem_cons.mp h with e | h
    · rw [e]
      omega
    · have := glue_mem_len r l h
      omega
theorem HS_ne : Str.ofString "heard " ≠ Str.ofString "state " := by decide +kernel
theorem same_made {H : Hp} {x dx C : Addr} (nx : H x = none) (nd : H dx = none) : Same H (upd (upd H dx (.own x)) x (.ins C dx [])) := fun b o e => by
  rw [upd_ne (ne_of_none e nx), upd_ne (ne_of_none e nd)]
  exact e
section
variable {P : Program} {w : World} {K : PySem.W.Frag} {mg : Str → Option Value} {base : Heap}
def nRe : List Str := ["machine", "text", "kept", "lines", "spacing", "journal", "line"]
theorem scRe : FnScope nRe ["machine", "text"] (defScope sRec) := ⟨rfl, rfl, rfl, by decide +kernel, rfl, by decide +kernel, by decide +kernel⟩
theorem ok_rec {f D C fI fH fN fL : Addr} {fd fdI fdH fdN fdL : FuncData} (F : Fun K "recover" "recover" sRec f fd) (T : Bi mg) (cM : CM K D) (c : CJ K C) (GJ : Gj P w K mg base D C fI fH fdI fdH)
    (GN : Gd P w K mg base "read_number" 1 ["word"] spNum fN fdN) (GL : Gd P w K mg base "read_letter" 2 ["line", "machine"] (spLet D) fL fdL) : FnOk P w K mg base CX0 3 f fd ["machine", "text"] (spRec D C) := by
  refine F.ok scRe (fun vs H Q E h => ?_) (fun cdv A outer s H vs Q E hr h => ?_)
  · obtain ⟨m, x, M, sp', ls', rfl, _⟩ := h
    rfl
  · obtain ⟨m, x, M, sp', ls', rfl, O, hm, hxl, hR, k⟩ := h
    obtain ⟨ds4, v4, b4⟩ := GJ.b4
    obtain ⟨g, kb⟩ := GJ.kb
    have hr1 : Room 1 _ := hr.mono (by decide)
    refine ⟨_, (pss_cons (ps_set (i := 2) scRe.nd rfl (Or.inl rfl) (pe_slice sl_str (pv 1) po_none (po_some (pe_op op_add (pe_m1 PySem.F.slot_str_rfind PySem.F.type_str_rfind mt_rfind (pv 1) pe_str) pe_int))))
      <| pss_cons (ps_if (pt_cmpR op_eq (pv 2) pe_str (nomark _)) (pss_one (ps_ret (pe_make GJ.made GJ.ok hr rfl GJ.g b4 v4 pass0 (pa_cons (pv 0) pa_nil)))) pss_nil)
      <| pss_cons (ps_set (i := 3) scRe.nd rfl (Or.inl rfl) (pe_slice sl_list (pe_split (pv 2) pe_str) po_none (po_some (pe_un un_neg pe_int))))
      <| pss_cons (ps_if (pt_cmpR op_ne (pe_slice sl_str (pe_ix ix_list (pv 3) pe_int (fun _ _ => rfl)) po_none (po_some pe_int)) pe_str (nomark _)) (pss_one ps_never) pss_nil)
      <| pss_cons (ps_set (i := 4) scRe.nd rfl (Or.inl rfl) (pe_call GN.ok hr1 rfl GN.g GN.kp GN.b .nil pass0 (pa_cons (pe_slice sl_str (pe_ix ix_list (pv 3) pe_int (fun _ _ => rfl)) (po_some pe_int) po_none) pa_nil)))
      <| pss_cons (ps_if (pt_cmpR op_eq (pv 4) pe_int (nomark _)) (pss_one ps_never) pss_nil)
      <| pss_cons (ps_set (i := 5) scRe.nd rfl (Or.inl rfl) (pe_makeK (n := 1) GJ.made GJ.ok hr rfl GJ.g kb pass0 (pa_cons (pv 0) pa_nil) (pk_cons (pv 4) pk_nil)))
      <| pss_cons (ps_for PassesOwn.never rfl (pi_list (pe_slice sl_list (pv 3) (po_some pe_int) po_none)) (pg_name (i := 6) scRe.nd rfl (Or.inl rfl))
          (pss_one (ps_if (pt_cmpR op_ne (pe_slice sl_str (pv 6) po_none (po_some pe_int)) pe_str (nomark _))
            (pss_one (ps_expr (pe_meth (pv 5) c.cl GJ.mH GJ.okH hr1 GJ.bH .nil pass0 (pa_cons (pe_call GL.ok hr rfl GL.g GL.kp GL.b .nil pass0 (pa_cons (pv 6) <| pa_cons (pv 0) pa_nil)) pa_nil)))) pss_nil)))
      <| pss_cons (ps_if (pt_cmpR op_ne (pe_slice sl_str (pe_fld (pv 5) rfl) po_none (po_some (pe_callB call_len_str (by rfl) T.len PySem.boot_len (pa_cons (pv 2) pa_nil)))) (pv 2) (nomark _)) (pss_one ps_never) pss_nil)
      <| pss_one (ps_ret (pv 5))), ?_⟩
    have line : ∀ {n : Nat}, n ≤ 100000 → n ≤ sizeLine := fun h => Nat.le_trans h (by decide)
    -- kept
    refine ⟨_, rfl, _, rfl, ⟨_, rfl⟩, x, Str.ofString "\n", rfl, rfl, _, _, rfl, rfl, _, rfl, x, rfl, line (by omega), ?_⟩
    rcases hR with ⟨j, hx, hj, rfl, rfl⟩ | ⟨j, ls, r, hx, hj, hs1, hs2, hls, hln, rfl⟩
    · rw [kept_is hx hj]
      have e0 : mkS (glue []) = Str.ofString "" := ext_tl (tl_0.symm)
      refine ⟨_, rfl, rfl, _, rfl, ?_⟩
      refine ifT (congrArg V.str e0) ?_
      refine ⟨_, rfl, fun p dx np nd nx => ?_⟩
      have s0 := same_made (C := C) np nd
      refine ⟨p, dx, m, 4, M, rfl, by decide, upd_same, hm.same s0, (fun e => by
        obtain ⟨dm, to, tr, rs, hm1, _⟩ := hm.ex
        rw [e, np] at hm1
        cases hm1), fun H' b hJ => ⟨rfl, ?_⟩⟩
      exact k p H' (((Same.but s0 p).trans b).same np) np hJ
    · generalize hL : (body M sp' 0 0 ls).take r = L at hx ⊢
      have hpre := body_pre M sp' ls 0 0 r
      rw [hL] at hpre
      obtain ⟨hp1, T', hp2⟩ := hpre
      have hLs10 : ∀ l ∈ hdl sp' :: L.map Ln.code, 10 ∉ l := fun l hl => by
        rcases List.mem_cons.mp hl with e | hl
        · rw [e]
          exact hdl10 sp'
        · obtain ⟨n, _, e⟩ := List.mem_map.mp hl
          rw [← e]
          exact code10 n
      have hheard : ∀ a ∈ heardOf L, a < M.inputs := fun a ha => by
        rw [hp1] at ha
        exact hls a (List.mem_of_mem_take ha)
      have hhl : (heardOf L).length ≤ 40 := by
        rw [hp1, List.length_take]
        omega
      rw [kept_is hx hj]
      generalize hk : mkS (glue (hdl sp' :: L.map Ln.code)) = kp
      have tk : tl kp = glue (hdl sp' :: L.map Ln.code) := by rw [← hk, tl_mkS]
      have hkl : kp.length ≤ 10000 := by
        rw [len_tl, tk]
        rw [len_tl, hx, List.length_append] at hxl
        omega
      have kne : kp ≠ Str.ofString "" := fun e => by
        rw [e, tl_0] at tk
        exact glue_ne (by simp) tk.symm
      refine ⟨_, rfl, rfl, _, rfl, ?_⟩
      refine ifF (fun q => kne (V.str.inj q)) ?_
      -- lines
      refine ⟨_, rfl, ⟨_, rfl⟩, kp, Str.ofString "\n", rfl, rfl, by rw [nl_ne]; rfl, line (by omega), fun p hp => ⟨1, rfl, -1, rfl, p, _, rfl, SqL.of upd_same, fun q hq => ?_⟩⟩
      have es : (Txt.split kp (Str.ofString "\n")).map V.str = ((hdl sp' :: L.map Ln.code).map fun l => V.str (mkS l)) ++ [V.str (mkS [])] := by
        rw [split_lines tk hLs10, List.map_map, List.map_append]
        rfl
      rw [es, cutV_init]
      have s1 : Same H (upd (upd H p (.lst (((hdl sp' :: L.map Ln.code).map fun l => V.str (mkS l)) ++ [V.str (mkS [])]))) q (.lst ((hdl sp' :: L.map Ln.code).map fun l => V.str (mkS l)))) := by
        rw [es] at hq
        exact (same_new hp).trans (same_new hq)
      generalize hH1 : upd (upd H p (.lst (((hdl sp' :: L.map Ln.code).map fun l => V.str (mkS l)) ++ [V.str (mkS [])]))) q (.lst ((hdl sp' :: L.map Ln.code).map fun l => V.str (mkS l))) = H1 at s1 ⊢
      have hq1 : H1 q = some (.lst (V.str (mkS (hdl sp')) :: (L.map Ln.code).map fun l => V.str (mkS l))) := by
        rw [← hH1]
        exact upd_same
      -- the first line
      have hdlen : (mkS (hdl sp')).length ≤ 100 := by
        rw [len_tl, tl_mkS]
        show (cJ ++ numL sp').length ≤ 100
        have := num_len hs2
        rw [List.length_append]
        show 8 + (numL sp').length ≤ 100
        omega
      have t1 : tl (mkS (hdl sp')) = cJ ++ numL sp' := rfl
      have c1 : cutS (mkS (hdl sp')) none (some 8) = Str.ofString "journal " := ext_tl ((cut_pre t1 (by rfl)).trans tl_J.symm)
      have c2 : tl (cutS (mkS (hdl sp')) (some 8) none) = numL sp' := cut_post t1 (by rfl)
      refine ⟨_, rfl, q, _, 0, _, rfl, rfl, SqL.of hq1, atI_nat (j := 0) rfl, 8, rfl, mkS (hdl sp'), rfl, line (by omega), rfl, _, rfl, ?_⟩
      refine iteNS (congrArg V.str c1) ?_
      refine ⟨_, rfl, q, _, 0, _, rfl, rfl, SqL.of hq1, atI_nat (j := 0) rfl, 8, rfl, mkS (hdl sp'), rfl, line (by omega), _, sp', rfl, c2, hs2, ?_⟩
      -- spacing == 0
      refine ⟨_, rfl, rfl, _, rfl, ?_⟩
      refine ifF (fun z => by
        have e := V.int.inj z
        omega) ?_
      -- journal = Journal(machine, spacing=spacing)
      refine ⟨_, rfl, _, rfl, rfl, rfl, fun jn dx nj nd nx => ?_⟩
      have s2 := same_made (C := C) nj nd
      have nmj : m ≠ jn := fun e => by
        obtain ⟨dm, to, tr, rs, hm1, _⟩ := hm.ex
        have := s1 _ _ hm1
        rw [e, nj] at this
        cases this
      refine ⟨jn, dx, m, sp', M, rfl, hs2, upd_same, (hm.same s1).same s2, nmj, fun H2 b2 hJ => ⟨rfl, ?_⟩⟩
      have s12 : Same H1 H2 := ((Same.but s2 jn).trans b2).same nj
      have hj0 : H jn = none := s1.free nj
      -- for line in lines[1:]
      refine ⟨_, rfl, 1, rfl, q, _, rfl, SqL.of (s12 _ _ hq1), fun q2 hq2 => ?_⟩
      rw [cutV_tail, List.map_map]
      have nj2 : jn ≠ q2 := fun e => by
        obtain ⟨dx', tl', h1, _⟩ := hJ.ex
        rw [e, hq2] at h1
        cases h1
      have s3 : Same H1 (upd H2 q2 (.lst (L.map ((fun l => V.str (mkS l)) ∘ Ln.code)))) := s12.trans (same_new hq2)
      refine ⟨q2, rfl, ⟨_, SqL.of upd_same⟩, for_list (K := K) (a := q2) (xs := L.map ((fun l => V.str (mkS l)) ∘ Ln.code)) (fun i σ H' => ∃ v6 : Option V, σ = [some (.ref m), some (.str x), some (.str kp), some (.ref q), some (.int (sp' : Int)), some (.ref jn), v6] ∧
        Same H1 H' ∧ H' q2 = some (.lst (L.map ((fun l => V.str (mkS l)) ∘ Ln.code))) ∧ JAt C H' jn m sp' (run M sp' (heardOf (L.take i)))) ?_ (fun i σ H' _ ⟨_, _, _, e, _⟩ => SqL.of e) ?_ ?_⟩
      · exact ⟨none, rfl, s3, upd_same, hJ.same (same_new hq2)⟩
      · rintro i y σ H' hi ⟨v6, rfl, s4, hq4, hJ4⟩
        rw [List.getElem?_map] at hi
        obtain ⟨l, hl, rfl⟩ : ∃ l, L[i]? = some l ∧ y = V.str (mkS l.code) := by
          cases e : L[i]? with
          | none =>
            rw [e] at hi
            cases hi
          | some l =>
            rw [e] at hi
            exact ⟨l, rfl, (Option.some.inj hi).symm⟩
        have hsubl : (heardOf (L.take i)).length ≤ 40 := by
          rw [heard_sub (L := L) (i := i), List.length_take]
          omega
        have hsub : ∀ a ∈ heardOf (L.take i), a < M.inputs := fun a ha => by
          rw [heard_sub (L := L) (i := i)] at ha
          exact hheard a (List.mem_of_mem_take ha)
        have JO : (run M sp' (heardOf (L.take i))).Ok M := run_ok O _ _ (Jn.Ok.init O hs2) hsub (by show 0 + _ ≤ 50; omega)
        have Jh : (run M sp' (heardOf (L.take i))).heard < 50 := by
          unfold run
          rw [run_heard]
          show 0 + _ < 50
          omega
        have hm' : MAt D H' m M := (hm.same s1).same s4
        have hj4 : But jn H1 H' := Same.but s4 jn
        have back : ∀ H3 : Hp, But jn H' H3 → Same H1 H3 := fun H3 b => (hj4.trans b).same nj
        cases l with
        | s kk st =>
          have hlen : (mkS (Ln.s kk st).code).length ≤ 100000 := by
            have := glue_mem_len (hdl sp' :: L.map Ln.code) (Ln.s kk st).code (List.mem_cons_of_mem _ (List.mem_map.mpr ⟨_, List.mem_of_getElem? hl, rfl⟩))
            rw [len_tl, tk] at hkl
            rw [len_tl, tl_mkS]
            omega
          have t2 : tl (mkS (Ln.s kk st).code) = cS ++ (numL kk ++ (32 :: numL st)) := rfl
          have c3 : cutS (mkS (Ln.s kk st).code) none (some 6) = Str.ofString "state " := ext_tl ((cut_pre t2 (by rfl)).trans tl_S.symm)
          refine ⟨_, rfl, 6, rfl, mkS (Ln.s kk st).code, rfl, line hlen, rfl, _, rfl, ?_⟩
          refine iteNS (congrArg V.str c3) ?_
          exact ⟨_, rfl, s4, hq4, by rw [heard_take_s hl]; exact hJ4⟩
        | h a =>
          have ha : a < M.inputs := hheard a (heard_mem L a (List.mem_of_getElem? hl))
          have i2 := O.i2
          have hlen : (mkS (Ln.h a).code).length ≤ 100000 := by
            rw [len_tl, tl_mkS]
            show (cH ++ numL a).length ≤ 100000
            have := num_len (n := a) (by omega)
            rw [List.length_append]
            show 6 + (numL a).length ≤ 100000
            omega
          have t2 : tl (mkS (Ln.h a).code) = cH ++ numL a := rfl
          have c3 : cutS (mkS (Ln.h a).code) none (some 6) = Str.ofString "heard " := ext_tl ((cut_pre t2 (by rfl)).trans tl_H.symm)
          refine ⟨_, rfl, 6, rfl, mkS (Ln.h a).code, rfl, line hlen, rfl, _, rfl, ?_⟩
          refine ifNT (fun z => HS_ne (c3.symm.trans (V.str.inj z))) ?_
          obtain ⟨dx', tl', hj1, htl⟩ := hJ4.ex
          refine ⟨_, rfl, jn, dx', _, rfl, hj1, jnh, _, rfl, _, rfl, _, m, M, a, rfl, t2, O, hm', ha, ?_⟩
          refine ⟨jn, m, sp', a, M, _, rfl, O, hm', hJ4, JO, Jh, ha, hs1, fun l H3 b3 hl0 hl1 hJ5 => ?_⟩
          refine ⟨_, rfl, back H3 b3, b3 _ _ hq4 nj2.symm, ?_⟩
          rw [heard_take hl, run_snoc]
          exact hJ5
      · rintro σ H' ⟨v6, rfl, s4, hq4, hJ4⟩
        rw [List.length_map, List.take_length] at hJ4
        obtain ⟨dx', tl', hj1, htl⟩ := hJ4.ex
        have JO : (run M sp' (heardOf L)).Ok M := run_ok O _ _ (Jn.Ok.init O hs2) hheard (by show 0 + _ ≤ 50; omega)
        have Jh : (run M sp' (heardOf L)).heard = (heardOf L).length := by
          unfold run
          rw [run_heard]
          exact Nat.zero_add _
        have tt : tl (run M sp' (heardOf L)).text = glue (hdl sp' :: L.map Ln.code) ++ glue (T'.map Ln.code) := by
          rw [text_run]
          unfold lines
          rw [hp2, List.map_append, ← List.cons_append, glue_append]
        have ce : cutS (run M sp' (heardOf L)).text none (some ((kp.length : Nat) : Int)) = kp := by
          refine ext_tl ?_
          rw [cut_pre tt (by rw [len_tl, tk]), tk]
        have txl := JO.tx
        refine ⟨_, rfl, jn, C, dx', _, _, rfl, hj1, c.cl, c.n2, jl2, _, rfl, kp, rfl, line (by omega), _, rfl, _, rfl, line (by rw [len_tl]; omega), _, rfl, rfl, _, rfl, ?_⟩
        refine iteNS (congrArg V.str ce) ?_
        exact ⟨_, rfl, k jn H' (s1.trans s4) hj0 (by rw [hL]; exact hJ4)⟩
end
end KJ

/-! said, _law_same_journal. -/
namespace KJ
open PySem L2 TL
def dats (l : List Nat) : List PyData := l.map fun (n : Nat) => PyData.int (n : Int)
theorem dats_lay : ∀ l, PyData.canLayAll0 (dats l) = true
  | [] => rfl
  | n :: r => by
    show (PyData.canLay0 (.int (n : Int)) && PyData.canLayAll0 (dats r)) = true
    rw [dats_lay r]
    rfl
theorem dats_eqv : ∀ l, PyData.eqvAll (dats l) (dats l) = true
  | [] => rfl
  | n :: r => by
    show (PyData.eqv (.int (n : Int)) (.int (n : Int)) && PyData.eqvAll (dats r) (dats r)) = true
    rw [dats_eqv r]
    simp [PyData.eqv]
theorem dats_all {K : PySem.W.Frag} {H : Hp} : ∀ l, DpAll K H (nats l) (dats l)
  | [] => .nil
  | n :: r => .cons (.int _) (dats_all r)
theorem dats_depth : ∀ l, PyData.depthAll (dats l) = 0
  | [] => rfl
  | n :: r => by
    show max (PyData.depth (.int (n : Int))) (PyData.depthAll (dats r)) = 0
    rw [dats_depth r]
    rfl
theorem shaped_tup (l : List Nat) : SeqAt.shaped (.tuple (dats l)) = true := by
  show (PyData.canLayAll0 (dats l) && decide (PyData.depthAll (dats l) + 1 ≤ 64)) = true
  rw [dats_lay, dats_depth]
  rfl
theorem shaped_lst (l : List Nat) : SeqAt.shaped (.list (dats l)) = true := by
  show (PyData.canLayAll0 (dats l) && decide (PyData.depthAll (dats l) + 1 ≤ 64)) = true
  rw [dats_lay, dats_depth]
  rfl
/-- the property said -/
structure Gs (P : Program) (w : World) (K : PySem.W.Frag) (mg : Str → Option Value) (base : Heap) (C p g : Addr) (fd : FuncData) : Prop where
  pr : PropOf K C "said" p g
  ok : FnOk P w K mg base CX0 1 g fd ["self"] (getSp C "letters")
  b : Binds K fd ["self"] []
def spSame (C : Addr) : Sp := fun vs H Q _ => ∃ (i j m : Addr) (sp : Nat) (J : Jn), vs = [.ref i, .ref j] ∧ JAt C H i m sp J ∧ JAt C H j m sp J ∧ Q (.bl true) H
section
variable {P : Program} {w : World} {K : PySem.W.Frag} {mg : Str → Option Value} {base : Heap}
theorem scSm : FnScope ["_law_one", "_law_two"] ["_law_one", "_law_two"] (defScope sSame) := ⟨rfl, rfl, rfl, by decide +kernel, rfl, by decide +kernel, by decide +kernel⟩
theorem ok_same {f C p g : Addr} {fd fdg : FuncData} (F : Fun K "_law_same_journal" "_law_same_journal" sSame f fd) (c : CJ K C) (G : Gs P w K mg base C p g fdg) : FnOk P w K mg base CX0 3 f fd ["_law_one", "_law_two"] (spSame C) := by
  refine F.ok scSm (fun vs H Q E h => ?_) (fun cdv A outer s H vs Q E hr h => ?_)
  · obtain ⟨i, j, m, sp, J, rfl, _⟩ := h
    rfl
  · obtain ⟨i, j, m, sp, J, rfl, hi, hj, k⟩ := h
    have hr2 : Room 2 _ := hr
    refine ⟨_, pss_one (ps_ret (pe_and (pe_cmpR op_eq (pe_fld (pv 0) rfl) (pe_fld (pv 1) rfl) (nomark _)) <| pe_and (pe_cmpR op_eq (pe_fld (pv 0) rfl) (pe_fld (pv 1) rfl) (nomark _))
      <| pe_and (pe_cmpR (op_eqD hr.units) (pe_prop (pv 0) c.cl G.pr G.ok hr2 G.b .nil pass0 rfl) (pe_prop (pv 1) c.cl G.pr G.ok hr2 G.b .nil pass0 rfl) (nomark _))
      <| pe_one (pe_cmpR op_eq (pe_fld (pv 0) rfl) (pe_fld (pv 1) rfl) (nomark _)))), ?_⟩
    obtain ⟨dx, tx, hi1, hi2⟩ := hi.ex
    obtain ⟨dy, ty, hj1, hj2⟩ := hj.ex
    refine ⟨_, rfl, i, C, dx, _, _, rfl, hi1, c.cl, c.n2, jl2, _, rfl, j, C, dy, _, _, rfl, hj1, c.cl, c.n2, jl2, rfl, _, rfl, ?_⟩
    refine ifT rfl ?_
    refine ⟨_, rfl, i, C, dx, _, _, rfl, hi1, c.cl, c.n3, jl3, _, rfl, j, C, dy, _, _, rfl, hj1, c.cl, c.n3, jl3, rfl, _, rfl, ?_⟩
    refine ifT rfl ?_
    refine ⟨_, rfl, i, dx, _, rfl, hi1, i, dx, _, _, rfl, hi1, jl5, _, rfl, j, dy, _, rfl, hj1, j, dy, _, _, rfl, hj1, jl5, .tuple (dats J.letters), .tuple (dats J.letters), .tup (SqT.of hi2) (dats_all _), .tup (SqT.of hj2) (dats_all _), shaped_tup _, shaped_tup _, true, ?_, ?_⟩
    · exact congrArg V.bl (dats_eqv J.letters)
    refine ⟨_, rfl, i, C, dx, _, _, rfl, hi1, c.cl, c.n1, jl1, _, rfl, j, C, dy, _, _, rfl, hj1, c.cl, c.n1, jl1, rfl, ?_⟩
    show Q (V.bl (decide (V.int (sp : Int) = V.int (sp : Int)))) H
    rw [decide_eq_true rfl]
    exact k
end
end KJ

/-! What a text cut off leaves: the plain law that the walk of the law uses. -/
namespace KJ
open PySem L2 TL
theorem run_good {M : Mc} (O : M.Ok) {sp : Nat} {ls : List Nat} (hs : sp < 100) (h : ∀ a ∈ ls, a < M.inputs) (hl : ls.length ≤ 45) : (run M sp ls).Ok M ∧ (run M sp ls).heard = ls.length := by
  refine ⟨run_ok O _ _ (Jn.Ok.init O hs) h (by show 0 + _ ≤ 50; omega), ?_⟩
  unfold run
  rw [run_heard]
  exact Nat.zero_add _
/-- Ls: whole lines of a journal that heard ls with the spacing sp; sp' and ls': what a recovery from them has -/
structure Cutd (M : Mc) (sp : Nat) (ls : List Nat) (Ls : List (List Nat)) (sp' : Nat) (ls' : List Nat) : Prop where
  rcv : ∀ (x : Str) (jk : List Nat), tl x = glue Ls ++ jk → 10 ∉ jk → RecIn M x sp' ls'
  cnt : ∀ x : Str, tl x = glue Ls → Txt.count x (Str.ofString "heard ") = (ls'.length : Int)
  more : 0 < Ls.length → sp' = sp
  none : Ls.length = 0 → sp' = 4
  tk : ls' = ls.take ls'.length
  l10 : ∀ l ∈ Ls, 10 ∉ l
  s1 : 1 ≤ sp'
  s2 : sp' < 100
theorem cutd {M : Mc} {sp : Nat} {ls : List Nat} (hs1 : 1 ≤ sp) (hs2 : sp < 100) (hls : ∀ a ∈ ls, a < M.inputs) (hl : ls.length ≤ 40) : ∀ r : Nat, ∃ (sp' : Nat) (ls' : List Nat), Cutd M sp ls ((lines M sp ls).take r) sp' ls'
  | 0 => ⟨4, [], ⟨fun x jk h hj => .inl ⟨jk, h, hj, rfl, rfl⟩, fun x h => count_heard0 h, fun h => absurd h (Nat.lt_irrefl _), fun _ => rfl, rfl, fun l h => (nomatch h), by decide, by decide⟩⟩
  | r + 1 => by
    have e : (lines M sp ls).take (r + 1) = hdl sp :: ((body M sp 0 0 ls).take r).map Ln.code := by
      unfold lines
      rw [List.take_succ_cons, List.map_take]
    refine ⟨sp, heardOf ((body M sp 0 0 ls).take r), ?_⟩
    rw [e]
    refine ⟨fun x jk h hj => .inr ⟨jk, ls, r, h, hj, hs1, hs2, hls, hl, rfl⟩, fun x h => count_heard h, fun _ => rfl, fun h => by simp at h, (body_pre M sp ls 0 0 r).1, fun l h => ?_, hs1, hs2⟩
    rw [← e] at h
    exact lines10 M sp ls l (List.mem_of_mem_take h)
/-- the text of a journal, read back -/
theorem rec_self {M : Mc} {sp : Nat} {ls : List Nat} (hs1 : 1 ≤ sp) (hs2 : sp < 100) (hls : ∀ a ∈ ls, a < M.inputs) (hl : ls.length ≤ 40) : RecIn M (run M sp ls).text sp ls := by
  refine .inr ⟨[], ls, (body M sp 0 0 ls).length, ?_, by simp, hs1, hs2, hls, hl, ?_⟩
  · rw [List.take_length, List.append_nil, text_run]
    rfl
  · rw [List.take_length, body_heard]
theorem cut_text (M : Mc) (sp : Nat) (ls : List Nat) {i : Int} (h0 : 0 ≤ i) : ∃ (r : Nat) (jk : List Nat), tl (cutS (run M sp ls).text none (some i)) = glue ((lines M sp ls).take r) ++ jk ∧ 10 ∉ jk := by
  obtain ⟨r, jk, _, h2, h3⟩ := cut_lines (lines M sp ls) i.toNat (lines10 M sp ls)
  exact ⟨r, jk, by rw [cut_any h0, text_run, h2], h3⟩
theorem nats_take (l : List Nat) (n : Nat) : (nats l).take n = nats (l.take n) := by
  unfold nats
  rw [List.map_take]
def menu : List Str := [Str.ofString "heard", Str.ofString "state 1", Str.ofString "x", Str.ofString "journal 9", Str.ofString "heard 1 ", Str.ofString "state 99 99"]
theorem menu_ok : ∀ w ∈ menu, 10 ∉ tl w ∧ w.length ≤ 20 := by decide +kernel
/-! ### the objects between two statements -/
def Dr (H : Hp) (d : Addr) : Prop := ∃ ds : List Int, H d = some (.lst (ds.map V.int))
theorem drawn (H : Hp) (d : Addr) (ds : List Int) : ∃ H' : Hp, upd H d (.lst (ds.map V.int)) = H' ∧ But d H H' ∧ H' d = some (.lst (ds.map V.int)) := ⟨_, rfl, But.upd d H _, upd_same⟩
theorem set_step {i : Nat} {v v' : V} {σ : St} {H : Hp} {R : St → Hp → Prop} (e : v = v') (h : R (σ.set i (some v')) H) : gName i v σ H R := by
  subst e
  exact h
theorem Dr.same {H H' : Hp} {d : Addr} (h : Dr H d) (s : Same H H') : Dr H' d := by
  obtain ⟨ds, e⟩ := h
  exact ⟨ds, s _ _ e⟩
theorem Dr.but {H H' : Hp} {d j : Addr} (h : Dr H d) (s : But j H H') (n : d ≠ j) : Dr H' d := by
  obtain ⟨ds, e⟩ := h
  exact ⟨ds, s _ _ e n⟩
theorem Dr.nt {H : Hp} {d : Addr} (h : Dr H d) : ∀ xs, H d ≠ some (.tup xs) := fun xs q => by
  obtain ⟨ds, e⟩ := h
  rw [e] at q
  cases q
theorem Dr.nj {H : Hp} {d j m C : Addr} {sp : Nat} {J : Jn} (h : Dr H d) (g : JAt C H j m sp J) : d ≠ j := by
  obtain ⟨ds, e⟩ := h
  obtain ⟨dx, tl, g1, _⟩ := g.ex
  exact ne_of e g1 (by intro z; cases z)
theorem Dr.nm {H : Hp} {d m C : Addr} {M : Mc} (h : Dr H d) (g : MAt C H m M) : d ≠ m := by
  obtain ⟨ds, e⟩ := h
  obtain ⟨dm, to, tr, rs, g1, _⟩ := g.ex
  exact ne_of e g1 (by intro z; cases z)
theorem MAt.nope {H : Hp} {m C : Addr} {M : Mc} (g : MAt C H m M) {x : Addr} (h : H x = none) : m ≠ x := by
  obtain ⟨dm, to, tr, rs, g1, _⟩ := g.ex
  exact ne_of_none g1 h
theorem JAt.nope {C : Addr} {H : Hp} {j m : Addr} {sp : Nat} {J : Jn} (g : JAt C H j m sp J) {x : Addr} (h : H x = none) : j ≠ x := by
  obtain ⟨dx, tl, g1, _⟩ := g.ex
  exact ne_of_none g1 h
theorem MAt.nl {H : Hp} {m C : Addr} {M : Mc} (g : MAt C H m M) {x : Addr} {l : List V} (h : H x = some (.lst l)) : m ≠ x := by
  obtain ⟨dm, to, tr, rs, g1, _⟩ := g.ex
  exact ne_of g1 h (by intro z; cases z)
theorem JAt.nl {C : Addr} {H : Hp} {j m : Addr} {sp : Nat} {J : Jn} (g : JAt C H j m sp J) {x : Addr} {l : List V} (h : H x = some (.lst l)) : j ≠ x := by
  obtain ⟨dx, tl, g1, _⟩ := g.ex
  exact ne_of g1 h (by intro z; cases z)
theorem nt_lst {H : Hp} {x : Addr} {l : List V} (h : H x = some (.lst l)) : ∀ xs, H x ≠ some (.tup xs) := fun xs q => by
  rw [h] at q
  cases q
/-- the draws at d, the machine at m -/
structure Wo (D : Addr) (H : Hp) (d m : Addr) (M : Mc) : Prop where
  dr : Dr H d
  ma : MAt D H m M
section
variable {C D : Addr} {H H' : Hp} {d m j : Addr} {M : Mc} {sp : Nat} {J : Jn}
theorem Wo.draw (w : Wo D H d m M) (b : But d H H') {ds : List Int} (e : H' d = some (.lst (ds.map V.int))) : Wo D H' d m M := ⟨⟨ds, e⟩, w.ma.keep b (w.dr.nm w.ma).symm w.dr.nt⟩
theorem Wo.same (w : Wo D H d m M) (s : Same H H') : Wo D H' d m M := ⟨w.dr.same s, w.ma.same s⟩
theorem Wo.hear (w : Wo D H d m M) {k : Addr} (g : JAt C H j k sp J) (b : But j H H') : Wo D H' d m M := ⟨w.dr.but b (w.dr.nj g), w.ma.keep b (w.ma.ne g) g.notup⟩
theorem Wo.jd (w : Wo D H d m M) {k : Addr} (g : JAt C H j k sp J) (b : But d H H') : JAt C H' j k sp J := g.keep b (w.dr.nj g).symm w.dr.nt
theorem JAt.hear {k i : Addr} {sp' : Nat} {J' : Jn} {k' : Addr} (g : JAt C H j k sp J) (g' : JAt C H i k' sp' J') (b : But i H H') (n : j ≠ i) : JAt C H' j k sp J := g.keep b n g'.notup
end
end KJ

/-! The law. (its body's term is printed by gen_law.py) -/
namespace KJ
open PySem L2 TL
def spLaw (K : PySem.W.Frag) : Sp := fun vs H Q _ => ∃ (a : Addr) (ns : List Int), vs = [.ref a] ∧ SqL K H a (ns.map V.int) ∧ ns.length ≤ 63 ∧ ∀ H', Q (.bl true) H'
/-- Machine, made -/
structure Gi (P : Program) (w : World) (K : PySem.W.Frag) (mg : Str → Option Value) (base : Heap) (C fI : Addr) (fdI : FuncData) : Prop where
  made : Mk K C fI
  ok : FnOk P w K mg base CX0 2 fI fdI pMI (spMInit C)
  g : mg "Machine" = some (.ref C)
  b : Binds K fdI pMI []
def nLaw : List Str := ["_law_script", "_law_draws_here", "_law_inputs", "_law_outputs", "_law_lead", "_law_opening", "_law_rows", "_law_machine_here", "_law_spacing", "_law_journal", "_law_k", "_law_letters", "_law_letter", "_law_text", "_law_lines", "_law_kept", "_law_expected", "_law_count", "_law_found", "_law_again", "_law_said"]
section
variable {P : Program} {w : World} {K : PySem.W.Frag} {mg : Str → Option Value} {base : Heap}
theorem scLaw : FnScope nLaw ["_law_script"] (defScope sLaw) := ⟨rfl, rfl, rfl, by decide +kernel, rfl, by decide +kernel, by decide +kernel⟩
theorem ok_law {f D C fD fT fM fF fI fJ fH fR fS : Addr} {fd fdD fdT fdM fdF fdI fdJ fdH fdR fdS : FuncData} (F : Fun K "law" "law" sLaw f fd) (T : Bi mg) (cM : CM K D) (c : CJ K C)
    (GD : Gd P w K mg base "_law_draws" 1 ["_law_script", "_law_count"] (spDraws K) fD fdD) (GT : Gd P w K mg base "_law_take" 1 ["_law_draws_here", "_law_limit"] spTake fT fdT) (GM : Gd P w K mg base "_law_machine" 2 pMach spMach fM fdM)
    (GF : Gd P w K mg base "_law_flat" 1 ["_law_rows"] spFlat fF fdF) (GI : Gi P w K mg base D fI fdI) (GJ : Gj P w K mg base D C fJ fH fdJ fdH) (GR : Gd P w K mg base "recover" 3 ["machine", "text"] (spRec D C) fR fdR)
    (GS : Gd P w K mg base "_law_same_journal" 3 ["_law_one", "_law_two"] (spSame C) fS fdS) : FnOk P w K mg base CX0 4 f fd ["_law_script"] (spLaw K) := by
  refine F.ok scLaw (fun vs H Q E h => ?_) (fun cdv A outer s H vs Q E hr h => ?_)
  · obtain ⟨a, ns, rfl, _⟩ := h
    rfl
  · obtain ⟨a, ns, rfl, hS, hlen, k⟩ := h
    obtain ⟨ds4, v4, b4⟩ := GJ.b4
    obtain ⟨g, kb⟩ := GJ.kb
    have hr1 : Room 1 _ := hr.mono (by decide)
    have hr2 : Room 2 _ := hr.mono (by decide)
    have hr3 : Room 3 _ := hr
    refine ⟨_, (pss_cons (ps_set (i := 1) scLaw.nd rfl (Or.inr rfl) (pe_call GD.ok hr1 rfl GD.g GD.kp GD.b .nil pass0 (pa_cons (pv 0) <| pa_cons pe_int pa_nil)))
      <| pss_cons (ps_set (i := 2) scLaw.nd rfl (Or.inr rfl) (pe_op op_add pe_int (pe_call GT.ok hr1 rfl GT.g GT.kp GT.b .nil pass0 (pa_cons (pv 1) <| pa_cons pe_int pa_nil))))
      <| pss_cons (ps_set (i := 3) scLaw.nd rfl (Or.inl rfl) (pe_op op_add pe_int (pe_call GT.ok hr1 rfl GT.g GT.kp GT.b .nil pass0 (pa_cons (pv 1) <| pa_cons pe_int pa_nil))))
      <| pss_cons (ps_set (i := 4) scLaw.nd rfl (Or.inl rfl) (pe_op op_sub (pe_call GT.ok hr1 rfl GT.g GT.kp GT.b .nil pass0 (pa_cons (pv 1) <| pa_cons pe_int pa_nil)) pe_int))
      <| pss_cons (ps_asg (pe_call GM.ok hr2 rfl GM.g GM.kp GM.b .nil pass0 (pa_cons (pv 1) <| pa_cons (pv 2) <| pa_cons (pv 3) <| pa_cons (pv 4) <| pa_cons pe_int pa_nil)) (pg_tup rfl (pgs_cons (pg_name (i := 5) scLaw.nd rfl (Or.inl rfl)) <| pgs_cons (pg_name (i := 6) scLaw.nd rfl (Or.inl rfl)) pgs_nil)))
      <| pss_cons (ps_set (i := 7) scLaw.nd rfl (Or.inl rfl) (pe_make GI.made GI.ok hr rfl GI.g GI.b .nil pass0 (pa_cons (pv 2) <| pa_cons (pv 3) <| pa_cons (pv 4) <| pa_cons (pe_callTy call_list_of (by rfl) T.list bi_list (pa_cons (pv 5) pa_nil)) <| pa_cons (pe_call GF.ok hr1 rfl GF.g GF.kp GF.b .nil pass0 (pa_cons (pv 6) pa_nil)) pa_nil)))
      <| pss_cons (ps_set (i := 8) scLaw.nd rfl (Or.inl rfl) (pe_op op_add pe_int (pe_call GT.ok hr1 rfl GT.g GT.kp GT.b .nil pass0 (pa_cons (pv 1) <| pa_cons pe_int pa_nil))))
      <| pss_cons (ps_set (i := 9) scLaw.nd rfl (Or.inl rfl) (pe_makeK (n := 1) GJ.made GJ.ok hr2 rfl GJ.g kb pass0 (pa_cons (pv 7) pa_nil) (pk_cons (pv 8) pk_nil)))
      <| pss_cons (ps_setLc (i := 11) (own := [("_law_k", 10)]) (g := gName 10) (tt := tYes) (te := tCall spTake [] E0 (tCons (tVar 1) (tCons (tVar 2) tNil))) rfl scLaw.nd rfl rfl (sw_true rfl rfl rfl (by decide +kernel))
          (pi_range1 rfl T.range (pa_cons (pe_call GT.ok hr1 rfl GT.g GT.kp GT.b .nil pass0 (pa_cons (pv 1) <| pa_cons pe_int pa_nil)) pa_nil)) (blkOk_by (N := nLaw) (sc := defScope sLaw) (by decide +kernel))
          (fun _ _ _ _ _ => (pg_name (i := 10) scLaw.nd rfl (Or.inl rfl))) (fun _ _ _ _ _ => pts_nil) (fun _ _ _ _ _ => pe_call GT.ok hr1 rfl GT.g GT.kp GT.b .nil pass0 (pa_cons (pv 1) <| pa_cons (pv 2) pa_nil)))
      <| pss_cons (ps_for PassesOwn.never rfl (pi_list (pv 11)) (pg_name (i := 12) scLaw.nd rfl (Or.inl rfl)) (pss_one (ps_expr (pe_meth (pv 9) c.cl GJ.mH GJ.okH hr1 GJ.bH .nil pass0 (pa_cons (pv 12) pa_nil)))))
      <| pss_cons (ps_set (i := 13) scLaw.nd rfl (Or.inl rfl) (pe_slice sl_str (pe_fld (pv 9) rfl) po_none (po_some (pe_op op_modN (pe_op op_add (pe_op op_mul pe_int (pe_call GT.ok hr1 rfl GT.g GT.kp GT.b .nil pass0 (pa_cons (pv 1) <| pa_cons pe_int pa_nil))) (pe_call GT.ok hr1 rfl GT.g GT.kp GT.b .nil pass0 (pa_cons (pv 1) <| pa_cons pe_int pa_nil))) (pe_op op_add (pe_callB call_len_str (by rfl) T.len PySem.boot_len (pa_cons (pe_fld (pv 9) rfl) pa_nil)) pe_int)))))
      <| pss_cons (ps_set (i := 14) scLaw.nd rfl (Or.inl rfl) (pe_m1 PySem.F.slot_str_count PySem.F.type_str_count mt_count (pv 13) pe_str))
      <| pss_cons (ps_set (i := 15) scLaw.nd rfl (Or.inl rfl) (pe_slice sl_str (pv 13) po_none (po_some (pe_op op_add (pe_m1 PySem.F.slot_str_rfind PySem.F.type_str_rfind mt_rfind (pv 13) pe_str) pe_int))))
      <| Evl.pss_cut (ps_if (pt_cmpR op_eq (pe_call GT.ok hr1 rfl GT.g GT.kp GT.b .nil pass0 (pa_cons (pv 1) <| pa_cons pe_int pa_nil)) pe_int (nomark _)) (pss_one (ps_set (i := 13) scLaw.nd rfl (Or.inl rfl) (pe_op op_add_str (pv 15) (pe_ix ix_list (pe_lst (pa_cons pe_str <| pa_cons pe_str <| pa_cons pe_str <| pa_cons pe_str <| pa_cons pe_str <| pa_cons pe_str pa_nil)) (pe_call GT.ok hr1 rfl GT.g GT.kp GT.b .nil pass0 (pa_cons (pv 1) <| pa_cons pe_int pa_nil)) (fun _ _ => rfl))))) pss_nil)
      <| pss_cons (ps_set (i := 16) scLaw.nd rfl (Or.inl rfl) (pe_make GJ.made GJ.ok hr2 rfl GJ.g b4 v4 pass0 (pa_cons (pv 7) pa_nil)))
      <| Evl.pss_cut (ps_if (pt_cmpR op_gt (pv 14) pe_int (nomark _)) (pss_one (ps_set (i := 16) scLaw.nd rfl (Or.inl rfl) (pe_makeK (n := 1) GJ.made GJ.ok hr2 rfl GJ.g kb pass0 (pa_cons (pv 7) pa_nil) (pk_cons (pv 8) pk_nil)))) pss_nil)
      <| pss_cons (ps_set (i := 17) scLaw.nd rfl (Or.inl rfl) (pe_m1 PySem.F.slot_str_count PySem.F.type_str_count mt_count (pv 15) pe_str))
      <| pss_cons (ps_for PassesOwn.never rfl (pi_list (pe_slice sl_list (pv 11) po_none (po_some (pv 17)))) (pg_name (i := 12) scLaw.nd rfl (Or.inl rfl)) (pss_one (ps_expr (pe_meth (pv 16) c.cl GJ.mH GJ.okH hr1 GJ.bH .nil pass0 (pa_cons (pv 12) pa_nil)))))
      <| pss_cons (ps_set (i := 18) scLaw.nd rfl (Or.inl rfl) (pe_call GR.ok hr3 rfl GR.g GR.kp GR.b .nil pass0 (pa_cons (pv 7) <| pa_cons (pv 13) pa_nil)))
      <| pss_cons (ps_set (i := 19) scLaw.nd rfl (Or.inl rfl) (pe_call GR.ok hr3 rfl GR.g GR.kp GR.b .nil pass0 (pa_cons (pv 7) <| pa_cons (pe_fld (pv 18) rfl) pa_nil)))
      <| pss_cons (ps_if (PW.pt (pw_or (pt_not (pt_val (pe_call GS.ok hr3 rfl GS.g GS.kp GS.b .nil pass0 (pa_cons (pv 18) <| pa_cons (pv 16) pa_nil)))) <| pw_or1 (pt_not (pt_val (pe_call GS.ok hr3 rfl GS.g GS.kp GS.b .nil pass0 (pa_cons (pv 19) <| pa_cons (pv 16) pa_nil)))))) (pss_one (ps_ret pe_bl)) pss_nil)
      <| pss_cons (ps_for PassesOwn.never rfl (pi_range1 rfl T.range (pa_cons (pe_call GT.ok hr1 rfl GT.g GT.kp GT.b .nil pass0 (pa_cons (pv 1) <| pa_cons pe_int pa_nil)) pa_nil)) (pg_name (i := 10) scLaw.nd rfl (Or.inl rfl))
        (pss_cons (ps_set (i := 12) scLaw.nd rfl (Or.inl rfl) (pe_call GT.ok hr1 rfl GT.g GT.kp GT.b .nil pass0 (pa_cons (pv 1) <| pa_cons (pv 2) pa_nil)))
        <| pss_cons (ps_set (i := 20) scLaw.nd rfl (Or.inl rfl) (pe_meth (pv 18) c.cl GJ.mH GJ.okH hr1 GJ.bH .nil pass0 (pa_cons (pv 12) pa_nil)))
        <| pss_one (ps_if (PW.pt (pw_or (pt_cmpR (op_neD hr.units) (pv 20) (pe_meth (pv 16) c.cl GJ.mH GJ.okH hr1 GJ.bH .nil pass0 (pa_cons (pv 12) pa_nil)) (nomark _)) <| pw_or1 (pt_cmpR (op_neD hr.units) (pv 20) (pe_meth (pv 19) c.cl GJ.mH GJ.okH hr1 GJ.bH .nil pass0 (pa_cons (pv 12) pa_nil)) (nomark _)))) (pss_one (ps_ret pe_bl)) pss_nil)))
      <| pss_cons (ps_if (PW.pt (pw_or (pt_not (pt_val (pe_call GS.ok hr3 rfl GS.g GS.kp GS.b .nil pass0 (pa_cons (pv 18) <| pa_cons (pv 16) pa_nil)))) <| pw_or1 (pt_not (pt_val (pe_call GS.ok hr3 rfl GS.g GS.kp GS.b .nil pass0 (pa_cons (pv 19) <| pa_cons (pv 16) pa_nil)))))) (pss_one (ps_ret pe_bl)) pss_nil)
      <| pss_one (ps_ret (pe_call GS.ok hr3 rfl GS.g GS.kp GS.b .nil pass0 (pa_cons (pe_call GR.ok hr3 rfl GR.g GR.kp GR.b .nil pass0 (pa_cons (pv 7) <| pa_cons (pv 13) pa_nil)) <| pa_cons (pe_call GR.ok hr3 rfl GR.g GR.kp GR.b .nil pass0 (pa_cons (pv 7) <| pa_cons (pv 15) pa_nil)) pa_nil)))), ?_⟩
    -- draws
    refine ⟨_, rfl, a, ns, rfl, hS, hlen, fun d ds0 H1 s1 d0 hd0 => ?_⟩
    have D1 : Dr H1 d := ⟨ds0, hd0⟩
    -- inputs, outputs, lead
    refine ⟨_, rfl, d, 12, ds0, rfl, by decide, hd0, fun n1 ds1 hn1 => ⟨1, (n1 : Int), rfl, rfl, set_step (v' := .int ((n1 + 1 : Nat) : Int)) (congrArg V.int (by omega)) ?_⟩⟩
    obtain ⟨H2, e2, b2, hd2⟩ := drawn H1 d ds1
    rw [e2]
    refine ⟨_, rfl, d, 3, ds1, rfl, by decide, hd2, fun n2 ds2 hn2 => ⟨1, (n2 : Int), rfl, rfl, set_step (v' := .int ((n2 + 1 : Nat) : Int)) (congrArg V.int (by omega)) ?_⟩⟩
    obtain ⟨H3, e3, b3, hd3⟩ := drawn H2 d ds2
    rw [e3]
    refine ⟨_, rfl, d, 6, ds2, rfl, by decide, hd3, fun n3 ds3 hn3 => ⟨(n3 : Int), 3, rfl, rfl, ?_⟩⟩
    obtain ⟨H4, e4, b4', hd4⟩ := drawn H3 d ds3
    rw [e4]
    -- opening, rows
    refine ⟨_, rfl, _, rfl, _, rfl, _, rfl, d, n1 + 1, n2 + 1, (n3 : Int) - 3, ds3, rfl, by omega, by omega, by omega, by omega, by omega, by omega, hd4, fun q lo lr op rs rows ds5 H5 b5 hd5 hq hlo hlr hrows O => ?_⟩
    refine ⟨q, _, rfl, SqT.of hq, rfl, _, _, rfl, _, _, rfl, rfl, ?_⟩
    have D5 : Dr H5 d := ⟨ds5, hd5⟩
    generalize hM : (⟨n1 + 1, n2 + 1, (n3 : Int) - 3, op, rows⟩ : Mc) = M at O
    -- machine
    refine ⟨_, rfl, _, rfl, _, rfl, _, rfl, lo, _, rfl, .inl (SqL.of hlo), fun lo2 hlo2 => ?_⟩
    have s6 : Same H5 (upd H5 lo2 (.lst (nats op))) := same_new hlo2
    refine ⟨_, rfl, lr, rs, rows, rfl, s6 _ _ hlr, hrows.keep s6, ?_, fun lr2 rs2 H7 s7 hlr20 hlr2 hrows2 => ?_⟩
    · have := O.r2
      rw [← hM] at this
      exact Nat.le_trans this (by decide)
    refine fun m dxm nm nd nx => ?_
    have s8 := same_made (C := D) nm nd
    have hlo7 : H7 lo2 = some (.lst (nats op)) := s7 _ _ upd_same
    refine ⟨m, dxm, lo2, lr2, rs2, M, by rw [← hM]; rfl, O, upd_same, by rw [← hM]; exact s8 _ _ hlo7, s8 _ _ hlr2, by rw [← hM]; exact hrows2.keep s8, fun H8 b8 hm8 => ⟨rfl, ?_⟩⟩
    have s58 : Same H5 H8 := (s6.trans s7).trans (((Same.but s8 m).trans b8).same nm)
    have D8 : Dr H8 d := D5.same s58
    obtain ⟨ds8, hd8⟩ := id D8
    have hin : M.inputs = n1 + 1 := by rw [← hM]
    -- spacing
    refine ⟨_, rfl, d, 5, ds8, rfl, by decide, hd8, fun n4 ds9 hn4 => ⟨1, (n4 : Int), rfl, rfl, set_step (v' := .int ((n4 + 1 : Nat) : Int)) (congrArg V.int (by omega)) ?_⟩⟩
    obtain ⟨H9, e9, b9, hd9⟩ := drawn H8 d ds9
    rw [e9]
    have hm9 : MAt D H9 m M := hm8.keep b9 (D8.nm hm8).symm D8.nt
    -- journal
    refine ⟨_, rfl, _, rfl, rfl, rfl, fun j dxj nj ndj njx => ?_⟩
    have s10 := same_made (C := C) nj ndj
    refine ⟨j, dxj, m, n4 + 1, M, rfl, by omega, upd_same, hm9.same s10, hm9.nope nj, fun H10 b10 hJ10 => ⟨rfl, ?_⟩⟩
    have s910 : Same H9 H10 := ((Same.but s10 j).trans b10).same nj
    have hm10 : MAt D H10 m M := hm9.same s910
    have hd10 : H10 d = some (.lst (ds9.map V.int)) := s910 _ _ hd9
    -- letters
    refine ⟨_, rfl, d, 13, ds9, rfl, by decide, hd10, fun n5 ds11 hn5 => ?_⟩
    obtain ⟨H11, e11, b11, hd11⟩ := drawn H10 d ds11
    rw [e11]
    have w10 : Wo D H10 d m M := ⟨⟨_, hd10⟩, hm10⟩
    have w11 := w10.draw b11 hd11
    have hJ11 := w10.jd hJ10 b11
    refine ⟨(n5 : Int), rfl, by omega, by omega, fun l hl => ?_⟩
    have nld : d ≠ l := ne_of_none hd11 hl
    have line : ∀ {n : Nat}, n ≤ 100000 → n ≤ sizeLine := fun h => Nat.le_trans h (by decide)
    refine lc_range (lo := 0) (fun i H' => Wo D H' d m M ∧ JAt C H' j m (n4 + 1) (Jn.init M (n4 + 1)) ∧ ∃ ls : List Nat, H' l = some (.lst (nats ls)) ∧ ls.length = i ∧ ∀ x ∈ ls, x < M.inputs) ?_ ?_ ?_
    · have s := same_new (o := HO.lst []) hl
      exact ⟨w11.same s, hJ11.same s, [], upd_same, rfl, fun x hx => nomatch hx⟩
    · rintro i H' hi ⟨w, hJ, ls, hl1, hll, hls⟩
      obtain ⟨dsx, hdx⟩ := id w.dr
      refine ⟨rfl, ?_⟩
      refine ⟨_, rfl, _, rfl, d, n1 + 1, dsx, rfl, by omega, hdx, fun n dsy hn => ?_⟩
      obtain ⟨H2', e2', b2', hd2'⟩ := drawn H' d dsy
      rw [e2']
      have w2 := w.draw b2' hd2'
      have hJ2 := w.jd hJ b2'
      have hl2 := b2' _ _ hl1 nld.symm
      refine ⟨nats ls, hl2, ?_, ?_⟩
      · unfold nats
        rw [List.length_map]
        exact small1000 (by omega)
      · have b3 := But.upd l H2' (.lst (nats ls ++ [.int (n : Int)]))
        refine ⟨⟨w2.dr.but b3 nld, w2.ma.keep b3 (w2.ma.nl hl2) (nt_lst hl2)⟩, hJ2.keep b3 (hJ2.nl hl2) (nt_lst hl2), ls ++ [n], ?_, by rw [List.length_append, hll]; rfl, fun x hx => ?_⟩
        · rw [upd_same]
          unfold nats
          rw [List.map_append]
          rfl
        · rcases List.mem_append.mp hx with z | z
          · exact hls x z
          · rw [List.mem_singleton.mp z, hin]
            exact hn
    rintro H12 ⟨w12, hJ12, ls, hl12, hll, hls⟩
    have hls12 : ls.length ≤ 12 := by
      rw [hll]
      omega
    generalize hsp : n4 + 1 = sp at hJ12 ⊢
    have hsp1 : 1 ≤ sp := by omega
    have hsp2 : sp < 100 := by omega
    -- for letter in letters: journal.hear(letter)
    refine ⟨_, rfl, l, rfl, ⟨_, SqL.of hl12⟩, for_list (K := K) (a := l) (xs := nats ls) (fun i σ H' => ∃ v12 : Option V, σ = [some (.ref a), some (.ref d), some (.int ((n1 + 1 : Nat) : Int)), some (.int ((n2 + 1 : Nat) : Int)), some (.int ((n3 : Int) - 3)), some (.ref lo), some (.ref lr), some (.ref m), some (.int (sp : Int)), some (.ref j), none, some (.ref l), v12, none, none, none, none, none, none, none, none] ∧
      Wo D H' d m M ∧ JAt C H' j m sp (run M sp (ls.take i)) ∧ H' l = some (.lst (nats ls))) ?_ (fun i σ H' _ ⟨_, _, _, _, e⟩ => SqL.of e) ?_ ?_⟩
    · exact ⟨none, rfl, w12, hJ12, hl12⟩
    · rintro i y σ H' hi ⟨v12, rfl, w, hJ, hl1⟩
      obtain ⟨n, hn, rfl⟩ := nats_at hi
      have hsub : ∀ x ∈ ls.take i, x < M.inputs := fun x hx => hls x (List.mem_of_mem_take hx)
      obtain ⟨JO, Jh⟩ := run_good (sp := sp) O hsp2 hsub (by rw [List.length_take]; omega)
      rw [List.length_take] at Jh
      obtain ⟨dx, tl, hj1, _⟩ := hJ.ex
      refine ⟨_, rfl, j, dx, _, rfl, hj1, jnh, _, rfl, j, m, sp, n, M, _, rfl, O, w.ma, hJ, JO, by omega, hls n (List.mem_of_getElem? hn), hsp1, fun l3 H3 b3 _ _ hJ3 => ?_⟩
      refine ⟨_, rfl, w.hear hJ b3, ?_, b3 _ _ hl1 (hJ.nl hl1).symm⟩
      rw [take_snoc hn, run_snoc]
      exact hJ3
    rintro σ H13 ⟨v12, rfl, w13, hJ13, hl13⟩
    have hnl : (nats ls).length = ls.length := by
      unfold nats
      rw [List.length_map]
    rw [hnl, List.take_length] at hJ13
    obtain ⟨JO, Jh⟩ := run_good (sp := sp) O hsp2 hls (by omega)
    have txl := JO.tx
    have tlen : (run M sp ls).text.length ≤ 1000 := by
      rw [len_tl]
      omega
    -- text = journal.text[: .. ]
    obtain ⟨dx, tl0, hj13, _⟩ := hJ13.ex
    obtain ⟨ds13, hd13⟩ := id w13.dr
    refine ⟨_, rfl, j, C, dx, _, _, rfl, hj13, c.cl, c.n2, jl2, _, rfl, d, 1000, ds13, rfl, by decide, hd13, fun n6 ds14 hn6 => ⟨1000, (n6 : Int), rfl, rfl, .inl ⟨by decide, by decide⟩, ?_⟩⟩
    obtain ⟨H14, e14, b14, hd14⟩ := drawn H13 d ds14
    rw [e14]
    have w14 := w13.draw b14 hd14
    have hJ14 := w13.jd hJ13 b14
    have hl14 := b14 _ _ hl13 nld.symm
    refine ⟨_, rfl, d, 1000, ds14, rfl, by decide, hd14, fun n7 ds15 hn7 => ⟨_, _, rfl, rfl, ?_⟩⟩
    obtain ⟨H15, e15, b15, hd15⟩ := drawn H14 d ds15
    rw [e15]
    have w15 := w14.draw b15 hd15
    have hJ15 := w14.jd hJ14 b15
    have hl15 := b15 _ _ hl14 nld.symm
    obtain ⟨dx5, tl5, hj15, _⟩ := hJ15.ex
    refine ⟨_, rfl, j, C, dx5, _, _, rfl, hj15, c.cl, c.n2, jl2, _, rfl, line (by omega), _, _, rfl, rfl, _, _, rfl, rfl, by omega, _, rfl, _, rfl, line (by omega), ?_⟩
    have hmod : 0 ≤ ((1000 : Int) * (n6 : Int) + (n7 : Int)).fmod (((run M sp ls).text.length : Int) + 1) := by
      rw [Int.fmod_eq_emod_of_nonneg _ (by omega)]
      exact Int.emod_nonneg _ (by omega)
    obtain ⟨r, jk, hcut, hjk⟩ := cut_text M sp ls hmod
    have hcl : (cutS (run M sp ls).text none (some (((1000 : Int) * (n6 : Int) + (n7 : Int)).fmod (((run M sp ls).text.length : Int) + 1)))).length ≤ 1000 := Nat.le_trans (cutS_length _ _ _) tlen
    generalize hx : cutS (run M sp ls).text none (some (((1000 : Int) * (n6 : Int) + (n7 : Int)).fmod (((run M sp ls).text.length : Int) + 1))) = x at hcut hcl
    obtain ⟨sp', ls', U⟩ := cutd hsp1 hsp2 hls (by omega) r
    generalize hLs : (lines M sp ls).take r = Ls at hcut U
    -- lines, kept
    refine ⟨_, rfl, ⟨_, rfl⟩, x, Str.ofString "\n", rfl, rfl, set_step (v' := .int ((Ls.length : Nat) : Int)) (congrArg V.int (count_nl hcut U.l10 hjk)) ?_⟩
    refine ⟨_, rfl, _, rfl, ⟨_, rfl⟩, x, Str.ofString "\n", rfl, rfl, _, _, rfl, rfl, _, rfl, x, rfl, line (by omega), set_step (v' := .str (mkS (glue Ls))) (congrArg V.str (kept_is hcut hjk)) ?_⟩
    have kl : (mkS (glue Ls)).length ≤ 1000 := by
      rw [len_tl, tl_mkS]
      rw [len_tl, hcut, List.length_append] at hcl
      omega
    -- other characters behind the last line feed, or not
    refine ⟨fun σ H' => ∃ (x2 : Str) (j2 : List Nat), σ = [some (.ref a), some (.ref d), some (.int ((n1 + 1 : Nat) : Int)), some (.int ((n2 + 1 : Nat) : Int)), some (.int ((n3 : Int) - 3)), some (.ref lo), some (.ref lr), some (.ref m), some (.int (sp : Int)), some (.ref j), none, some (.ref l), v12, some (.str x2), some (.int (Ls.length : Int)), some (.str (mkS (glue Ls))), none, none, none, none, none] ∧ tl x2 = glue Ls ++ j2 ∧ 10 ∉ j2 ∧ x2.length ≤ 2000 ∧ Wo D H' d m M ∧ H' l = some (.lst (nats ls)), ?_, ?_⟩
    · refine ⟨_, rfl, d, 3, ds15, rfl, by decide, hd15, fun n8 ds16 hn8 => ?_⟩
      obtain ⟨H16, e16, b16, hd16⟩ := drawn H15 d ds16
      rw [e16]
      have w16 := w15.draw b16 hd16
      have hl16 := b16 _ _ hl15 nld.symm
      refine ⟨rfl, _, rfl, ?_⟩
      refine ite2 (fun _ => ?_) (fun _ => ?_)
      · refine ⟨_, rfl, by show 6 ≤ sizeLine; decide, fun p hp => ?_⟩
        have s16 := same_new (o := HO.lst (menu.map V.str)) hp
        have w17 := w16.same s16
        have hl17 := s16 _ _ hl16
        obtain ⟨ds17, hd17⟩ := id w17.dr
        refine ⟨_, rfl, d, 6, ds17, rfl, by decide, hd17, fun n9 ds18 hn9 => ?_⟩
        obtain ⟨H18, e18, b18, hd18⟩ := drawn (upd H16 p (.lst (menu.map V.str))) d ds18
        rw [show upd H16 p (.lst [V.str (Str.ofString "heard"), V.str (Str.ofString "state 1"), V.str (Str.ofString "x"), V.str (Str.ofString "journal 9"), V.str (Str.ofString "heard 1 "), V.str (Str.ofString "state 99 99")]) = upd H16 p (.lst (menu.map V.str)) from rfl, e18]
        have w18 := w17.draw b18 hd18
        have hl18 := b18 _ _ hl17 nld.symm
        have hpd : p ≠ d := fun e => by
          rw [e, hd16] at hp
          cases hp
        have hp18 : H18 p = some (.lst (menu.map V.str)) := b18 _ _ upd_same hpd
        have hml : n9 < menu.length := hn9
        obtain ⟨m1, m2⟩ := menu_ok menu[n9] (List.getElem_mem hml)
        have hat : (menu.map V.str)[n9]? = some (V.str menu[n9]) := by rw [List.getElem?_map, List.getElem?_eq_getElem hml]; rfl
        refine ⟨p, _, (n9 : Int), _, rfl, rfl, SqL.of hp18, atI_nat hat, mkS (glue Ls), menu[n9], rfl, rfl, line (by omega), ?_⟩
        refine ⟨_, tl menu[n9], rfl, by rw [tl_append, tl_mkS], m1, by rw [Str.length_append]; omega, w18, hl18⟩
      · exact ⟨x, jk, rfl, hcut, hjk, by omega, w16, hl16⟩
    rintro σ H19 ⟨x2, j2, rfl, hx2, hj2, hxl2, w19, hl19⟩
    -- expected = Journal(machine)
    refine ⟨_, rfl, fun e0 dxe ne0 nde nex => ?_⟩
    have s19 := same_made (C := C) ne0 nde
    refine ⟨e0, dxe, m, 4, M, rfl, by decide, upd_same, (w19.same s19).ma, w19.ma.nope ne0, fun H20 b20 hE20 => ⟨rfl, ?_⟩⟩
    have s1920 : Same H19 H20 := ((Same.but s19 e0).trans b20).same ne0
    have w20 := w19.same s1920
    have hl20 := s1920 _ _ hl19
    -- if lines > 0: expected = Journal(machine, spacing=spacing)
    refine ⟨fun σ H' => ∃ e : Addr, σ = [some (.ref a), some (.ref d), some (.int ((n1 + 1 : Nat) : Int)), some (.int ((n2 + 1 : Nat) : Int)), some (.int ((n3 : Int) - 3)), some (.ref lo), some (.ref lr), some (.ref m), some (.int (sp : Int)), some (.ref j), none, some (.ref l), v12, some (.str x2), some (.int (Ls.length : Int)), some (.str (mkS (glue Ls))), some (.ref e), none, none, none, none] ∧ Wo D H' d m M ∧ H' l = some (.lst (nats ls)) ∧ JAt C H' e m sp' (Jn.init M sp'), ?_, ?_⟩
    · refine ⟨_, rfl, _, _, rfl, rfl, _, rfl, ?_⟩
      refine ite2 (fun q => ?_) (fun q => ?_)
      · have q0 : 0 < Ls.length := by
          have := of_decide_eq_true q
          omega
        have esp := U.more q0
        refine ⟨_, rfl, _, rfl, rfl, rfl, fun e1 dx1 ne1 nd1 nx1 => ?_⟩
        have s20 := same_made (C := C) ne1 nd1
        refine ⟨e1, dx1, m, sp, M, rfl, hsp2, upd_same, (w20.same s20).ma, w20.ma.nope ne1, fun H21 b21 hE21 => ⟨rfl, ?_⟩⟩
        have s2021 : Same H20 H21 := ((Same.but s20 e1).trans b21).same ne1
        exact ⟨e1, rfl, w20.same s2021, s2021 _ _ hl20, by rw [esp]; exact hE21⟩
      · have q0 : Ls.length = 0 := by
          rcases Nat.eq_zero_or_pos Ls.length with z | z
          · exact z
          · exact absurd (decide_eq_true (by omega)) q
        exact ⟨e0, rfl, w20, hl20, by rw [U.none q0]; exact hE20⟩
    rintro σ H22 ⟨e, rfl, w22, hl22, hE22⟩
    -- count
    refine ⟨_, rfl, ⟨_, rfl⟩, mkS (glue Ls), Str.ofString "heard ", rfl, rfl, set_step (v' := .int ((ls'.length : Nat) : Int)) (congrArg V.int (U.cnt _ rfl)) ?_⟩
    -- for letter in letters[:count]: expected.hear(letter)
    refine ⟨_, rfl, _, rfl, _, rfl, l, _, rfl, SqL.of hl22, fun l2 hl2 => ?_⟩
    have ecut : cutV (nats ls) none (some ((ls'.length : Nat) : Int)) = nats ls' := by rw [cutV_take, nats_take, ← U.tk]
    rw [ecut]
    have hls' : ∀ x ∈ ls', x < M.inputs := fun x hx => by
      rw [U.tk] at hx
      exact hls x (List.mem_of_mem_take hx)
    have hll' : ls'.length ≤ 12 := by
      have := congrArg List.length U.tk
      rw [List.length_take] at this
      omega
    have s22 := same_new (o := HO.lst (nats ls')) hl2
    refine ⟨l2, rfl, ⟨_, SqL.of upd_same⟩, for_list (K := K) (a := l2) (xs := nats ls') (fun i σ H' => ∃ u12 : Option V, σ = [some (.ref a), some (.ref d), some (.int ((n1 + 1 : Nat) : Int)), some (.int ((n2 + 1 : Nat) : Int)), some (.int ((n3 : Int) - 3)), some (.ref lo), some (.ref lr), some (.ref m), some (.int (sp : Int)), some (.ref j), none, some (.ref l), u12, some (.str x2), some (.int (Ls.length : Int)), some (.str (mkS (glue Ls))), some (.ref e), some (.int ((ls'.length : Nat) : Int)), none, none, none] ∧
      Wo D H' d m M ∧ JAt C H' e m sp' (run M sp' (ls'.take i)) ∧ H' l2 = some (.lst (nats ls'))) ?_ (fun i σ H' _ ⟨_, _, _, _, e⟩ => SqL.of e) ?_ ?_⟩
    · exact ⟨v12, rfl, w22.same s22, hE22.same s22, upd_same⟩
    · rintro i y σ H' hi ⟨u12, rfl, w, hJ, hl1⟩
      obtain ⟨n, hn, rfl⟩ := nats_at hi
      have hsub : ∀ x ∈ ls'.take i, x < M.inputs := fun x hx => hls' x (List.mem_of_mem_take hx)
      obtain ⟨JO2, Jh2⟩ := run_good (sp := sp') O U.s2 hsub (by rw [List.length_take]; omega)
      rw [List.length_take] at Jh2
      obtain ⟨dx2, tl2, hj2', _⟩ := hJ.ex
      refine ⟨_, rfl, e, dx2, _, rfl, hj2', jnh, _, rfl, e, m, sp', n, M, _, rfl, O, w.ma, hJ, JO2, by omega, hls' n (List.mem_of_getElem? hn), U.s1, fun l3 H3 b3 _ _ hJ3 => ?_⟩
      refine ⟨_, rfl, w.hear hJ b3, ?_, b3 _ _ hl1 (hJ.nl hl1).symm⟩
      rw [take_snoc hn, run_snoc]
      exact hJ3
    rintro σ H23 ⟨u12, rfl, w23, hE23, hl23⟩
    have hnl' : (nats ls').length = ls'.length := by
      unfold nats
      rw [List.length_map]
    rw [hnl', List.take_length] at hE23
    obtain ⟨JO', Jh'⟩ := run_good (sp := sp') O U.s2 hls' (by omega)
    have txl' := JO'.tx
    -- found = recover(machine, text)
    refine ⟨_, rfl, _, rfl, m, x2, M, sp', ls', rfl, O, w23.ma, by omega, U.rcv x2 j2 hx2 hj2, fun fo H24 s24 nfo hF24 => ?_⟩
    have w24 := w23.same s24
    have hE24 := hE23.same s24
    have nef : e ≠ fo := hE23.nope nfo
    -- again = recover(machine, found.text)
    obtain ⟨dxf, tlf, hf24, _⟩ := hF24.ex
    refine ⟨_, rfl, _, rfl, fo, C, dxf, _, _, rfl, hf24, c.cl, c.n2, jl2, m, _, M, sp', ls', rfl, O, w24.ma, by rw [len_tl]; omega, rec_self U.s1 U.s2 hls' (by omega), fun ag H25 s25 nag hA25 => ?_⟩
    have w25 := w24.same s25
    have hE25 := hE24.same s25
    have hF25 := hF24.same s25
    have nea : e ≠ ag := hE24.nope nag
    have nfa : fo ≠ ag := hF24.nope nag
    -- if not same(found, expected) or not same(again, expected)
    refine ⟨_, rfl, _, rfl, fo, e, m, sp', _, rfl, hF25, hE25, true, rfl, ?_⟩
    refine ⟨_, rfl, _, rfl, ag, e, m, sp', _, rfl, hA25, hE25, true, rfl, ?_⟩
    -- for k in range(take(draws, 5))
    obtain ⟨ds25, hd25⟩ := id w25.dr
    refine ⟨_, rfl, d, 5, ds25, rfl, by decide, hd25, fun n10 ds26 hn10 => ?_⟩
    obtain ⟨H26, e26, b26, hd26⟩ := drawn H25 d ds26
    rw [e26]
    refine ⟨(n10 : Int), rfl, by omega, by omega, for_range (lo := 0) (fun i σ H' => ∃ (v10 u12 v20 : Option V) (J : Jn), σ = [some (.ref a), some (.ref d), some (.int ((n1 + 1 : Nat) : Int)), some (.int ((n2 + 1 : Nat) : Int)), some (.int ((n3 : Int) - 3)), some (.ref lo), some (.ref lr), some (.ref m), some (.int (sp : Int)), some (.ref j), v10, some (.ref l), u12, some (.str x2), some (.int (Ls.length : Int)), some (.str (mkS (glue Ls))), some (.ref e), some (.int ((ls'.length : Nat) : Int)), some (.ref fo), some (.ref ag), v20] ∧
      Wo D H' d m M ∧ JAt C H' fo m sp' J ∧ JAt C H' e m sp' J ∧ JAt C H' ag m sp' J ∧ J.Ok M ∧ J.heard ≤ 20 + i) ?_ ?_ ?_⟩
    · exact ⟨none, u12, none, _, rfl, w25.draw b26 hd26, w25.jd hF25 b26, w25.jd hE25 b26, w25.jd hA25 b26, JO', by omega⟩
    · rintro i σ H' hi ⟨v10, u12, v20, J, rfl, w, hF, hE, hA, JO3, Jh3⟩
      have hi5 : i < 5 := by omega
      obtain ⟨dsx, hdx⟩ := id w.dr
      -- letter = take(draws, inputs)
      refine ⟨_, rfl, _, rfl, d, n1 + 1, dsx, rfl, by omega, hdx, fun n dsy hn => ?_⟩
      obtain ⟨H1', e1', b1', hd1'⟩ := drawn H' d dsy
      rw [e1']
      have w1 := w.draw b1' hd1'
      have hF1 := w.jd hF b1'
      have hE1 := w.jd hE b1'
      have hA1 := w.jd hA b1'
      have hnin : n < M.inputs := by rw [hin]; exact hn
      -- said = found.hear(letter)
      obtain ⟨dxf1, tlf1, hf1, _⟩ := hF1.ex
      refine ⟨_, rfl, fo, dxf1, _, rfl, hf1, jnh, _, rfl, fo, m, sp', n, M, J, rfl, O, w1.ma, hF1, JO3, by omega, hnin, U.s1, fun l3 H2' b2' hl30 hl3 hF2 => ?_⟩
      have w2 := w1.hear hF1 b2'
      have hE2 := hE1.hear hF1 b2' nef
      have hA2 := hA1.hear hF1 b2' nfa.symm
      have n3e : l3 ≠ e := (hE1.nope hl30).symm
      have n3a : l3 ≠ ag := (hA1.nope hl30).symm
      have hne : ∀ q, V.bl (!PyData.eqv (.list (dats q)) (.list (dats q))) = V.bl false := fun q => congrArg V.bl (by
        show (!PyData.eqvAll (dats q) (dats q)) = false
        rw [dats_eqv]
        rfl)
      -- said != expected.hear(letter)
      obtain ⟨dxe2, tle2, he2, _⟩ := hE2.ex
      refine ⟨_, rfl, _, rfl, e, dxe2, _, rfl, he2, jnh, _, rfl, e, m, sp', n, M, J, rfl, O, w2.ma, hE2, JO3, by omega, hnin, U.s1, fun l4 H3' b3' hl40 hl4 hE3 => ?_⟩
      have w3 := w2.hear hE2 b3'
      have hF3 := hF2.hear hE2 b3' nef.symm
      have hA3 := hA2.hear hE2 b3' nea.symm
      have hl33 := b3' _ _ hl3 n3e
      refine ⟨.list (dats (said M J n)), .list (dats (said M J n)), .lst (SqL.of hl33) (dats_all _), .lst (SqL.of hl4) (dats_all _), shaped_lst _, shaped_lst _, false, hne _, ?_⟩
      -- said != again.hear(letter)
      obtain ⟨dxa3, tla3, ha3, _⟩ := hA3.ex
      refine ⟨_, rfl, _, rfl, ag, dxa3, _, rfl, ha3, jnh, _, rfl, ag, m, sp', n, M, J, rfl, O, w3.ma, hA3, JO3, by omega, hnin, U.s1, fun l5 H4' b4' hl50 hl5 hA4 => ?_⟩
      have hl34 := b4' _ _ hl33 n3a
      refine ⟨.list (dats (said M J n)), .list (dats (said M J n)), .lst (SqL.of hl34) (dats_all _), .lst (SqL.of hl5) (dats_all _), shaped_lst _, shaped_lst _, false, hne _, ?_⟩
      exact ⟨_, _, _, J.hear M sp' n, rfl, w3.hear hA3 b4', hF3.hear hA3 b4' nfa, hE3.hear hA3 b4' nea, hA4, JO3.hear O hnin (by omega), by show J.heard + 1 ≤ 20 + (i + 1); omega⟩
    rintro σ H27 ⟨v10, u12', v20, J, rfl, w27, hF27, hE27, hA27, _, _⟩
    refine ⟨_, rfl, _, rfl, fo, e, m, sp', _, rfl, hF27, hE27, true, rfl, ?_⟩
    refine ⟨_, rfl, _, rfl, ag, e, m, sp', _, rfl, hA27, hE27, true, rfl, ?_⟩
    -- the two recoveries
    refine ⟨_, rfl, _, rfl, m, x2, M, sp', ls', rfl, O, w27.ma, by omega, U.rcv x2 j2 hx2 hj2, fun r1 H28 s28 nr1 hR1 => ?_⟩
    refine ⟨_, rfl, _, rfl, m, mkS (glue Ls), M, sp', ls', rfl, O, w27.ma.same s28, by omega, U.rcv _ [] (by rw [tl_mkS, List.append_nil]) (by simp), fun r2 H29 s29 nr2 hR2 => ?_⟩
    exact ⟨r1, r2, m, sp', _, rfl, hR1.same s29, hR2, k H29⟩
end
end KJ

/-! What the top has written, gathered; the law's own end. -/
namespace KJ
open PySem L2 TL
theorem all_mk {l : PySem.W.OpenLaw} {w : World} {K : PySem.W.Frag} {h : Heap} {mg : Str → Option Value} {fa : Addr} (X : K.In h) (G : h.Ns mainGlobals mg) (hfa : mg "law" = some (.ref fa))
    {odD anD : Option Addr} {slD : Array (Option Value)} {ocD kVD dcD pmD cdD ctD : Value} {fD : Addr} {odT anT : Option Addr} {slT : Array (Option Value)} {ocT kVT dcT pmT cdT ctT : Value} {fT : Addr} {odF anF : Option Addr} {slF : Array (Option Value)} {ocF kVF dcF pmF cdF ctF : Value} {fF : Addr} {odM anM : Option Addr} {slM : Array (Option Value)} {ocM kVM dcM pmM cdM ctM : Value} {fM : Addr} {odS anS : Option Addr} {slS : Array (Option Value)} {ocS kVS dcS pmS cdS ctS : Value} {fS : Addr} {odB anB : Option Addr} {slB : Array (Option Value)} {ocB kVB dcB pmB cdB ctB : Value} {fB : Addr} {odN anN : Option Addr} {slN : Array (Option Value)} {ocN kVN dcN pmN cdN ctN : Value} {fN : Addr} {odE anE : Option Addr} {slE : Array (Option Value)} {ocE kVE dcE pmE cdE ctE : Value} {fE : Addr} {odR anR : Option Addr} {slR : Array (Option Value)} {ocR kVR dcR pmR cdR ctR : Value} {fR : Addr} {odL anL : Option Addr} {slL : Array (Option Value)} {ocL kVL dcL pmL cdL ctL : Value} {fL : Addr} {odI anI : Option Addr} {slI : Array (Option Value)} {ocI kVI dcI pmI cdI ctI : Value} {fI : Addr} {C D : Addr} {Dk p g : Addr} {t4 tD : Tok} {rest : List Value} {odJ anJ : Option Addr} {slJ : Array (Option Value)} {ocJ dcJ pmJ cdJ ctJ : Value} {fJ : Addr} {odH anH : Option Addr} {slH : Array (Option Value)} {ocH kVH dcH pmH cdH ctH : Value} {fH : Addr} {odG anG : Option Addr} {slG : Array (Option Value)} {ocG kVG dcG pmG cdG ctG : Value}
    (aD : PySem.W.nsIn K mainGlobals "_law_draws" = some (some (.ref fD)))
    (lD : K.lookup fD = some ⟨ocD, odD, .func (PySem.W.fnOf "_law_draws" "_law_draws" (defArgs sDraws) (defBody sDraws) (defScope sDraws) .none kVD dcD pmD anD cdD ctD), slD⟩)
    (cD : PySem.W.codeIn K cdD "_law_draws" = true)
    (kD : PySem.W.keepIn K (.ref fD) = true)
    (aT : PySem.W.nsIn K mainGlobals "_law_take" = some (some (.ref fT)))
    (lT : K.lookup fT = some ⟨ocT, odT, .func (PySem.W.fnOf "_law_take" "_law_take" (defArgs sTake) (defBody sTake) (defScope sTake) .none kVT dcT pmT anT cdT ctT), slT⟩)
    (cT : PySem.W.codeIn K cdT "_law_take" = true)
    (kT : PySem.W.keepIn K (.ref fT) = true)
    (aF : PySem.W.nsIn K mainGlobals "_law_flat" = some (some (.ref fF)))
    (lF : K.lookup fF = some ⟨ocF, odF, .func (PySem.W.fnOf "_law_flat" "_law_flat" (defArgs sFlat) (defBody sFlat) (defScope sFlat) .none kVF dcF pmF anF cdF ctF), slF⟩)
    (cF : PySem.W.codeIn K cdF "_law_flat" = true)
    (kF : PySem.W.keepIn K (.ref fF) = true)
    (aM : PySem.W.nsIn K mainGlobals "_law_machine" = some (some (.ref fM)))
    (lM : K.lookup fM = some ⟨ocM, odM, .func (PySem.W.fnOf "_law_machine" "_law_machine" (defArgs sMach) (defBody sMach) (defScope sMach) .none kVM dcM pmM anM cdM ctM), slM⟩)
    (cM' : PySem.W.codeIn K cdM "_law_machine" = true)
    (kM : PySem.W.keepIn K (.ref fM) = true)
    (aS : PySem.W.nsIn K mainGlobals "_law_same_journal" = some (some (.ref fS)))
    (lS : K.lookup fS = some ⟨ocS, odS, .func (PySem.W.fnOf "_law_same_journal" "_law_same_journal" (defArgs sSame) (defBody sSame) (defScope sSame) .none kVS dcS pmS anS cdS ctS), slS⟩)
    (cS : PySem.W.codeIn K cdS "_law_same_journal" = true)
    (kS : PySem.W.keepIn K (.ref fS) = true)
    (aB : PySem.W.nsIn K mainGlobals "all_below" = some (some (.ref fB)))
    (lB : K.lookup fB = some ⟨ocB, odB, .func (PySem.W.fnOf "all_below" "all_below" (defArgs sBelow) (defBody sBelow) (defScope sBelow) .none kVB dcB pmB anB cdB ctB), slB⟩)
    (cB : PySem.W.codeIn K cdB "all_below" = true)
    (kB : PySem.W.keepIn K (.ref fB) = true)
    (aN : PySem.W.nsIn K mainGlobals "read_number" = some (some (.ref fN)))
    (lN : K.lookup fN = some ⟨ocN, odN, .func (PySem.W.fnOf "read_number" "read_number" (defArgs sNum) (defBody sNum) (defScope sNum) .none kVN dcN pmN anN cdN ctN), slN⟩)
    (cN : PySem.W.codeIn K cdN "read_number" = true)
    (kN : PySem.W.keepIn K (.ref fN) = true)
    (aE : PySem.W.nsIn K mainGlobals "read_letter" = some (some (.ref fE)))
    (lE : K.lookup fE = some ⟨ocE, odE, .func (PySem.W.fnOf "read_letter" "read_letter" (defArgs sLet) (defBody sLet) (defScope sLet) .none kVE dcE pmE anE cdE ctE), slE⟩)
    (cE : PySem.W.codeIn K cdE "read_letter" = true)
    (kE : PySem.W.keepIn K (.ref fE) = true)
    (aR : PySem.W.nsIn K mainGlobals "recover" = some (some (.ref fR)))
    (lR : K.lookup fR = some ⟨ocR, odR, .func (PySem.W.fnOf "recover" "recover" (defArgs sRec) (defBody sRec) (defScope sRec) .none kVR dcR pmR anR cdR ctR), slR⟩)
    (cR : PySem.W.codeIn K cdR "recover" = true)
    (kR : PySem.W.keepIn K (.ref fR) = true)
    (aL : PySem.W.nsIn K mainGlobals "law" = some (some (.ref fL)))
    (lL : K.lookup fL = some ⟨ocL, odL, .func (PySem.W.fnOf "law" "law" (defArgs sLaw) (defBody sLaw) (defScope sLaw) .none kVL dcL pmL anL cdL ctL), slL⟩)
    (cL : PySem.W.codeIn K cdL "law" = true)
    (kL : PySem.W.keepIn K (.ref fL) = true)
    (aMm : PySem.W.nsIn K mainGlobals "Machine" = some (some (.ref D)))
    (aJj : PySem.W.nsIn K mainGlobals "Journal" = some (some (.ref C)))
    (aI : PySem.W.findIn K (.ref D) "__init__" = some (some (.ref fI)))
    (iI : PySem.W.isFn K (.ref fI) = true)
    (lI : K.lookup fI = some ⟨ocI, odI, .func (PySem.W.fnOf "__init__" "Machine.__init__" (defArgs sMInit) (defBody sMInit) (defScope sMInit) .none kVI dcI pmI anI cdI ctI), slI⟩)
    (cI : PySem.W.codeIn K cdI "Machine.__init__" = true)
    (kI : PySem.W.keepIn K (.ref fI) = true)
    (aJ : PySem.W.findIn K (.ref C) "__init__" = some (some (.ref fJ)))
    (iJ : PySem.W.isFn K (.ref fJ) = true)
    (lJ : K.lookup fJ = some ⟨ocJ, odJ, .func (PySem.W.fnOf "__init__" "Journal.__init__" (defArgs sJInit) (defBody sJInit) (defScope sJInit) .none (.ref Dk) dcJ pmJ anJ cdJ ctJ), slJ⟩)
    (cJ' : PySem.W.codeIn K cdJ "Journal.__init__" = true)
    (kJ : PySem.W.keepIn K (.ref fJ) = true)
    (aH : PySem.W.findIn K (.ref C) "hear" = some (some (.ref fH)))
    (iH : PySem.W.isFn K (.ref fH) = true)
    (lH : K.lookup fH = some ⟨ocH, odH, .func (PySem.W.fnOf "hear" "Journal.hear" (defArgs sHear) (defBody sHear) (defScope sHear) .none kVH dcH pmH anH cdH ctH), slH⟩)
    (cH' : PySem.W.codeIn K cdH "Journal.hear" = true)
    (kH : PySem.W.keepIn K (.ref fH) = true)
    (sK : PySem.W.nsIn K Dk "spacing" = some (some (.int 4 t4)))
    (aG : PySem.W.findIn K (.ref C) "said" = some (some (.ref p)))
    (gG : PySem.W.specialIn K (.ref p) "__get__" = some (some (.builtin "property.__get__")))
    (tG : PySem.W.takesIn K (.ref p) = some true)
    (rG : PySem.W.recIn K p "property" = some (.ref g :: rest))
    (lG : K.lookup g = some ⟨ocG, odG, .func (PySem.W.fnOf "said" "Journal.said" (defArgs sSaid) (defBody sSaid) (defScope sSaid) .none kVG dcG pmG anG cdG ctG), slG⟩)
    (cG : PySem.W.codeIn K cdG "Journal.said" = true)
    (kG : PySem.W.keepIn K (.ref g) = true)
    (pgM : PySem.W.plainGet K D Str.empty = true)
    (hdM : PySem.W.hasDictIn K D = true)
    (poM : PySem.W.plainOver K D = true)
    (saM : PySem.W.findIn K (.ref D) "__setattr__" = some (some (.builtin "object.__setattr__")))
    (mkM : PySem.W.makesIn K D = true)
    (kcM : PySem.W.keepIn K (.ref D) = true)
    (pgJ : PySem.W.plainGet K C Str.empty = true)
    (hdJ : PySem.W.hasDictIn K C = true)
    (poJ : PySem.W.plainOver K C = true)
    (saJ : PySem.W.findIn K (.ref C) "__setattr__" = some (some (.builtin "object.__setattr__")))
    (mkJ : PySem.W.makesIn K C = true)
    (kcJ : PySem.W.keepIn K (.ref C) = true)
    (nM0 : PySem.W.findIn K (.ref D) "inputs" = some none)
    (nM1 : PySem.W.findIn K (.ref D) "outputs" = some none)
    (nM2 : PySem.W.findIn K (.ref D) "lead" = some none)
    (nM3 : PySem.W.findIn K (.ref D) "opening" = some none)
    (nM4 : PySem.W.findIn K (.ref D) "rows" = some none)
    (nJ0 : PySem.W.findIn K (.ref C) "machine" = some none)
    (nJ1 : PySem.W.findIn K (.ref C) "spacing" = some none)
    (nJ2 : PySem.W.findIn K (.ref C) "text" = some none)
    (nJ3 : PySem.W.findIn K (.ref C) "state" = some none)
    (nJ4 : PySem.W.findIn K (.ref C) "heard" = some none)
    (nJ5 : PySem.W.findIn K (.ref C) "letters" = some none)
    (z_len : PySem.W.nsIn K mainGlobals "len" = some none)
    (z_int : PySem.W.nsIn K mainGlobals "int" = some none)
    (z_str : PySem.W.nsIn K mainGlobals "str" = some none)
    (z_list : PySem.W.nsIn K mainGlobals "list" = some none)
    (z_tuple : PySem.W.nsIn K mainGlobals "tuple" = some none)
    (z_range : PySem.W.nsIn K mainGlobals "range" = some none)
    (z_max : PySem.W.nsIn K mainGlobals "max" = some none)
    (dig : PySem.W.nsIn K mainGlobals "DIGITS" = some (some (.str (Str.ofString "0123456789") tD))) :
    ∃ fd : FuncData, (∀ (s : Shared) (v : Value), BindsTo s fd ⟨[v], []⟩ [("_law_script", v)]) ∧ ∀ base : Heap, K.In base → base.Ns mainGlobals mg → FnOk l.prog w K mg base CX0 4 fa fd ["_law_script"] (spLaw K) := by
  have e := hfa.symm.trans (PySem.W.mg_of X G aL)
  cases e
  have T : Bi mg := ⟨PySem.W.mg_none_of X G z_len, PySem.W.mg_none_of X G z_int, PySem.W.mg_none_of X G z_str, PySem.W.mg_none_of X G z_list, PySem.W.mg_none_of X G z_tuple, PySem.W.mg_none_of X G z_range, PySem.W.mg_none_of X G z_max⟩
  have cM : CM K D := ⟨⟨pgM, hdM, poM, saM⟩, nM0, nM1, nM2, nM3, nM4⟩
  have cJ : CJ K C := ⟨⟨pgJ, hdJ, poJ, saJ⟩, nJ0, nJ1, nJ2, nJ3, nJ4, nJ5⟩
  have FD := fun_mk (st := sDraws) lD cD kD
  have bD := FD.binds (ps := ["_law_script", "_law_count"]) fun _ _ _ _ _ _ us hl => match us, hl with | [_, _], _ => rfl
  have FT := fun_mk (st := sTake) lT cT kT
  have bT := FT.binds (ps := ["_law_draws_here", "_law_limit"]) fun _ _ _ _ _ _ us hl => match us, hl with | [_, _], _ => rfl
  have FF := fun_mk (st := sFlat) lF cF kF
  have bF := FF.binds (ps := ["_law_rows"]) fun _ _ _ _ _ _ us hl => match us, hl with | [_], _ => rfl
  have FM := fun_mk (st := sMach) lM cM' kM
  have bM := FM.binds (ps := ["_law_draws_here", "_law_inputs", "_law_outputs", "_law_lead", "_law_most"]) fun _ _ _ _ _ _ us hl => match us, hl with | [_, _, _, _, _], _ => rfl
  have FS := fun_mk (st := sSame) lS cS kS
  have bS := FS.binds (ps := ["_law_one", "_law_two"]) fun _ _ _ _ _ _ us hl => match us, hl with | [_, _], _ => rfl
  have FB := fun_mk (st := sBelow) lB cB kB
  have bB := FB.binds (ps := ["numbers", "limit"]) fun _ _ _ _ _ _ us hl => match us, hl with | [_, _], _ => rfl
  have FN := fun_mk (st := sNum) lN cN kN
  have bN := FN.binds (ps := ["word"]) fun _ _ _ _ _ _ us hl => match us, hl with | [_], _ => rfl
  have FE := fun_mk (st := sLet) lE cE kE
  have bE := FE.binds (ps := ["line", "machine"]) fun _ _ _ _ _ _ us hl => match us, hl with | [_, _], _ => rfl
  have FR := fun_mk (st := sRec) lR cR kR
  have bR := FR.binds (ps := ["machine", "text"]) fun _ _ _ _ _ _ us hl => match us, hl with | [_, _], _ => rfl
  have FL := fun_mk (st := sLaw) lL cL kL
  have FI := fun_mk (st := sMInit) lI cI kI
  have bI := FI.binds (ps := pMI) fun _ _ _ _ _ _ us hl => match us, hl with | [_, _, _, _, _, _], _ => rfl
  have FH := fun_mk (st := sHear) lH cH' kH
  have bH := FH.binds (ps := pHe) fun _ _ _ _ _ _ us hl => match us, hl with | [_, _], _ => rfl
  have FJ : FunD K "__init__" "Journal.__init__" (defArgs sJInit) (defBody sJInit) (defScope sJInit) [] [("spacing", V.int 4)] fJ _ := ⟨⟨_, _, _, _, _, _, _, _, _, _, rfl, lJ, cJ', .inl ⟨rfl, rfl⟩, .inr ⟨Dk, rfl, fun q hq => by
    rw [List.mem_singleton.mp hq]
    exact ⟨_, sK, ⟨_, rfl⟩⟩⟩⟩, kJ⟩
  have b4 := FJ.binds0 (ps := nJI) 2 (by simp) rfl fun _ _ _ _ _ _ us ks h1 h2 => match us, ks, h1, h2 with
    | [_, _], [_], _, _ => ⟨_, _, _, _, _, _, rfl, rfl, rfl⟩
  obtain ⟨mv, kb⟩ := FJ.kbinds0 (ps := nJI) 2 ["spacing"] [] (fun vs _ zs => vs ++ zs) (by simp) (fun _ h => nomatch h) (fun r1 _ r3 => r1.append r3) fun _ _ _ _ _ _ us mv ws h1 h2 h3 => match us, mv, ws, h1, h2, h3 with
    | [_, _], [], [_], _, _, _ => rfl
  have FG := fun_mk (st := sSaid) lG cG kG
  have bG := FG.binds (ps := ["self"]) fun _ _ _ _ _ _ us hl => match us, hl with | [_], _ => rfl
  have scG : FnScope ["self"] ["self"] (defScope sSaid) := ⟨rfl, rfl, rfl, by decide +kernel, rfl, by decide +kernel, by decide +kernel⟩
  refine ⟨PySem.W.fnOf "law" "law" (defArgs sLaw) (defBody sLaw) (defScope sLaw) .none kVL dcL pmL anL cdL ctL, fun s v => .of_eq rfl, fun base _ _ => ?_⟩
  have GT := (⟨ok_take FT T, PySem.W.mg_of X G aT, kT, bT⟩ : Gd l.prog w K mg base "_law_take" 1 ["_law_draws_here", "_law_limit"] spTake fT _)
  have GD := (⟨ok_draws FD T, PySem.W.mg_of X G aD, kD, bD⟩ : Gd l.prog w K mg base "_law_draws" 1 ["_law_script", "_law_count"] (spDraws K) fD _)
  have GF := (⟨ok_flat FF T, PySem.W.mg_of X G aF, kF, bF⟩ : Gd l.prog w K mg base "_law_flat" 1 ["_law_rows"] spFlat fF _)
  have GB := (⟨ok_below FB, PySem.W.mg_of X G aB, kB, bB⟩ : Gd l.prog w K mg base "all_below" 1 ["numbers", "limit"] (spBelow K) fB _)
  have GM := (⟨ok_mach FM T GT, PySem.W.mg_of X G aM, kM, bM⟩ : Gd l.prog w K mg base "_law_machine" 2 pMach spMach fM _)
  have GI := (⟨⟨mkM, aI, iI, kcM⟩, ok_minit FI T cM GB, PySem.W.mg_of X G aMm, bI⟩ : Gi l.prog w K mg base D fI _)
  have GJ := (⟨⟨mkJ, aJ, iJ, kcJ⟩, ok_jinit FJ T cM cJ, PySem.W.mg_of X G aJj, b4, ⟨_, kb⟩, ⟨aH, iH, kH⟩, ok_hear FH T cM cJ, bH⟩ : Gj l.prog w K mg base D C fJ fH _ _)
  have GN := (⟨ok_num FN T (PySem.W.mg_of X G dig), PySem.W.mg_of X G aN, kN, bN⟩ : Gd l.prog w K mg base "read_number" 1 ["word"] spNum fN _)
  have GE := (⟨ok_let FE cM GN, PySem.W.mg_of X G aE, kE, bE⟩ : Gd l.prog w K mg base "read_letter" 2 ["line", "machine"] (spLet D) fE _)
  have GR := (⟨ok_rec FR T cM cJ GJ GN GE, PySem.W.mg_of X G aR, kR, bR⟩ : Gd l.prog w K mg base "recover" 3 ["machine", "text"] (spRec D C) fR _)
  have Gp := (⟨⟨aG, gG, tG, ⟨rest, rG⟩⟩, fn_getter (k := 0) lG cG scG rfl rfl cJ.cl cJ.n5, bG⟩ : Gs l.prog w K mg base C p g _)
  have GS := (⟨ok_same FS cJ Gp, PySem.W.mg_of X G aS, kS, bS⟩ : Gd l.prog w K mg base "_law_same_journal" 3 ["_law_one", "_law_two"] (spSame C) fS _)
  exact ok_law FL T cM cJ GD GT GM GF GI GJ GR GS
theorem walk {l : PySem.W.OpenLaw} {q : Program} {loose : List Str} {XP : (Str → Option Value) → Heap → Prop} {YP : World → Heap → Prop} {d : DefRec} {K : Params → PySem.W.Frag} (hn : l.most = some 63) (hdf : d.params.defaults = [])
    (hY : ∀ (w : World) (h : Heap), YP w h → (K w.params).In h)
    (F : ∀ (w : World) (mg : Str → Option Value) (fa : Addr) (h : Heap), (K w.params).In h → h.Ns mainGlobals mg → mg d.name = some (.ref fa) →
      ∃ fd : FuncData, (∀ (s : Shared) (u : Value), BindsTo s fd ⟨[u], []⟩ [("_law_script", u)]) ∧ ∀ base : Heap, (K w.params).In base → base.Ns mainGlobals mg → FnOk l.prog w (K w.params) mg base CX0 4 fa fd ["_law_script"] (spLaw (K w.params))) :
    PySem.W.WalkO q loose XP YP l.row.toRowW d [] (fun f vs => PySem.call f vs) :=
  L2.walk_of (n := 63) (k := 4) (x := "_law_script") (CX := fun _ => CX0) (sp := fun w => spLaw (K w.params)) hn (by decide) hdf ⟨rfl, by decide, by decide⟩ hY F (fun _ _ a ns hl _ hS => ⟨a, ns, rfl, hS, hl, fun _ => rfl⟩) fun _ _ _ _ _ z => z
end KJ

open PySem PySem.W PyProof.Rows
set_option maxRecDepth 100000 in
set_option maxHeartbeats 0 in
theorem PySem.Challenge.cw_reactivesynth_k62_whole_recovery_holds : PySem.Challenge.rw_reactivesynth_k62_whole_recovery.Holds := by
  w_on; o_law; k_head; (case hw => w_witness2)
  k_fill
  refine KJ.walk (l := PySem.Challenge.rw_reactivesynth_k62_whole_recovery) rfl rfl (fun w h Y => PySem.W.kIn_of Y) ?F
  case F =>
    intro w mg fa h KX G hmg
    refine' KJ.all_mk KX G hmg ?aD ?lD ?cD ?kD ?aT ?lT ?cT ?kT ?aF ?lF ?cF ?kF ?lM ?cM' ?kM ?aS ?lS ?cS ?kS ?aB ?lB ?cB ?kB ?aN ?lN ?cN ?kN ?aE ?lE ?cE ?kE ?aR ?lR ?cR ?kR ?aL ?lL ?cL ?kL ?aM ?aMm ?aJj ?aI ?iI ?lI ?cI ?kI ?aJ ?iJ ?lJ ?cJ' ?kJ ?aH ?iH ?lH ?cH' ?kH ?sK ?aG ?gG ?tG ?rG ?lG ?cG ?kG ?pgM ?hdM ?poM ?saM ?mkM ?kcM ?pgJ ?hdJ ?poJ ?saJ ?mkJ ?kcJ ?nM0 ?nM1 ?nM2 ?nM3 ?nM4 ?nJ0 ?nJ1 ?nJ2 ?nJ3 ?nJ4 ?nJ5 ?z_len ?z_int ?z_str ?z_list ?z_tuple ?z_range ?z_max ?dig
    (case aD => k_is)
    (case lD => k_is)
    (case cD => k_is)
    (case kD => k_is)
    (case aT => k_is)
    (case lT => k_is)
    (case cT => k_is)
    (case kT => k_is)
    (case aF => k_is)
    (case lF => k_is)
    (case cF => k_is)
    (case kF => k_is)
    (case lM => k_is)
    (case cM' => k_is)
    (case kM => k_is)
    (case aS => k_is)
    (case lS => k_is)
    (case cS => k_is)
    (case kS => k_is)
    (case aB => k_is)
    (case lB => k_is)
    (case cB => k_is)
    (case kB => k_is)
    (case aN => k_is)
    (case lN => k_is)
    (case cN => k_is)
    (case kN => k_is)
    (case aE => k_is)
    (case lE => k_is)
    (case cE => k_is)
    (case kE => k_is)
    (case aR => k_is)
    (case lR => k_is)
    (case cR => k_is)
    (case kR => k_is)
    (case aL => k_is)
    (case lL => k_is)
    (case cL => k_is)
    (case kL => k_is)
    (case aM => k_is)
    (case aMm => k_is)
    (case aJj => k_is)
    (case aI => k_is)
    (case iI => k_is)
    (case lI => k_is)
    (case cI => k_is)
    (case kI => k_is)
    (case aJ => k_is)
    (case iJ => k_is)
    (case lJ => k_is)
    (case cJ' => k_is)
    (case kJ => k_is)
    (case aH => k_is)
    (case iH => k_is)
    (case lH => k_is)
    (case cH' => k_is)
    (case kH => k_is)
    (case sK => k_is)
    (case aG => k_is)
    (case gG => k_is)
    (case tG => k_is)
    (case rG => k_is)
    (case lG => k_is)
    (case cG => k_is)
    (case kG => k_is)
    (case pgM => k_is)
    (case hdM => k_is)
    (case poM => k_is)
    (case saM => k_is)
    (case mkM => k_is)
    (case kcM => k_is)
    (case pgJ => k_is)
    (case hdJ => k_is)
    (case poJ => k_is)
    (case saJ => k_is)
    (case mkJ => k_is)
    (case kcJ => k_is)
    (case nM0 => k_is)
    (case nM1 => k_is)
    (case nM2 => k_is)
    (case nM3 => k_is)
    (case nM4 => k_is)
    (case nJ0 => k_is)
    (case nJ1 => k_is)
    (case nJ2 => k_is)
    (case nJ3 => k_is)
    (case nJ4 => k_is)
    (case nJ5 => k_is)
    (case z_len => k_is)
    (case z_int => k_is)
    (case z_str => k_is)
    (case z_list => k_is)
    (case z_tuple => k_is)
    (case z_range => k_is)
    (case z_max => k_is)
    (case dig => k_is)
