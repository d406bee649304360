import PyProof.Rows.All
import Wide.All
import OpenK.AllK
import Wide.FinOn
import HandS.Base
import HandS.Call
import HandS.Defaults
import HandS.Lambda
import HandS.Nested
import HandS.Head0
import HandS.Head1
import HandS.Head2
import HandS.HeadEnd
import HandS.HeadHook1
import HandS.HeadHook2
import HandS.HeadHook4
import HandS.EndTab
import HandS.HeadWalk
import HandS.ForMost
import HandS.Exc
import KE.KeyNested
import KE.KDictKeyed
import KE.SortData
import HandS.Deep
import HandS.IsInst
import HandS.Conv
import HandS.TupAny
import HandS.Star
import HandS.Flow
import HandS.Walk
import HandS.TupSets
import HandS.SetFor
import HandS.Iter
import KE.GoesMore
import KE.GoesEnum
import KE.KDictDisplayH
import HandS.TupLen
import HandS.DictComp
import KE.KIndexOf
import HandS.Style
import PySem.Challenge.RW_wokeas_k97_whole_plain_rows_by_walk
section
set_option Elab.async false
set_option linter.all false
set_option maxRecDepth 100000
set_option maxHeartbeats 0
/-! The head: what stands when the law is called; it comes first, while little memory is in use. -/
namespace W97
open PySem PySem.Spec PyProof.Rows L2
def topS (i : Nat) : Stmt := PySem.Challenge.pw_wokeas_k97_whole_plain_rows_by_walk.main.body.getD i (.Pass ⟨0, 0, 0, 0⟩)
def dAt (x : Str) (i : Nat) (dfl : List He.Dv) (kwd : List (Str × He.Dv)) : He.DefD := ⟨(x, none), x, x, defArgs (topS i), defBody (topS i), defScope (topS i), dfl, kwd⟩
def fn0 : List He.DefD := [dAt "as_set" 1 [] [], dAt "all_standings" 2 [] [], dAt "led_by" 3 [] [], dAt "nexts_by" 4 [] [], dAt "left_by" 5 [] [], dAt "nexts_of" 6 [] [], dAt "after_by" 7 [] [], dAt "part_by" 8 [] [], dAt "marks_of" 10 [] [], dAt "marks_by" 11 [] [], dAt "first_row_by" 12 [] [], dAt "merged_by" 13 [] [], dAt "beside" 15 [] [], dAt "known_standings" 16 [] [], dAt "plain_by" 17 [] [], dAt "strange_by" 18 [] [], dAt "is_integer" 26 [] [], dAt "is_number" 27 [] [], dAt "is_index" 28 [] [], dAt "is_pair" 29 [] []]
def fn1 : List He.DefD := [dAt "are_indexes" 30 [] [], dAt "is_by_form" 32 [] [], dAt "machine_fault" 33 [] [], dAt "is_machine" 34 [] [], dAt "want" 36 [.int (-1)] [], dAt "want_machine" 37 [.str "machine"] [], dAt "is_place_by_form" 39 [] [], dAt "guard_fault" 40 [] [], dAt "want_many" 41 [] [], dAt "is_guard" 42 [] [], dAt "want_both" 44 [] [], dAt "want_case" 45 [] [], dAt "plain_letters" 47 [] [], dAt "goal_by" 49 [] [], dAt "states_behind" 50 [] [], dAt "states_begun" 51 [] [], dAt "failing_from" 52 [] [], dAt "failing_by" 53 [] [], dAt "may_by" 54 [] [], dAt "least_by" 55 [] []]
def fn2 : List He.DefD := [dAt "is_alike_to" 56 [] [], dAt "is_plain" 58 [] [], dAt "led_from" 60 [] [], dAt "least_parts" 61 [] [], dAt "numbered_from" 62 [] [], dAt "core_by" 63 [] [], dAt "cores_by" 64 [] [], dAt "settled_by" 65 [] [], dAt "settled_after" 67 [] [], dAt "shares_cores" 68 [] [], dAt "row_fault" 72 [] [], dAt "plain_fault" 73 [] [], dAt "lets_plain" 74 [] [], dAt "least_beats" 76 [] [("guard", .non)], dAt "_law_feed" 78 [] [], dAt "_law_pick" 79 [] [], dAt "_law_names" 80 [] [], dAt "_law_drawn" 81 [] [], dAt "_law_tailed" 82 [] [], dAt "_law_called" 83 [] []]
def fn3 : List He.DefD := [dAt "_law_joined" 84 [] [], dAt "_law_pair" 85 [] [], dAt "_law_labels" 86 [] [], dAt "_law_good" 87 [] [], dAt "_law_plain" 88 [] [], dAt "_law_same" 89 [] [], dAt "_law_heard" 90 [] [], dAt "_law_ten" 91 [] [], dAt "_law_written" 92 [] [], dAt "_law_comes" 93 [] [], dAt "_law_rows" 94 [] [], dAt "_law_is_let" 95 [] [], dAt "_law_is_fine" 96 [] [], dAt "law" 97 [] []]
def fn : List He.DefD := fn0 ++ fn1 ++ fn2 ++ fn3
def fa0 : List He.Fa := [.glo "as_set", .glo "all_standings", .glo "led_by", .glo "nexts_by", .glo "left_by", .glo "nexts_of", .glo "after_by", .glo "part_by", .glo "marks_of", .glo "marks_by", .glo "first_row_by", .glo "merged_by", .glo "beside", .glo "known_standings", .glo "plain_by", .glo "strange_by", .glo "is_integer", .glo "is_number", .glo "is_index", .glo "is_pair"]
def fa1 : List He.Fa := [.glo "are_indexes", .glo "is_by_form", .glo "machine_fault", .glo "is_machine", .glo "want", .glo "want_machine", .glo "is_place_by_form", .glo "guard_fault", .glo "want_many", .glo "is_guard", .glo "want_both", .glo "want_case", .glo "plain_letters", .glo "goal_by", .glo "states_behind", .glo "states_begun", .glo "failing_from", .glo "failing_by", .glo "may_by", .glo "least_by"]
def fa2 : List He.Fa := [.glo "is_alike_to", .glo "is_plain", .glo "led_from", .glo "least_parts", .glo "numbered_from", .glo "core_by", .glo "cores_by", .glo "settled_by", .glo "settled_after", .glo "shares_cores", .glo "row_fault", .glo "plain_fault", .glo "lets_plain", .glo "least_beats", .glo "_law_feed", .glo "_law_pick", .glo "_law_names", .glo "_law_drawn", .glo "_law_tailed", .glo "_law_called"]
def fa3 : List He.Fa := [.glo "_law_joined", .glo "_law_pair", .glo "_law_labels", .glo "_law_good", .glo "_law_plain", .glo "_law_same", .glo "_law_heard", .glo "_law_ten", .glo "_law_written", .glo "_law_comes", .glo "_law_rows", .glo "_law_is_let", .glo "_law_is_fine", .glo "law", .free "tuple", .free "sorted", .free "set", .free "range", .free "len", .free "min"]
def fa4 : List He.Fa := [.free "all", .free "any", .free "isinstance", .free "int", .free "str", .free "bool", .free "list", .free "enumerate", .str "PLAIN" "plain", .str "CORE" "core"]
def fa : List He.Fa := fa0 ++ fa1 ++ fa2 ++ fa3 ++ fa4
def loose0 : List Str := ["__name__", "as_set", "all_standings", "led_by", "nexts_by", "left_by", "nexts_of", "after_by", "part_by", "marks_of", "marks_by", "first_row_by", "merged_by", "beside", "known_standings", "plain_by", "strange_by", "WakeError", "PaperError", "MachineError"]
def loose1 : List Str := ["InvalidPaper", "NotUsable", "is_integer", "is_number", "is_index", "is_pair", "are_indexes", "is_by_form", "machine_fault", "is_machine", "want", "want_machine", "is_place_by_form", "guard_fault", "want_many", "is_guard", "want_both", "want_case", "plain_letters", "goal_by"]
def loose2 : List Str := ["states_behind", "states_begun", "failing_from", "failing_by", "may_by", "least_by", "is_alike_to", "is_plain", "led_from", "least_parts", "numbered_from", "core_by", "cores_by", "settled_by", "settled_after", "shares_cores", "PLAIN", "CORE", "row_fault", "plain_fault"]
def loose3 : List Str := ["lets_plain", "least_beats", "_law_feed", "_law_pick", "_law_names", "_law_drawn", "_law_tailed", "_law_called", "_law_joined", "_law_pair", "_law_labels", "_law_good", "_law_plain", "_law_same", "_law_heard", "_law_ten", "_law_written", "_law_comes", "_law_rows", "_law_is_let"]
def loose4 : List Str := ["_law_is_fine"]
def loose : List Str := loose0 ++ loose1 ++ loose2 ++ loose3 ++ loose4
/-- the two defs that make functions -/
def dPlain : He.Defn := ("plain_by", none)
def dLet : He.Defn := ("_law_is_let", none)
def exB (K : PySem.W.Frag) : Bool := !decide ((He.cT K dPlain).2 = (He.cT K dLet).2)
abbrev tfs : List He.Defn := [dPlain, dLet]
abbrev rowL : PySem.W.OpenRow := PySem.W.OpenLaw.row PySem.Challenge.rw_wokeas_k97_whole_plain_rows_by_walk
abbrev hookL : PySem.W.Hook := He.hookX 4 fa fn [] tfs exB
def obL (s : PySem.W.SharedT) : He.AlX := He.obsX 4 fa fn [] tfs exB (HandSHeadRun.getT s)
theorem obL_eq (s : PySem.W.SharedT) : obL s = hookL.obs s.abs := He.obsX_eq (HandSHeadRun.getT_eq s)
theorem headRun (w : World) : HandSHeadRun.RunEq rowL (PySem.W.view rowL.prog [97]) hookL obL 20000 loose w := by
  intro os
  kernel_rfl
/-- what is left: the law's promise at the head's heap -/
def Left : Prop := ∀ (w : World) (K : PySem.W.Frag) (h : Heap) (mg : Str → Option Value) (f : Addr), K.In h → h.Ns mainGlobals mg → mg ("law" : Str) = some (.ref f) → He.SaysX fa fn [] tfs exB w h K →
  LamX.LawAtS PySem.Challenge.rw_wokeas_k97_whole_plain_rows_by_walk w K CX0 14 63 "_law_script" mg f h
end W97
open PySem PySem.W PySem.Calls PyProof.Rows in
theorem W97.holds_of (left : W97.Left) : PySem.Challenge.rw_wokeas_k97_whole_plain_rows_by_walk.Holds := by
  w_on; o_law
  refine HandSHeadRun.head_any (r := OpenLaw.row PySem.Challenge.rw_wokeas_k97_whole_plain_rows_by_walk) (q := view (OpenLaw.row PySem.Challenge.rw_wokeas_k97_whole_plain_rows_by_walk).prog [97]) (H := W97.hookL) (ob := W97.obL) (M := 20000) (loose := W97.loose) (d := HandSHeadRun.topDef (OpenLaw.row PySem.Challenge.rw_wokeas_k97_whole_plain_rows_by_walk).prog 97) (kwd := []) W97.obL_eq
    (by kernel_rfl) (fun s => by kernel_rfl) W97.headRun (by kernel_rfl) (by kernel_rfl) (by kernel_rfl) (by rfl) (by first | assumption | decide +kernel) (by decide +kernel) ⟨rfl, rfl, rfl, rfl, rfl, by decide +kernel⟩ ?hw ?hc
  case hw => w_witness2
  case hc =>
    refine LamX.walk_ofTsE (l := PySem.Challenge.rw_wokeas_k97_whole_plain_rows_by_walk) (n := 63) (k := 14) (x := "_law_script") (CX := fun _ => L2.CX0) rfl (by decide) (by kernel_rfl) ⟨rfl, by decide, by decide⟩ ?F (fun _ _ _ _ _ z => z)
    intro w mg fa h Y G hmg0
    obtain ⟨K, KX, c⟩ := Y
    have hmg : mg ("law" : PySem.Str) = some (.ref fa) := by
      have e : (HandSHeadRun.topDef (OpenLaw.row PySem.Challenge.rw_wokeas_k97_whole_plain_rows_by_walk).prog 97).name = ("law" : PySem.Str) := by kernel_rfl
      rw [← e]
      exact hmg0
    exact ⟨K, KX, left w K h mg fa KX G hmg c⟩
end
section
set_option autoImplicit false
/-! Plain mathematics, part A: sorted sets of numbers, first-occurrence numbering, machines. No program in sight. -/
namespace W97

/-! ### lists -/
theorem snoc_ind {α : Type} {P : List α → Prop} (h0 : P []) (hs : ∀ l x, P l → P (l ++ [x])) : ∀ l, P l := by
  have key : ∀ r : List α, P r.reverse := by
    intro r
    induction r with
    | nil => exact h0
    | cons x r ih => rw [List.reverse_cons]; exact hs _ _ ih
  intro l
  have h := key l.reverse
  rwa [List.reverse_reverse] at h

theorem nodup_len {α : Type} [DecidableEq α] : ∀ {l l' : List α}, l.Nodup → (∀ x ∈ l, x ∈ l') → l.length ≤ l'.length
  | [], _, _, _ => Nat.zero_le _
  | x :: r, l', hn, hs => by
    have hx : x ∈ l' := hs x List.mem_cons_self
    rw [List.nodup_cons] at hn
    have ih := nodup_len (l := r) (l' := l'.erase x) hn.2 (fun y hy => by
      have hne : y ≠ x := fun e => hn.1 (e ▸ hy)
      exact (List.mem_erase_of_ne hne).mpr (hs y (List.mem_cons_of_mem _ hy)))
    rw [List.length_erase_of_mem hx] at ih
    have hp : 0 < l'.length := List.length_pos_of_mem hx
    rw [List.length_cons]
    omega

abbrev Up (l : List Nat) : Prop := l.Pairwise (· < ·)

theorem up_ext : ∀ {l l' : List Nat}, Up l → Up l' → (∀ x, x ∈ l ↔ x ∈ l') → l = l'
  | [], [], _, _, _ => rfl
  | [], y :: _, _, _, h => by have := (h y).mpr List.mem_cons_self; cases this
  | x :: _, [], _, _, h => by have := (h x).mp List.mem_cons_self; cases this
  | x :: r, y :: r', h1, h2, h => by
    rw [Up, List.pairwise_cons] at h1 h2
    have exy : x = y := by
      have a := (h x).mp List.mem_cons_self
      have b := (h y).mpr List.mem_cons_self
      rcases List.mem_cons.mp a with a | a
      · exact a
      · rcases List.mem_cons.mp b with b | b
        · exact b.symm
        · have c1 := h2.1 x a
          have c2 := h1.1 y b
          omega
    subst exy
    have ih := up_ext (l := r) (l' := r') h1.2 h2.2 (fun z => by
      constructor
      · intro hz
        rcases List.mem_cons.mp ((h z).mp (List.mem_cons_of_mem _ hz)) with e | e
        · have := h1.1 z hz; omega
        · exact e
      · intro hz
        rcases List.mem_cons.mp ((h z).mpr (List.mem_cons_of_mem _ hz)) with e | e
        · have := h2.1 z hz; omega
        · exact e)
    rw [ih]

def insN (x : Nat) : List Nat → List Nat
  | [] => [x]
  | y :: ys => if x < y then x :: y :: ys else if x = y then y :: ys else y :: insN x ys
def asSet (l : List Nat) : List Nat := l.foldr insN []

theorem mem_insN {x z : Nat} : ∀ {l : List Nat}, z ∈ insN x l ↔ z = x ∨ z ∈ l
  | [] => by simp [insN]
  | y :: ys => by
    unfold insN
    split
    · simp
    · split
      · rename_i h; subst h; simp
      · rw [List.mem_cons, mem_insN (l := ys), List.mem_cons]
        constructor
        · rintro (h | h | h)
          · exact .inr (.inl h)
          · exact .inl h
          · exact .inr (.inr h)
        · rintro (h | h | h)
          · exact .inr (.inl h)
          · exact .inl h
          · exact .inr (.inr h)
theorem up_insN {x : Nat} : ∀ {l : List Nat}, Up l → Up (insN x l)
  | [], _ => by simp [insN, Up]
  | y :: ys, h => by
    unfold insN
    rw [Up, List.pairwise_cons] at h
    split
    · rename_i hxy
      rw [Up, List.pairwise_cons, List.pairwise_cons]
      refine ⟨fun z hz => ?_, h⟩
      rcases List.mem_cons.mp hz with e | e
      · omega
      · have := h.1 z e; omega
    · split
      · rw [Up, List.pairwise_cons]; exact h
      · rename_i h1 h2
        rw [Up, List.pairwise_cons]
        refine ⟨fun z hz => ?_, up_insN h.2⟩
        rcases mem_insN.mp hz with e | e
        · omega
        · exact h.1 z e
theorem mem_asSet {z : Nat} : ∀ {l : List Nat}, z ∈ asSet l ↔ z ∈ l
  | [] => Iff.rfl
  | x :: r => by
    show z ∈ insN x (asSet r) ↔ _
    rw [mem_insN, mem_asSet, List.mem_cons]
theorem up_asSet : ∀ l : List Nat, Up (asSet l)
  | [] => List.Pairwise.nil
  | x :: r => up_insN (up_asSet r)
theorem asSet_eq {l l' : List Nat} (h : Up l') (e : ∀ x, x ∈ l' ↔ x ∈ l) : l' = asSet l :=
  up_ext h (up_asSet l) fun x => by rw [e, mem_asSet]
theorem up_range (n : Nat) : Up (List.range n) := List.pairwise_lt_range
theorem up_nodup {l : List Nat} (h : Up l) : l.Nodup := h.imp (fun h => Nat.ne_of_lt h)

/-- all sets of numbers below n -/
def subs : Nat → List (List Nat)
  | 0 => [[]]
  | n + 1 => subs n ++ (subs n).map (· ++ [n])
theorem subs_len : ∀ n, (subs n).length = 2 ^ n
  | 0 => rfl
  | n + 1 => by
    unfold subs
    rw [List.length_append, List.length_map, subs_len n]
    omega
theorem mem_subs : ∀ {n : Nat} {l : List Nat}, Up l → (∀ x ∈ l, x < n) → l ∈ subs n
  | 0, l, _, h => by
    have : l = [] := List.eq_nil_iff_forall_not_mem.mpr fun x hx => absurd (h x hx) (Nat.not_lt_zero _)
    subst this; simp [subs]
  | n + 1, l, hu, h => by
    unfold subs
    rw [List.mem_append]
    by_cases hn : n ∈ l
    · refine .inr (List.mem_map.mpr ⟨l.filter (fun x => decide (x < n)), mem_subs (hu.filter _) (fun x hx => ?_), ?_⟩)
      · have := (List.mem_filter.mp hx).2; simpa using this
      · refine up_ext ?_ hu (fun x => ?_)
        · rw [Up, List.pairwise_append]
          refine ⟨hu.filter _, List.pairwise_singleton _ _, fun a ha b hb => ?_⟩
          have := (List.mem_filter.mp ha).2
          have e : b = n := by simpa using hb
          subst e; simpa using this
        · rw [List.mem_append, List.mem_filter, List.mem_singleton]
          constructor
          · rintro (⟨a, _⟩ | a)
            · exact a
            · subst a; exact hn
          · intro hx
            have := h x hx
            by_cases e : x = n
            · exact .inr e
            · exact .inl ⟨hx, by simp; omega⟩
    · refine .inl (mem_subs hu fun x hx => ?_)
      have := h x hx
      have : x ≠ n := fun e => hn (e ▸ hx)
      omega

/-! ### numbering by first places -/
section
variable {κ κ' : Type} [DecidableEq κ] [DecidableEq κ']
def putK (acc : List κ) (k : κ) : List κ := if k ∈ acc then acc else acc ++ [k]
def firsts (l : List κ) : List κ := l.foldl putK []
def marksOf (l : List κ) : List Nat := l.map fun k => (firsts l).idxOf k
theorem firsts_snoc (l : List κ) (k : κ) : firsts (l ++ [k]) = putK (firsts l) k := by
  unfold firsts; rw [List.foldl_append]; rfl
theorem mem_putK {acc : List κ} {k z : κ} : z ∈ putK acc k ↔ z ∈ acc ∨ z = k := by
  unfold putK
  split
  · constructor
    · exact .inl
    · rintro (h | h)
      · exact h
      · subst h; assumption
  · rw [List.mem_append, List.mem_singleton]
theorem mem_firsts {z : κ} : ∀ {l : List κ}, z ∈ firsts l ↔ z ∈ l := by
  intro l
  induction l using snoc_ind with
  | h0 => exact Iff.rfl
  | hs l x ih => rw [firsts_snoc, mem_putK, ih, List.mem_append, List.mem_singleton]
theorem nodup_firsts : ∀ l : List κ, (firsts l).Nodup := by
  intro l
  induction l using snoc_ind with
  | h0 => exact List.nodup_nil
  | hs l x ih =>
    rw [firsts_snoc]
    unfold putK
    split
    · exact ih
    · rename_i h
      rw [List.nodup_append]
      refine ⟨ih, by simp, fun a ha b hb => ?_⟩
      have : b = x := by simpa using hb
      subst this
      exact fun e => h (e ▸ ha)
theorem marksOf_len (l : List κ) : (marksOf l).length = l.length := by unfold marksOf; rw [List.length_map]
theorem idxOf_append_mem {a b : List κ} {k : κ} (h : k ∈ a) : (a ++ b).idxOf k = a.idxOf k := by
  rw [List.idxOf_append, if_pos h]
theorem idx_putK {acc : List κ} {k z : κ} (h : z ∈ acc) : (putK acc k).idxOf z = acc.idxOf z := by
  unfold putK
  split
  · rfl
  · exact idxOf_append_mem h
theorem marksOf_snoc (l : List κ) (k : κ) : marksOf (l ++ [k]) = marksOf l ++ [(putK (firsts l) k).idxOf k] := by
  unfold marksOf
  rw [firsts_snoc, List.map_append]
  congr 1
  refine List.map_congr_left fun z hz => ?_
  exact idx_putK (mem_firsts.mpr hz)
theorem idx_inj {l : List κ} {a b : κ} (ha : a ∈ l) (hb : b ∈ l) (e : l.idxOf a = l.idxOf b) : a = b := by
  have h1 := List.getElem_idxOf (List.idxOf_lt_length_of_mem ha)
  have h2 := List.getElem_idxOf (List.idxOf_lt_length_of_mem hb)
  rw [← h1, ← h2]
  congr 1
theorem putK_same {acc : List κ} {k : κ} (h : k ∈ acc) : putK acc k = acc := by unfold putK; rw [if_pos h]
theorem putK_new {acc : List κ} {k : κ} (h : k ∉ acc) : putK acc k = acc ++ [k] := by unfold putK; rw [if_neg h]
theorem idx_new {acc : List κ} {k : κ} (h : k ∉ acc) : (putK acc k).idxOf k = acc.length := by
  rw [putK_new h, List.idxOf_append, if_neg h]
  simp

/-- the same kernel, the same numbers -/
theorem marks_same (L : List (κ × κ')) : (∀ p ∈ L, ∀ q ∈ L, p.1 = q.1 ↔ p.2 = q.2) →
    marksOf (L.map (·.1)) = marksOf (L.map (·.2)) ∧ (firsts (L.map (·.1))).length = (firsts (L.map (·.2))).length ∧
      ∀ q ∈ L, (firsts (L.map (·.1))).idxOf q.1 = (firsts (L.map (·.2))).idxOf q.2 := by
  induction L using snoc_ind with
  | h0 => exact fun _ => ⟨rfl, rfl, fun q hq => nomatch hq⟩
  | hs L p ih =>
    intro hk
    obtain ⟨i1, i2, i3⟩ := ih fun a ha b hb => hk a (List.mem_append_left _ ha) b (List.mem_append_left _ hb)
    have hp : p ∈ L ++ [p] := by simp
    rw [List.map_append, List.map_append]
    simp only [List.map_cons, List.map_nil]
    have split : (p.1 ∈ firsts (L.map (·.1)) ∧ p.2 ∈ firsts (L.map (·.2)) ∧ (firsts (L.map (·.1))).idxOf p.1 = (firsts (L.map (·.2))).idxOf p.2) ∨ (p.1 ∉ firsts (L.map (·.1)) ∧ p.2 ∉ firsts (L.map (·.2))) := by
      by_cases h : p.1 ∈ firsts (L.map (·.1))
      · left
        obtain ⟨q, hq, e⟩ := List.mem_map.mp (mem_firsts.mp h)
        have e2 : q.2 = p.2 := (hk q (List.mem_append_left _ hq) p hp).mp e
        refine ⟨h, mem_firsts.mpr (List.mem_map.mpr ⟨q, hq, e2⟩), ?_⟩
        rw [← e, ← e2]; exact i3 q hq
      · right
        refine ⟨h, fun h2 => h ?_⟩
        obtain ⟨q, hq, e⟩ := List.mem_map.mp (mem_firsts.mp h2)
        have e2 : q.1 = p.1 := (hk q (List.mem_append_left _ hq) p hp).mpr e
        exact mem_firsts.mpr (List.mem_map.mpr ⟨q, hq, e2⟩)
    have hidx : (putK (firsts (L.map (·.1))) p.1).idxOf p.1 = (putK (firsts (L.map (·.2))) p.2).idxOf p.2 := by
      rcases split with ⟨a, b, c⟩ | ⟨a, b⟩
      · rw [putK_same a, putK_same b, c]
      · rw [idx_new a, idx_new b, i2]
    refine ⟨by rw [marksOf_snoc, marksOf_snoc, i1, hidx], ?_, fun q hq => ?_⟩
    · rw [firsts_snoc, firsts_snoc]
      rcases split with ⟨a, b, _⟩ | ⟨a, b⟩
      · rw [putK_same a, putK_same b, i2]
      · rw [putK_new a, putK_new b, List.length_append, List.length_append, i2]; rfl
    · rw [firsts_snoc, firsts_snoc]
      rcases List.mem_append.mp hq with h | h
      · rw [idx_putK (mem_firsts.mpr (List.mem_map.mpr ⟨q, h, rfl⟩)), idx_putK (mem_firsts.mpr (List.mem_map.mpr ⟨q, h, rfl⟩))]
        exact i3 q h
      · have e : q = p := by simpa using h
        subst e; exact hidx

def cnt (l : List κ) : Nat := (firsts l).length
theorem cnt_snoc (l : List κ) (k : κ) : cnt (l ++ [k]) = if k ∈ l then cnt l else cnt l + 1 := by
  unfold cnt
  rw [firsts_snoc]
  by_cases h : k ∈ l
  · rw [if_pos h, putK_same (mem_firsts.mpr h)]
  · rw [if_neg h, putK_new (fun z => h (mem_firsts.mp z)), List.length_append]; rfl
theorem cnt_le (l : List κ) : cnt l ≤ l.length := nodup_len (nodup_firsts l) fun _ h => mem_firsts.mp h
/-- a refinement has no fewer classes, and as many only if it is the same -/
theorem cnt_fine (L : List (κ × κ')) : (∀ p ∈ L, ∀ q ∈ L, p.1 = q.1 → p.2 = q.2) →
    cnt (L.map (·.2)) ≤ cnt (L.map (·.1)) ∧ (cnt (L.map (·.2)) = cnt (L.map (·.1)) → ∀ p ∈ L, ∀ q ∈ L, p.2 = q.2 → p.1 = q.1) := by
  induction L using snoc_ind with
  | h0 => exact fun _ => ⟨Nat.le_refl _, fun _ p hp => nomatch hp⟩
  | hs L p ih =>
    intro hk
    obtain ⟨i1, i2⟩ := ih fun a ha b hb => hk a (List.mem_append_left _ ha) b (List.mem_append_left _ hb)
    have hp : p ∈ L ++ [p] := by simp
    rw [List.map_append, List.map_append]
    simp only [List.map_cons, List.map_nil]
    rw [cnt_snoc, cnt_snoc]
    have ab : p.1 ∈ L.map (·.1) → p.2 ∈ L.map (·.2) := fun h => by
      obtain ⟨q, hq, e⟩ := List.mem_map.mp h
      exact List.mem_map.mpr ⟨q, hq, hk q (List.mem_append_left _ hq) p hp e⟩
    refine ⟨?_, fun he => ?_⟩
    · by_cases h : p.1 ∈ L.map (·.1)
      · rw [if_pos h, if_pos (ab h)]; exact i1
      · rw [if_neg h]; split <;> omega
    · have ba : p.2 ∈ L.map (·.2) → p.1 ∈ L.map (·.1) ∧ cnt (L.map (·.2)) = cnt (L.map (·.1)) := fun h => by
        rw [if_pos h] at he
        by_cases h1 : p.1 ∈ L.map (·.1)
        · rw [if_pos h1] at he; exact ⟨h1, he⟩
        · rw [if_neg h1] at he; omega
      have ce : cnt (L.map (·.2)) = cnt (L.map (·.1)) := by
        by_cases h : p.2 ∈ L.map (·.2)
        · exact (ba h).2
        · have h1 : p.1 ∉ L.map (·.1) := fun z => h (ab z)
          rw [if_neg h, if_neg h1] at he; omega
      have old := i2 ce
      have toP : ∀ q ∈ L, q.2 = p.2 → q.1 = p.1 := fun q hq e => by
        obtain ⟨h1, _⟩ := ba (List.mem_map.mpr ⟨q, hq, e⟩)
        obtain ⟨r, hr, er⟩ := List.mem_map.mp h1
        have e2 : r.2 = p.2 := hk r (List.mem_append_left _ hr) p hp er
        rw [← er]
        exact old q hq r hr (e.trans e2.symm)
      intro a ha b hb e
      rcases List.mem_append.mp ha with ha | ha
      · rcases List.mem_append.mp hb with hb | hb
        · exact old a ha b hb e
        · have eb : b = p := by simpa using hb
          rw [eb] at e ⊢
          exact toP a ha e
      · have ea : a = p := by simpa using ha
        rw [ea] at e ⊢
        rcases List.mem_append.mp hb with hb | hb
        · exact (toP b hb e.symm).symm
        · have eb : b = p := by simpa using hb
          rw [eb]
end
end W97
end
section
set_option autoImplicit false
/-! Plain mathematics, part B: machines, rows, likeness, its numbering by refinement. -/
namespace W97

abbrev Mc := List (List (Nat × Nat))
abbrev Row := List Nat
def st (m : Mc) (s : Nat) : List (Nat × Nat) := m.getD s []
def cell (m : Mc) (s x : Nat) : Nat × Nat := (st m s).getD x (0, 0)
def nx (m : Mc) (s x : Nat) : Nat := (cell m s x).1
def an (m : Mc) (s x : Nat) : Nat := (cell m s x).2
/-- a machine with w letters -/
structure Ok (m : Mc) (w : Nat) : Prop where
  ne : 0 < m.length
  wp : 0 < w
  wide : ∀ r ∈ m, r.length = w
  lt : ∀ r ∈ m, ∀ p ∈ r, p.1 < m.length
def Let (w : Nat) (r : Row) : Prop := ∀ x ∈ r, x < w
def run (m : Mc) : Nat → Row → Nat
  | s, [] => s
  | s, x :: r => run m (nx m s x) r
def outs (m : Mc) : Nat → Row → Row
  | _, [] => []
  | s, x :: r => an m s x :: outs m (nx m s x) r

theorem st_mem {m : Mc} {s : Nat} (h : s < m.length) : st m s ∈ m := by
  unfold st
  rw [List.getD_eq_getElem?_getD, List.getElem?_eq_getElem h]
  exact List.getElem_mem h
section
variable {m : Mc} {w s x : Nat}
theorem Ok.wst (k : Ok m w) (hs : s < m.length) : (st m s).length = w := k.wide _ (st_mem hs)
theorem cell_mem (hx : x < (st m s).length) : cell m s x ∈ st m s := by
  unfold cell
  rw [List.getD_eq_getElem?_getD, List.getElem?_eq_getElem hx]
  exact List.getElem_mem hx
theorem Ok.nxlt (k : Ok m w) (hs : s < m.length) (hx : x < w) : nx m s x < m.length :=
  k.lt _ (st_mem hs) _ (cell_mem (by rw [k.wst hs]; exact hx))
theorem Let.nil : Let w [] := fun _ h => nomatch h
theorem Let.cons {r : Row} (hx : x < w) (h : Let w r) : Let w (x :: r) := fun y hy => by
  rcases List.mem_cons.mp hy with e | e
  · exact e ▸ hx
  · exact h y e
theorem Let.head {r : Row} (h : Let w (x :: r)) : x < w := h x List.mem_cons_self
theorem Let.tail {r : Row} (h : Let w (x :: r)) : Let w r := fun y hy => h y (List.mem_cons_of_mem _ hy)
theorem Let.app {r r' : Row} (h : Let w r) (h' : Let w r') : Let w (r ++ r') := fun y hy => (List.mem_append.mp hy).elim (h y) (h' y)
theorem Let.left {r r' : Row} (h : Let w (r ++ r')) : Let w r := fun y hy => h y (List.mem_append_left _ hy)
theorem Let.right {r r' : Row} (h : Let w (r ++ r')) : Let w r' := fun y hy => h y (List.mem_append_right _ hy)
theorem Ok.runlt (k : Ok m w) : ∀ {r : Row} {s : Nat}, s < m.length → Let w r → run m s r < m.length
  | [], _, hs, _ => hs
  | x :: r, s, hs, hr => by
    show run m (nx m s x) r < m.length
    exact k.runlt (k.nxlt hs hr.head) hr.tail
theorem run_app (m : Mc) : ∀ (r r' : Row) (s : Nat), run m s (r ++ r') = run m (run m s r) r'
  | [], _, _ => rfl
  | x :: r, r', s => run_app m r r' (nx m s x)
theorem outs_app (m : Mc) : ∀ (r r' : Row) (s : Nat), outs m s (r ++ r') = outs m s r ++ outs m (run m s r) r'
  | [], _, _ => rfl
  | x :: r, r', s => by
    show an m s x :: outs m (nx m s x) (r ++ r') = an m s x :: (outs m (nx m s x) r ++ outs m (run m (nx m s x) r) r')
    rw [outs_app m r r' (nx m s x)]
theorem outs_len (m : Mc) : ∀ (r : Row) (s : Nat), (outs m s r).length = r.length
  | [], _ => rfl
  | x :: r, s => congrArg Nat.succ (outs_len m r (nx m s x))
end

/-- alike: the same answers to each row -/
def Alike (w : Nat) (m : Mc) (s : Nat) (m' : Mc) (s' : Nat) : Prop := ∀ r, Let w r → outs m s r = outs m' s' r
section
variable {m m' m'' : Mc} {w s s' s'' x : Nat}
theorem Alike.refl : Alike w m s m s := fun _ _ => rfl
theorem Alike.symm (h : Alike w m s m' s') : Alike w m' s' m s := fun r hr => (h r hr).symm
theorem Alike.trans (h : Alike w m s m' s') (h' : Alike w m' s' m'' s'') : Alike w m s m'' s'' := fun r hr => (h r hr).trans (h' r hr)
theorem Alike.an (h : Alike w m s m' s') (hx : x < w) : an m s x = an m' s' x := by
  have := h [x] (Let.nil.cons hx)
  simpa [outs] using this
theorem Alike.run (h : Alike w m s m' s') {r : Row} (hr : Let w r) : Alike w m (run m s r) m' (run m' s' r) := fun q hq => by
  have a := h (r ++ q) (hr.app hq)
  rw [outs_app, outs_app] at a
  exact (List.append_inj a (by rw [outs_len, outs_len])).2
theorem Alike.nx (h : Alike w m s m' s') (hx : x < w) : Alike w m (nx m s x) m' (nx m' s' x) := h.run (r := [x]) (Let.nil.cons hx)
end

/-- alike on rows of t letters -/
def E (w : Nat) (m : Mc) (t : Nat) (s s' : Nat) : Prop := ∀ r, r.length = t → Let w r → outs m s r = outs m s' r
section
variable {m : Mc} {w s s' : Nat}
theorem E.succ_iff (hw : 0 < w) {t : Nat} : E w m (t + 1) s s' ↔ E w m t s s' ∧ ∀ x, x < w → an m s x = an m s' x ∧ E w m t (nx m s x) (nx m s' x) := by
  constructor
  · intro h
    refine ⟨fun r hl hr => ?_, fun x hx => ⟨?_, fun r hl hr => ?_⟩⟩
    · have a := h (r ++ [0]) (by rw [List.length_append, hl]; rfl) (hr.app (Let.nil.cons hw))
      rw [outs_app, outs_app] at a
      exact (List.append_inj a (by rw [outs_len, outs_len])).1
    · have a := h (x :: List.replicate t 0) (by simp) (Let.cons hx fun y hy => by rw [List.eq_of_mem_replicate hy]; exact hw)
      exact (List.cons.inj a).1
    · exact (List.cons.inj (h (x :: r) (by rw [List.length_cons, hl]) (hr.cons hx))).2
  · rintro ⟨_, h⟩ r hl hr
    match r, hl, hr with
    | x :: r, hl, hr =>
      obtain ⟨a, b⟩ := h x hr.head
      show an m s x :: outs m (nx m s x) r = an m s' x :: outs m (nx m s' x) r
      rw [a, b r (by simpa using hl) hr.tail]
theorem E.zero : E w m 0 s s' := fun r hl _ => by
  have : r = [] := List.length_eq_zero_iff.mp hl
  subst this; rfl
end

def keys0 (m : Mc) : List (List Nat) := m.map fun r => r.map (·.2)
def keysS (m : Mc) (k : List Nat) : List (Nat × List Nat) := (List.range m.length).map fun s => (k.getD s 0, (st m s).map fun p => k.getD p.1 0)
def keysL (m : Mc) (k : List Nat) : List (Nat × List (Nat × Nat)) := (List.range m.length).map fun s => (k.getD s 0, (st m s).map fun p => (k.getD p.1 0, p.2))
def labels (m : Mc) : Nat → List Nat
  | 0 => m.map fun _ => 0
  | t + 1 => marksOf (keysL m (labels m t))
def marks (m : Mc) : Nat → List Nat
  | 0 => marksOf (keys0 m)
  | t + 1 => marksOf (keysS m (marks m t))
/-- the numbers of the classes -/
def cls (m : Mc) : List Nat := labels m (m.length + 1)
def cl (m : Mc) (s : Nat) : Nat := (cls m).getD s 0

theorem labels_len (m : Mc) : ∀ t, (labels m t).length = m.length
  | 0 => by simp [labels]
  | t + 1 => by simp [labels, marksOf_len, keysL]
theorem marks_len (m : Mc) : ∀ t, (marks m t).length = m.length
  | 0 => by simp [marks, marksOf_len, keys0]
  | t + 1 => by simp [marks, marksOf_len, keysS]
theorem getD_map_range {α : Type} {f : Nat → α} {n s : Nat} {d : α} (h : s < n) : ((List.range n).map f).getD s d = f s := by
  simp [List.getD_eq_getElem?_getD, h]
theorem marksOf_at {κ : Type} [DecidableEq κ] {l : List κ} {s s' : Nat} {d : κ} (h : s < l.length) (h' : s' < l.length) : (marksOf l).getD s 0 = (marksOf l).getD s' 0 ↔ l.getD s d = l.getD s' d := by
  have e1 : (marksOf l).getD s 0 = (firsts l).idxOf l[s] := by simp [marksOf, List.getD_eq_getElem?_getD, h]
  have e2 : (marksOf l).getD s' 0 = (firsts l).idxOf l[s'] := by simp [marksOf, List.getD_eq_getElem?_getD, h']
  have e3 : l.getD s d = l[s] := by simp [List.getD_eq_getElem?_getD, h]
  have e4 : l.getD s' d = l[s'] := by simp [List.getD_eq_getElem?_getD, h']
  rw [e1, e2, e3, e4]
  exact ⟨idx_inj (mem_firsts.mpr (List.getElem_mem h)) (mem_firsts.mpr (List.getElem_mem h')), fun e => by rw [e]⟩
theorem map_st_eq {m : Mc} {w s s' : Nat} {β : Type} (k : Ok m w) (hs : s < m.length) (hs' : s' < m.length) (f : Nat × Nat → β) :
    (st m s).map f = (st m s').map f ↔ ∀ x, x < w → f (cell m s x) = f (cell m s' x) := by
  have l1 := k.wst hs
  have l2 := k.wst hs'
  have c1 : ∀ x (hx : x < (st m s).length), cell m s x = (st m s)[x] := fun x hx => by simp [cell, List.getD_eq_getElem?_getD, hx]
  have c2 : ∀ x (hx : x < (st m s').length), cell m s' x = (st m s')[x] := fun x hx => by simp [cell, List.getD_eq_getElem?_getD, hx]
  constructor
  · intro h x hx
    have a := congrArg (fun l => l[x]?) h
    simp only [List.getElem?_map] at a
    rw [List.getElem?_eq_getElem (by omega), List.getElem?_eq_getElem (by omega)] at a
    rw [c1 x (by omega), c2 x (by omega)]
    exact Option.some.inj a
  · intro h
    refine List.ext_getElem (by simp [l1, l2]) fun i h1 h2 => ?_
    rw [List.length_map] at h1 h2
    rw [List.getElem_map, List.getElem_map, ← c1 i h1, ← c2 i h2]
    exact h i (by omega)

section
variable {m : Mc} {w : Nat} (k : Ok m w)
include k
theorem lab_iff : ∀ t {s s' : Nat}, s < m.length → s' < m.length → ((labels m t).getD s 0 = (labels m t).getD s' 0 ↔ E w m t s s')
  | 0, s, s', hs, hs' => by
    refine ⟨fun _ => E.zero, fun _ => ?_⟩
    simp [labels, List.getD_eq_getElem?_getD, hs, hs']
  | t + 1, s, s', hs, hs' => by
    have ih := fun {a b : Nat} (ha : a < m.length) (hb : b < m.length) => lab_iff t ha hb
    rw [E.succ_iff k.wp]
    show (marksOf (keysL m (labels m t))).getD s 0 = (marksOf (keysL m (labels m t))).getD s' 0 ↔ _
    rw [marksOf_at (d := (0, [])) (by simpa [keysL] using hs) (by simpa [keysL] using hs')]
    unfold keysL
    rw [getD_map_range hs, getD_map_range hs', Prod.mk.injEq, ih hs hs', map_st_eq k hs hs']
    refine and_congr_right fun _ => forall_congr' fun x => imp_congr_right fun hx => ?_
    rw [Prod.mk.injEq]
    have := ih (k.nxlt hs hx) (k.nxlt hs' hx)
    exact ⟨fun ⟨a, b⟩ => ⟨b, this.mp a⟩, fun ⟨a, b⟩ => ⟨this.mpr b, a⟩⟩
theorem E_of_lt {t : Nat} {s s' : Nat} (h : E w m (t + 1) s s') : E w m t s s' := ((E.succ_iff k.wp).mp h).1
theorem E_down {s s' : Nat} : ∀ {t u : Nat}, u ≤ t → E w m t s s' → E w m u s s'
  | 0, u, hu, h => by have : u = 0 := by omega
                      subst this; exact h
  | t + 1, u, hu, h => by
    by_cases e : u = t + 1
    · subst e; exact h
    · exact E_down (by omega) (E_of_lt k h)
/-- the pairs of two numberings -/
def both (a b : List Nat) (n : Nat) : List (Nat × Nat) := (List.range n).map fun s => (a.getD s 0, b.getD s 0)
omit k in
theorem both_fst {a b : List Nat} {n : Nat} (h : a.length = n) : (both a b n).map (·.1) = a := by
  unfold both
  rw [List.map_map]
  refine List.ext_getElem (by simp [h]) fun i h1 h2 => ?_
  simp [List.getD_eq_getElem?_getD, h2]
omit k in
theorem both_snd {a b : List Nat} {n : Nat} (h : b.length = n) : (both a b n).map (·.2) = b := by
  unfold both
  rw [List.map_map]
  refine List.ext_getElem (by simp [h]) fun i h1 h2 => ?_
  simp [List.getD_eq_getElem?_getD, h2]
/-- some step before the size is stable -/
theorem stable_ex : ∃ t, t < m.length ∧ ∀ s s', s < m.length → s' < m.length → E w m t s s' → E w m (t + 1) s s' := by
  have step : ∀ t, cnt (labels m t) ≤ cnt (labels m (t + 1)) ∧ (cnt (labels m t) = cnt (labels m (t + 1)) → ∀ s s', s < m.length → s' < m.length → E w m t s s' → E w m (t + 1) s s') := fun t => by
    have f := cnt_fine (both (labels m (t + 1)) (labels m t) m.length) (fun p hp q hq e => by
      obtain ⟨s, hs, rfl⟩ := List.mem_map.mp hp
      obtain ⟨s', hs', rfl⟩ := List.mem_map.mp hq
      rw [List.mem_range] at hs hs'
      exact (lab_iff k t hs hs').mpr (E_of_lt k ((lab_iff k (t + 1) hs hs').mp e)))
    rw [both_fst (labels_len m _), both_snd (labels_len m _)] at f
    refine ⟨f.1, fun e s s' hs hs' h => ?_⟩
    refine (lab_iff k (t + 1) hs hs').mp (f.2 e _ (List.mem_map.mpr ⟨s, List.mem_range.mpr hs, rfl⟩) _ (List.mem_map.mpr ⟨s', List.mem_range.mpr hs', rfl⟩) ?_)
    exact (lab_iff k t hs hs').mpr h
  rcases Classical.em (∃ t, t < m.length ∧ cnt (labels m t) = cnt (labels m (t + 1))) with ⟨t, ht, e⟩ | hno
  · exact ⟨t, ht, (step t).2 e⟩
  · exfalso
    have grow : ∀ t, t ≤ m.length → t + 1 ≤ cnt (labels m t) := by
      intro t
      induction t with
      | zero =>
        intro _
        have hne := k.ne
        have : (labels m 0).getD 0 0 ∈ firsts (labels m 0) := mem_firsts.mpr (by
          rw [List.getD_eq_getElem?_getD, List.getElem?_eq_getElem (by rw [labels_len]; exact hne)]
          exact List.getElem_mem _)
        exact List.length_pos_of_mem this
      | succ t ih =>
        intro ht
        have a := ih (by omega)
        have b := (step t).1
        have c : cnt (labels m t) ≠ cnt (labels m (t + 1)) := fun e => hno ⟨t, by omega, e⟩
        omega
    have a := grow m.length (Nat.le_refl _)
    have b := cnt_le (labels m m.length)
    rw [labels_len] at b
    omega
omit k in
theorem stable_on {t : Nat} (hw : 0 < w) (hk : Ok m w) (h : ∀ s s', s < m.length → s' < m.length → E w m t s s' → E w m (t + 1) s s') : ∀ u, ∀ s s', s < m.length → s' < m.length → E w m t s s' → E w m (t + u) s s'
  | 0, _, _, _, _, e => e
  | u + 1, s, s', hs, hs', e => by
    have a := h s s' hs hs' e
    rw [E.succ_iff hw] at a
    show E w m ((t + u) + 1) s s'
    rw [E.succ_iff hw]
    exact ⟨stable_on hw hk h u s s' hs hs' e, fun x hx => ⟨(a.2 x hx).1, stable_on hw hk h u _ _ (hk.nxlt hs hx) (hk.nxlt hs' hx) (a.2 x hx).2⟩⟩
theorem stable_alike {t : Nat} (h : ∀ s s', s < m.length → s' < m.length → E w m t s s' → E w m (t + 1) s s') {s s' : Nat} (hs : s < m.length) (hs' : s' < m.length) : E w m t s s' ↔ Alike w m s m s' := by
  constructor
  · intro e r hr
    by_cases c : t ≤ r.length
    · have := stable_on k.wp k h (r.length - t) s s' hs hs' e
      rw [show t + (r.length - t) = r.length by omega] at this
      exact this r rfl hr
    · exact E_down k (u := r.length) (by omega) e r rfl hr
  · intro a r _ hr
    exact a r hr
theorem E_alike {u : Nat} (hu : m.length ≤ u) {s s' : Nat} (hs : s < m.length) (hs' : s' < m.length) : E w m u s s' ↔ Alike w m s m s' := by
  obtain ⟨t, ht, h⟩ := stable_ex k
  refine ⟨fun e => (stable_alike k h hs hs').mp (E_down k (by omega) e), fun a r _ hr => a r hr⟩
theorem cl_iff {s s' : Nat} (hs : s < m.length) (hs' : s' < m.length) : cl m s = cl m s' ↔ Alike w m s m s' := by
  unfold cl cls
  rw [lab_iff k _ hs hs', E_alike k (by omega) hs hs']
omit k in
theorem marks_by {κ κ' : Type} [DecidableEq κ] [DecidableEq κ'] {n : Nat} {f : Nat → κ} {g : Nat → κ'} (h : ∀ s s', s < n → s' < n → (f s = f s' ↔ g s = g s')) : marksOf ((List.range n).map f) = marksOf ((List.range n).map g) := by
  have e := (marks_same ((List.range n).map fun s => (f s, g s)) (fun p hp q hq => by
    obtain ⟨s, hs, rfl⟩ := List.mem_map.mp hp
    obtain ⟨s', hs', rfl⟩ := List.mem_map.mp hq
    exact h s s' (List.mem_range.mp hs) (List.mem_range.mp hs'))).1
  rw [List.map_map, List.map_map] at e
  exact e
omit k in
theorem keys0_eq : keys0 m = (List.range m.length).map fun s => (st m s).map (·.2) := by
  refine List.ext_getElem (by simp [keys0]) fun i h1 h2 => ?_
  rw [List.length_map, List.length_range] at h2
  simp [keys0, st, List.getD_eq_getElem?_getD, h2]
/-- the answers' marks are the labels one step on -/
theorem marks_labels : ∀ t, marks m t = labels m (t + 1)
  | 0 => by
    show marksOf (keys0 m) = marksOf (keysL m (labels m 0))
    rw [keys0_eq]
    refine marks_by fun s s' hs hs' => ?_
    have ez : ∀ a, (labels m 0).getD a 0 = 0 := fun a => by
      rw [List.getD_eq_getElem?_getD]
      show ((m.map fun _ => 0)[a]?).getD 0 = 0
      rw [List.getElem?_map]
      cases m[a]? <;> rfl
    rw [Prod.mk.injEq, map_st_eq k hs hs', map_st_eq k hs hs']
    simp only [ez, true_and, Prod.mk.injEq]
  | t + 1 => by
    show marksOf (keysS m (marks m t)) = marksOf (keysL m (labels m (t + 1)))
    rw [marks_labels t]
    refine marks_by fun s s' hs hs' => ?_
    rw [Prod.mk.injEq, Prod.mk.injEq, map_st_eq k hs hs', map_st_eq k hs hs']
    refine and_congr_right fun e0 => forall_congr' fun x => imp_congr_right fun hx => ?_
    rw [Prod.mk.injEq]
    have ea := ((E.succ_iff k.wp).mp ((lab_iff k (t + 1) hs hs').mp e0)).2 x hx
    exact ⟨fun z => ⟨z, ea.1⟩, fun z => z.1⟩
/-- two steps that tell the same apart number alike -/
theorem labels_same {t u : Nat} (h : ∀ s s', s < m.length → s' < m.length → (E w m (t + 1) s s' ↔ E w m (u + 1) s s')) : labels m (t + 1) = labels m (u + 1) := by
  refine marks_by fun s s' hs hs' => ?_
  have a := lab_iff k (t + 1) hs hs'
  have b := lab_iff k (u + 1) hs hs'
  have a' : (labels m (t + 1)).getD s 0 = (labels m (t + 1)).getD s' 0 ↔ _ := marksOf_at (l := keysL m (labels m t)) (d := (0, [])) (by simpa [keysL] using hs) (by simpa [keysL] using hs')
  have b' : (labels m (u + 1)).getD s 0 = (labels m (u + 1)).getD s' 0 ↔ _ := marksOf_at (l := keysL m (labels m u)) (d := (0, [])) (by simpa [keysL] using hs) (by simpa [keysL] using hs')
  unfold keysL at a' b'
  rw [getD_map_range hs, getD_map_range hs'] at a' b'
  rw [← a', ← b', a, b]
  exact h s s' hs hs'
omit k in
theorem least_nat {p : Nat → Prop} : ∀ n, p n → ∃ k, p k ∧ ∀ j, j < k → ¬ p j := by
  intro n
  induction n using Nat.strongRecOn with
  | ind n ih =>
    intro h
    rcases Classical.em (∃ j, j < n ∧ p j) with ⟨j, hj, hp⟩ | hno
    · exact ih j hj hp
    · exact ⟨n, h, fun j hj hp => hno ⟨j, hj, hp⟩⟩
/-- the refinement's first standstill gives the classes -/
theorem marks_fix : ∃ q, marks m (q + 1) = marks m q ∧ (∀ j, j < q → marks m (j + 1) ≠ marks m j) ∧ marks m q = cls m := by
  obtain ⟨t, _, ht⟩ := stable_ex k
  have st2 : ∀ s s', s < m.length → s' < m.length → (E w m (t + 1) s s' ↔ E w m (t + 2) s s') := fun s s' hs hs' =>
    ⟨fun e => stable_on k.wp k ht 2 s s' hs hs' (E_of_lt k e), fun e => E_of_lt k e⟩
  obtain ⟨q, hq, hl⟩ := least_nat (p := fun q => marks m (q + 1) = marks m q) t (by
    show marks m (t + 1) = marks m t
    rw [marks_labels k, marks_labels k]
    exact (labels_same k st2).symm)
  refine ⟨q, hq, hl, ?_⟩
  have hq' : marks m (q + 1) = marks m q := hq
  rw [marks_labels k, marks_labels k] at hq'
  have st3 : ∀ s s', s < m.length → s' < m.length → E w m (q + 1) s s' → E w m (q + 1 + 1) s s' := fun s s' hs hs' e => by
    rw [← lab_iff k _ hs hs'] at e ⊢
    rw [hq']; exact e
  rw [marks_labels k]
  exact labels_same k fun s s' hs hs' => by rw [stable_alike k st3 hs hs', E_alike k (by omega) hs hs']
end
end W97
end
section
set_option autoImplicit false
set_option linter.unusedSectionVars false
set_option linter.unusedVariables false
/-! Plain mathematics, part C: two machines beside one another, plain rows, the search for the first of the shortest ones. -/
namespace W97

def bes (one other : Mc) : Mc := one ++ other.map fun r => r.map fun p => (one.length + p.1, p.2)
def good (one other : Mc) : List Nat := (List.range one.length).filter fun s => decide ((cls (bes one other)).getD s 0 ∈ (cls (bes one other)).drop one.length)

section
variable {one other : Mc} {w s t x : Nat}
theorem bes_len : (bes one other).length = one.length + other.length := by simp [bes]
theorem cell_left (hs : s < one.length) : cell (bes one other) s x = cell one s x := by
  unfold cell st bes
  simp only [List.getD_eq_getElem?_getD, List.getElem?_append_left hs]
theorem cell_right (ht : t < other.length) : cell (bes one other) (one.length + t) x = if x < (st other t).length then (one.length + (cell other t x).1, (cell other t x).2) else (0, 0) := by
  unfold cell st bes
  simp only [List.getD_eq_getElem?_getD]
  rw [List.getElem?_append_right (by omega), show one.length + t - one.length = t by omega]
  simp only [List.getElem?_map, List.getElem?_eq_getElem ht, Option.map_some, Option.getD_some]
  split
  · rename_i h; rw [List.getElem?_eq_getElem h]; rfl
  · rename_i h; rw [List.getElem?_eq_none (by omega)]; rfl
theorem bes_ok (k : Ok one w) (k' : Ok other w) : Ok (bes one other) w := by
  refine ⟨?_, k.wp, fun r hr => ?_, fun r hr p hp => ?_⟩
  · rw [bes_len]; have := k.ne; omega
  · rcases List.mem_append.mp hr with h | h
    · exact k.wide r h
    · obtain ⟨q, hq, rfl⟩ := List.mem_map.mp h
      rw [List.length_map]; exact k'.wide q hq
  · rw [bes_len]
    rcases List.mem_append.mp hr with h | h
    · have := k.lt r h p hp; omega
    · obtain ⟨q, hq, rfl⟩ := List.mem_map.mp h
      obtain ⟨c, hc, rfl⟩ := List.mem_map.mp hp
      have := k'.lt q hq c hc
      show one.length + c.1 < _
      omega
theorem run_left (k : Ok one w) : ∀ {r : Row} {s : Nat}, s < one.length → Let w r → run (bes one other) s r = run one s r ∧ outs (bes one other) s r = outs one s r
  | [], _, _, _ => ⟨rfl, rfl⟩
  | x :: r, s, hs, hr => by
    have e : nx (bes one other) s x = nx one s x := by unfold nx; rw [cell_left hs]
    have e2 : an (bes one other) s x = an one s x := by unfold an; rw [cell_left hs]
    obtain ⟨a, b⟩ := run_left k (r := r) (k.nxlt hs hr.head) hr.tail
    refine ⟨?_, ?_⟩
    · show run (bes one other) (nx (bes one other) s x) r = _
      rw [e]; exact a
    · show an (bes one other) s x :: outs (bes one other) (nx (bes one other) s x) r = _
      rw [e, e2, b]; rfl
theorem run_right (k : Ok other w) : ∀ {r : Row} {t : Nat}, t < other.length → Let w r → outs (bes one other) (one.length + t) r = outs other t r
  | [], _, _, _ => rfl
  | x :: r, t, ht, hr => by
    have hx : x < (st other t).length := by rw [k.wst ht]; exact hr.head
    have e : nx (bes one other) (one.length + t) x = one.length + nx other t x := by unfold nx; rw [cell_right ht, if_pos hx]
    have e2 : an (bes one other) (one.length + t) x = an other t x := by unfold an; rw [cell_right ht, if_pos hx]
    show an (bes one other) _ x :: outs (bes one other) (nx (bes one other) _ x) r = _
    rw [e, e2, run_right k (k.nxlt ht hr.head) hr.tail]; rfl
theorem mem_good (k : Ok one w) (k' : Ok other w) : s ∈ good one other ↔ s < one.length ∧ ∃ t, t < other.length ∧ Alike w one s other t := by
  have kb := bes_ok k k'
  have hl : (cls (bes one other)).length = one.length + other.length := by unfold cls; rw [labels_len, bes_len]
  have link : ∀ {t : Nat}, s < one.length → t < other.length → (cl (bes one other) s = cl (bes one other) (one.length + t) ↔ Alike w one s other t) := fun {t} hs ht => by
    rw [cl_iff kb (by rw [bes_len]; omega) (by rw [bes_len]; omega)]
    refine forall_congr' fun r => imp_congr_right fun hr => ?_
    rw [(run_left k hs hr).2, run_right k' ht hr]
  unfold good
  rw [List.mem_filter, List.mem_range, decide_eq_true_eq]
  refine and_congr_right fun hs => ?_
  constructor
  · intro h
    obtain ⟨i, hi, e⟩ := List.getElem_of_mem h
    rw [List.length_drop, hl] at hi
    refine ⟨i, by omega, (link hs (by omega)).mp ?_⟩
    unfold cl
    rw [← e, List.getElem_drop, List.getD_eq_getElem?_getD, List.getElem?_eq_getElem (by omega)]; rfl
  · rintro ⟨t, ht, a⟩
    have e := (link hs ht).mpr a
    unfold cl at e
    rw [e, List.getD_eq_getElem?_getD, List.getElem?_eq_getElem (by rw [hl]; omega)]
    refine List.mem_of_getElem? (i := t) ?_
    rw [List.getElem?_drop, List.getElem?_eq_getElem (by rw [hl]; omega)]; rfl
theorem good_lt (k : Ok one w) (k' : Ok other w) (h : s ∈ good one other) : s < one.length := ((mem_good k k').mp h).1
theorem good_run (k : Ok one w) (k' : Ok other w) (h : s ∈ good one other) {r : Row} (hr : Let w r) : run one s r ∈ good one other := by
  obtain ⟨hs, t, ht, a⟩ := (mem_good k k').mp h
  exact (mem_good k k').mpr ⟨k.runlt hs hr, run other t r, k'.runlt ht hr, a.run hr⟩
theorem good_alike (k : Ok one w) (k' : Ok other w) {s' : Nat} (h : s ∈ good one other) (hs' : s' < one.length) (a : Alike w one s' one s) : s' ∈ good one other := by
  obtain ⟨_, t, ht, b⟩ := (mem_good k k').mp h
  exact (mem_good k k').mpr ⟨hs', t, ht, a.trans b⟩
end

/-! ### sets of standings that go -/
def nextsBy (m : Mc) (S : List Nat) (x : Nat) : List Nat := asSet (S.map fun s => nx m s x)
def runS (m : Mc) : List Nat → Row → List Nat
  | S, [] => S
  | S, x :: r => runS m (nextsBy m S x) r
theorem runS_app (m : Mc) : ∀ (r r' : Row) (S : List Nat), runS m S (r ++ r') = runS m (runS m S r) r'
  | [], _, _ => rfl
  | x :: r, r', S => runS_app m r r' (nextsBy m S x)
theorem mem_runS {m : Mc} {t : Nat} : ∀ {r : Row} {S : List Nat}, t ∈ runS m S r ↔ ∃ s, s ∈ S ∧ run m s r = t
  | [], S => ⟨fun h => ⟨t, h, rfl⟩, fun ⟨s, h, e⟩ => by
    have : s = t := e
    rw [← this]; exact h⟩
  | x :: r, S => by
    show t ∈ runS m (nextsBy m S x) r ↔ _
    rw [mem_runS]
    unfold nextsBy
    constructor
    · rintro ⟨u, hu, e⟩
      rw [mem_asSet, List.mem_map] at hu
      obtain ⟨s, hs, rfl⟩ := hu
      exact ⟨s, hs, e⟩
    · rintro ⟨s, hs, e⟩
      exact ⟨nx m s x, mem_asSet.mpr (List.mem_map.mpr ⟨s, hs, rfl⟩), e⟩

/-! ### the search -/
section
variable {α : Type} [DecidableEq α] (w : Nat) (step : α → Nat → α) (fin : α → Bool)
def put1 (r : Row) (s : α) (L : List (Row × α)) (x : Nat) : List (Row × α) := if step s x ∈ L.map (·.2) then L else L ++ [(r ++ [x], step s x)]
def grow (r : Row) (s : α) (L : List (Row × α)) : List (Row × α) := (List.range w).foldl (put1 step r s) L
/-- the queue L, of which k are done -/
def bfs : Nat → List (Row × α) → Nat → Option Row
  | 0, _, _ => none
  | f + 1, L, k => match L[k]? with
    | none => none
    | some (r, s) => if fin s then some r else bfs f (grow w step r s L) (k + 1)
def stepR (s : α) (r : Row) : α := r.foldl step s
variable {w step fin}
theorem put1_len {r : Row} {s : α} {L : List (Row × α)} {x : Nat} : ∃ M, put1 step r s L x = L ++ M ∧ (∀ q ∈ M, q = (r ++ [x], step s x) ∧ step s x ∉ L.map (·.2)) ∧ M.length ≤ 1 ∧ step s x ∈ (put1 step r s L x).map (·.2) := by
  unfold put1
  split
  · rename_i h; exact ⟨[], by simp, fun q hq => (nomatch hq), Nat.zero_le _, h⟩
  · rename_i h
    refine ⟨[(r ++ [x], step s x)], rfl, fun q hq => ⟨by simpa using hq, h⟩, Nat.le_refl _, ?_⟩
    rw [List.map_append, List.mem_append]; right; simp
structure Good (w : Nat) (step : α → Nat → α) (s0 : α) (L : List (Row × α)) (k : Nat) : Prop where
  zero : L[0]? = some ([], s0)
  path : ∀ p ∈ L, Let w p.1 ∧ p.2 = stepR step s0 p.1
  nodup : (L.map (·.2)).Nodup
  mono : ∀ (i j : Nat) (p q : Row × α), i ≤ j → L[i]? = some p → L[j]? = some q → p.1.length ≤ q.1.length
  near : ∀ (i j : Nat) (p q : Row × α), k ≤ i → L[i]? = some p → L[j]? = some q → q.1.length ≤ p.1.length + 1
  done : ∀ (i : Nat) (p : Row × α), i < k → L[i]? = some p → ∀ x, x < w → ∃ q ∈ L, q.2 = step p.2 x ∧ q.1.length ≤ p.1.length + 1
theorem Good.start (s0 : α) : Good w step s0 [([], s0)] 0 := by
  refine ⟨rfl, fun p hp => ?_, by simp, fun i j p q _ hp hq => ?_, fun i j p q _ hp hq => ?_, fun i p h => absurd h (Nat.not_lt_zero _)⟩
  · have : p = ([], s0) := by simpa using hp
    subst this; exact ⟨Let.nil, rfl⟩
  · have a := List.mem_of_getElem? hp
    have b := List.mem_of_getElem? hq
    simp at a b; subst a b; exact Nat.le_refl _
  · have b := List.mem_of_getElem? hq
    simp at b; subst b; exact Nat.zero_le _
/-- what one letter after the other adds -/
theorem grow_spec {r : Row} {s : α} : ∀ (xs : List Nat) (L : List (Row × α)), ∃ M, xs.foldl (put1 step r s) L = L ++ M ∧ (∀ q ∈ M, ∃ x ∈ xs, q = (r ++ [x], step s x)) ∧ ((L.map (·.2)).Nodup → ((L ++ M).map (·.2)).Nodup) ∧ ∀ x ∈ xs, step s x ∈ (L ++ M).map (·.2)
  | [], L => ⟨[], by simp, fun q hq => (nomatch hq), fun h => by simpa using h, fun x hx => (nomatch hx)⟩
  | x :: xs, L => by
    obtain ⟨M1, e1, h1, h2, h3⟩ := put1_len (step := step) (r := r) (s := s) (L := L) (x := x)
    obtain ⟨M2, e2, g1, g2, g3⟩ := grow_spec (r := r) (s := s) xs (L ++ M1)
    refine ⟨M1 ++ M2, ?_, fun q hq => ?_, fun hn => ?_, fun y hy => ?_⟩
    · rw [List.foldl_cons, e1, e2, List.append_assoc]
    · rcases List.mem_append.mp hq with h | h
      · exact ⟨x, List.mem_cons_self, (h1 q h).1⟩
      · obtain ⟨y, hy, e⟩ := g1 q h
        exact ⟨y, List.mem_cons_of_mem _ hy, e⟩
    · rw [← List.append_assoc]
      refine g2 ?_
      match M1, h1, h2 with
      | [], _, _ => simpa using hn
      | [q], h1, _ =>
        obtain ⟨e, hne⟩ := h1 q (by simp)
        subst e
        rw [List.map_append, List.nodup_append]
        refine ⟨hn, by simp, fun a ha b hb => ?_⟩
        have : b = step s x := by simpa using hb
        subst this
        exact fun e => hne (e ▸ ha)
      | _ :: _ :: _, _, h2 => simp at h2
    · rw [← List.append_assoc]
      rcases List.mem_cons.mp hy with e | hy
      · subst e
        rw [e1] at h3
        rw [List.map_append, List.mem_append]; exact .inl h3
      · exact g3 y hy
theorem stepR_snoc (s : α) (r : Row) (x : Nat) : stepR step s (r ++ [x]) = step (stepR step s r) x := by
  unfold stepR; rw [List.foldl_append]; rfl
theorem Good.next {s0 : α} {L : List (Row × α)} {k : Nat} (G : Good w step s0 L k) {r : Row} {s : α} (h : L[k]? = some (r, s)) : Good w step s0 (grow w step r s L) (k + 1) ∧ ∃ M, grow w step r s L = L ++ M := by
  obtain ⟨M, e, g1, g2, g3⟩ := grow_spec (step := step) (r := r) (s := s) (List.range w) L
  have hk : k < L.length := (List.getElem?_eq_some_iff.mp h).1
  have old : ∀ {i : Nat} {p : Row × α}, i < L.length → (L ++ M)[i]? = some p → L[i]? = some p := fun hi hp => by
    rwa [List.getElem?_append_left hi] at hp
  have new : ∀ {i : Nat} {p : Row × α}, L.length ≤ i → (L ++ M)[i]? = some p → p ∈ M := fun hi hp => by
    rw [List.getElem?_append_right hi] at hp; exact List.mem_of_getElem? hp
  have newlen : ∀ {p : Row × α}, p ∈ M → p.1.length = r.length + 1 := fun hp => by
    obtain ⟨x, _, e⟩ := g1 _ hp
    rw [e]; simp
  have hps := G.path _ (List.mem_of_getElem? h)
  refine ⟨?_, M, e⟩
  have eg : grow w step r s L = L ++ M := e
  rw [eg]
  refine ⟨by rw [List.getElem?_append_left (by omega)]; exact G.zero, fun p hp => ?_, g2 G.nodup, fun i j p q hij hp hq => ?_, fun i j p q hi hp hq => ?_, fun i p hi hp x hx => ?_⟩
  · rcases List.mem_append.mp hp with hp | hp
    · exact G.path p hp
    · obtain ⟨x, hx, rfl⟩ := g1 p hp
      refine ⟨hps.1.app (Let.nil.cons (List.mem_range.mp hx)), ?_⟩
      rw [stepR_snoc]
      show step s x = _
      rw [← hps.2]
  · by_cases hj : j < L.length
    · exact G.mono i j p q hij (old (by omega) hp) (old hj hq)
    · have hqM := newlen (new (by omega) hq)
      by_cases hi : i < L.length
      · have := G.near k i _ _ (Nat.le_refl _) h (old hi hp)
        have : p.1.length ≤ r.length + 1 := this
        omega
      · have := newlen (new (by omega) hp)
        omega
  · have rk : r.length ≤ p.1.length := by
      by_cases hi2 : i < L.length
      · exact G.mono k i _ _ (by omega) h (old hi2 hp)
      · have := newlen (new (by omega) hp); omega
    by_cases hj : j < L.length
    · have : q.1.length ≤ r.length + 1 := G.near k j _ _ (Nat.le_refl _) h (old hj hq)
      omega
    · have := newlen (new (by omega) hq); omega
  · by_cases hik : i = k
    · subst hik
      have hp' := old hk hp
      rw [h] at hp'
      have e' : (r, s) = p := Option.some.inj hp'
      subst e'
      obtain ⟨q, hq, eq⟩ := List.mem_map.mp (g3 x (List.mem_range.mpr hx))
      refine ⟨q, hq, eq, ?_⟩
      rcases List.mem_append.mp hq with hq | hq
      · obtain ⟨j, hj, ej⟩ := List.getElem_of_mem hq
        exact G.near i j (r, s) q (Nat.le_refl _) h (by rw [List.getElem?_eq_getElem hj, ej])
      · exact Nat.le_of_eq (newlen hq)
    · obtain ⟨q, hq, a, b⟩ := G.done i p (by omega) (old (by omega) hp) x hx
      exact ⟨q, List.mem_append_left _ hq, a, b⟩
/-- every row's state stands in the queue, not later than its length, as long as its prefixes are done -/
theorem Good.holds {s0 : α} {L : List (Row × α)} {k n : Nat} (G : Good w step s0 L k) (hn : ∀ (i : Nat) (p : Row × α), L[i]? = some p → p.1.length < n → i < k) :
    ∀ (d : Nat) (r : Row), Let w r → r.length = d → d ≤ n → ∃ q ∈ L, q.2 = stepR step s0 r ∧ q.1.length ≤ d := by
  intro d
  induction d with
  | zero =>
    intro r _ hl _
    have : r = [] := List.length_eq_zero_iff.mp hl
    subst this
    exact ⟨_, List.mem_of_getElem? G.zero, rfl, Nat.le_refl _⟩
  | succ d ih =>
    intro r hr hl hdn
    have hne : r ≠ [] := fun e => by subst e; simp at hl
    have es := List.dropLast_concat_getLast hne
    generalize r.dropLast = r' at es
    generalize r.getLast hne = x at es
    subst es
    obtain ⟨q, hq, e, hq2⟩ := ih r' hr.left (by simpa using hl) (by omega)
    obtain ⟨i, hi, ei⟩ := List.getElem_of_mem hq
    have hik : i < k := hn i q (by rw [List.getElem?_eq_getElem hi, ei]) (by omega)
    obtain ⟨q2, h1, h2, h3⟩ := G.done i q hik (by rw [List.getElem?_eq_getElem hi, ei]) x (hr.right.head)
    exact ⟨q2, h1, by rw [h2, e, stepR_snoc], by omega⟩
/-- what the search finds -/
structure Found (w : Nat) (step : α → Nat → α) (fin : α → Bool) (s0 : α) (o : Option Row) : Prop where
  yes : ∀ r, o = some r → Let w r ∧ fin (stepR step s0 r) = true ∧ ∀ r', Let w r' → fin (stepR step s0 r') = true → r.length ≤ r'.length
  no : o = none → ∀ r, Let w r → fin (stepR step s0 r) = false
theorem bfs_ok {s0 : α} {N : Nat} (bd : ∀ L : List (Row × α), (L.map (·.2)).Nodup → (∀ p ∈ L, ∃ r, Let w r ∧ p.2 = stepR step s0 r) → L.length ≤ N) :
    ∀ (f : Nat) (L : List (Row × α)) (k : Nat), Good w step s0 L k → (∀ (i : Nat) (p : Row × α), i < k → L[i]? = some p → fin p.2 = false) → k ≤ L.length → N < f + k → Found w step fin s0 (bfs w step fin f L k)
  | 0, L, k, G, _, hk, hf => by
    have := bd L G.nodup fun p hp => ⟨p.1, G.path p hp⟩
    omega
  | f + 1, L, k, G, hd, hk, hf => by
    unfold bfs
    cases h : L[k]? with
    | none =>
      refine ⟨fun r e => (by cases e), fun _ r hr => ?_⟩
      have hlen : L.length ≤ k := List.getElem?_eq_none_iff.mp h
      obtain ⟨q, hq, e, _⟩ := G.holds (n := r.length) (fun i p hp _ => Nat.lt_of_lt_of_le (List.getElem?_eq_some_iff.mp hp).1 hlen) r.length r hr rfl (Nat.le_refl _)
      obtain ⟨i, hi, ei⟩ := List.getElem_of_mem hq
      rw [← e]
      exact hd i q (by omega) (by rw [List.getElem?_eq_getElem hi, ei])
    | some p =>
      obtain ⟨r, s⟩ := p
      dsimp only
      obtain ⟨hr, hs⟩ := G.path _ (List.mem_of_getElem? h)
      have hs : s = stepR step s0 r := hs
      split
      · rename_i hfin
        refine ⟨fun r0 e => ?_, fun e => (by cases e)⟩
        have e := Option.some.inj e
        subst e
        refine ⟨hr, by rw [← hs]; exact hfin, fun r' hr' hf' => ?_⟩
        rcases Nat.lt_or_ge r'.length r.length with hlt | hge
        · exfalso
          obtain ⟨q, hq, e, hql⟩ := G.holds (n := r.length) (fun i p hp hpl => by
            rcases Nat.lt_or_ge i k with a | a
            · exact a
            · have : r.length ≤ p.1.length := G.mono k i (r, s) p a h hp
              omega) r'.length r' hr' rfl (by omega)
          obtain ⟨i, hi, ei⟩ := List.getElem_of_mem hq
          have hik : i < k := by
            rcases Nat.lt_or_ge i k with a | a
            · exact a
            · have : r.length ≤ q.1.length := G.mono k i (r, s) q a h (by rw [List.getElem?_eq_getElem hi, ei])
              omega
          have := hd i q hik (by rw [List.getElem?_eq_getElem hi, ei])
          rw [e, hf'] at this
          cases this
        · exact hge
      · rename_i hfin
        obtain ⟨G', M, eM⟩ := G.next h
        have hkl : k < L.length := (List.getElem?_eq_some_iff.mp h).1
        refine bfs_ok bd f _ (k + 1) G' (fun i p hi hp => ?_) (by rw [eM, List.length_append]; omega) (by omega)
        rw [eM, List.getElem?_append_left (by omega)] at hp
        by_cases e : i = k
        · subst e
          rw [h] at hp
          have := Option.some.inj hp
          subst this
          simpa using hfin
        · exact hd i p (by omega) hp
end

/-! ### plain rows -/
def Plain (w : Nat) (one other : Mc) (r : Row) : Prop := Let w r ∧ ∀ s, s < one.length → run one s r ∈ good one other
def allGood (one other : Mc) (S : List Nat) : Bool := S.all fun s => decide (s ∈ good one other)
def due (w : Nat) (one other : Mc) : Option Row := bfs w (nextsBy one) (allGood one other) 200 [([], List.range one.length)] 0
section
variable {one other : Mc} {w : Nat} (k : Ok one w) (k' : Ok other w)
theorem stepR_runS (S : List Nat) : ∀ (r : Row), stepR (nextsBy one) S r = runS one S r := by
  intro r
  induction r generalizing S with
  | nil => rfl
  | cons x r ih => exact ih (nextsBy one S x)
include k k' in
theorem fin_iff (r : Row) (hr : Let w r) : allGood one other (stepR (nextsBy one) (List.range one.length) r) = true ↔ Plain w one other r := by
  rw [stepR_runS]
  unfold allGood
  rw [List.all_eq_true]
  constructor
  · intro h
    refine ⟨hr, fun s hs => ?_⟩
    have := h (run one s r) (mem_runS.mpr ⟨s, List.mem_range.mpr hs, rfl⟩)
    simpa using this
  · rintro ⟨_, h⟩ t ht
    obtain ⟨s, hs, rfl⟩ := mem_runS.mp ht
    simpa using h s (List.mem_range.mp hs)
include k in
theorem runS_sub {r : Row} (hr : Let w r) : runS one (List.range one.length) r ∈ subs one.length := by
  refine mem_subs ?_ (fun t ht => ?_)
  · induction r using snoc_ind with
    | h0 => exact up_range _
    | hs r x _ => rw [runS_app]; exact up_asSet _
  · obtain ⟨s, hs, rfl⟩ := mem_runS.mp ht
    exact k.runlt (List.mem_range.mp hs) hr
include k in
theorem queue_bd (hn : one.length ≤ 5) (L : List (Row × List Nat)) (hd : (L.map (·.2)).Nodup) (h : ∀ p ∈ L, ∃ r, Let w r ∧ p.2 = stepR (nextsBy one) (List.range one.length) r) : L.length ≤ 32 := by
  have a := nodup_len (l' := subs one.length) hd (fun S hS => by
    obtain ⟨p, hp, rfl⟩ := List.mem_map.mp hS
    obtain ⟨r, hr, e⟩ := h p hp
    rw [e, stepR_runS]
    exact runS_sub k hr)
  rw [List.length_map, subs_len] at a
  have : 2 ^ one.length ≤ 2 ^ 5 := Nat.pow_le_pow_right (by decide) hn
  omega
include k k' in
theorem due_found (hn : one.length ≤ 5) : Found w (nextsBy one) (allGood one other) (List.range one.length) (due w one other) :=
  bfs_ok (N := 32) (queue_bd k hn) 200 _ 0 (Good.start _) (fun i p h => absurd h (Nat.not_lt_zero _)) (Nat.zero_le _) (by decide)
include k k' in
theorem due_some (hn : one.length ≤ 5) {r : Row} (h : due w one other = some r) : Plain w one other r ∧ ∀ r', Plain w one other r' → r.length ≤ r'.length := by
  obtain ⟨a, b, c⟩ := (due_found k k' hn).yes r h
  exact ⟨(fin_iff k k' r a).mp b, fun r' p => c r' p.1 ((fin_iff k k' r' p.1).mpr p)⟩
include k k' in
theorem due_none (hn : one.length ≤ 5) (h : due w one other = none) (r : Row) : ¬ Plain w one other r := fun p => by
  have := (due_found k k' hn).no h r p.1
  rw [(fin_iff k k' r p.1).mpr p] at this
  cases this
include k k' in
theorem due_isSome (hn : one.length ≤ 5) : (∃ r, due w one other = some r) ↔ ∃ r, Plain w one other r := by
  constructor
  · rintro ⟨r, h⟩; exact ⟨r, (due_some k k' hn h).1⟩
  · rintro ⟨r, p⟩
    cases h : due w one other with
    | some r => exact ⟨r, rfl⟩
    | none => exact absurd p (due_none k k' hn h r)
include k k' in
theorem plain_nil : Plain w one other [] ↔ good one other = List.range one.length := by
  constructor
  · rintro ⟨_, h⟩
    unfold good at h ⊢
    refine List.filter_eq_self.mpr fun s hs => ?_
    exact (List.mem_filter.mp (h s (List.mem_range.mp hs))).2
  · intro e
    refine ⟨Let.nil, fun s hs => ?_⟩
    show s ∈ good one other
    rw [e]; exact List.mem_range.mpr hs
include k k' in
/-- rows in front and behind -/
theorem plain_within {r a b : Row} (p : Plain w one other r) (ha : Let w a) (hb : Let w b) : Plain w one other (a ++ r ++ b) := by
  refine ⟨(ha.app p.1).app hb, fun s hs => ?_⟩
  rw [run_app, run_app]
  exact good_run k k' (p.2 _ (k.runlt hs ha)) hb
include k k' in
/-- there is a plain row exactly if each standing comes to a good one by some row -/
theorem plain_iff : (∃ r, Plain w one other r) ↔ ∀ s, s < one.length → ∃ r, Let w r ∧ run one s r ∈ good one other := by
  constructor
  · rintro ⟨r, p⟩ s hs; exact ⟨r, p.1, p.2 s hs⟩
  · intro h
    have all : ∀ S : List Nat, (∀ s ∈ S, s < one.length) → ∃ r, Let w r ∧ ∀ s ∈ S, run one s r ∈ good one other := by
      intro S
      induction S with
      | nil => exact fun _ => ⟨[], Let.nil, fun s hs => nomatch hs⟩
      | cons s S ih =>
        intro hS
        obtain ⟨r, hr, hg⟩ := ih fun t ht => hS t (List.mem_cons_of_mem _ ht)
        obtain ⟨r2, hr2, hg2⟩ := h (run one s r) (k.runlt (hS s List.mem_cons_self) hr)
        refine ⟨r ++ r2, hr.app hr2, fun t ht => ?_⟩
        rw [run_app]
        rcases List.mem_cons.mp ht with e | ht
        · subst e; exact hg2
        · exact good_run k k' (hg t ht) hr2
    obtain ⟨r, hr, hg⟩ := all (List.range one.length) fun s hs => List.mem_range.mp hs
    exact ⟨r, hr, fun s hs => hg s (List.mem_range.mpr hs)⟩
end
end W97
end
section
set_option autoImplicit false
set_option linter.unusedSectionVars false
set_option linter.unusedVariables false
/-! Plain mathematics, part D: merged machines, what is led to, least closed sets, numbered machines, cores. -/
namespace W97

/-! ### the merged machine -/
theorem mem_marksOf {κ : Type} [DecidableEq κ] {l : List κ} {c : Nat} : c ∈ marksOf l ↔ c < cnt l := by
  unfold marksOf cnt
  constructor
  · intro h
    obtain ⟨z, hz, rfl⟩ := List.mem_map.mp h
    exact List.idxOf_lt_length_of_mem (mem_firsts.mpr hz)
  · intro h
    refine List.mem_map.mpr ⟨(firsts l)[c], mem_firsts.mp (List.getElem_mem h), ?_⟩
    exact (nodup_firsts l).idxOf_getElem c h
def rep (m : Mc) : List Nat := (asSet (cls m)).map fun c => (cls m).idxOf c
def mg (m : Mc) : Mc := (rep m).map fun f => (st m f).map fun p => (cl m p.1, p.2)
def Red (w : Nat) (m : Mc) : Prop := ∀ s s', s < m.length → s' < m.length → Alike w m s m s' → s = s'
section
variable {m : Mc} {w : Nat} (k : Ok m w)
theorem cls_len : (cls m).length = m.length := by unfold cls; rw [labels_len]
theorem asSet_cls : asSet (cls m) = List.range (cnt (keysL m (labels m m.length))) :=
  (asSet_eq (up_range _) fun x => by
    rw [List.mem_range]
    show _ ↔ x ∈ marksOf (keysL m (labels m m.length))
    rw [mem_marksOf]).symm
theorem mg_len : (mg m).length = cnt (keysL m (labels m m.length)) := by
  unfold mg rep
  rw [List.length_map, List.length_map, asSet_cls, List.length_range]
theorem cl_mem {s : Nat} (hs : s < m.length) : cl m s ∈ cls m := by
  unfold cl
  rw [List.getD_eq_getElem?_getD, List.getElem?_eq_getElem (by rw [cls_len]; exact hs)]
  exact List.getElem_mem _
theorem mem_cls {c : Nat} : c ∈ cls m ↔ c < (mg m).length := by
  rw [mg_len]
  show c ∈ marksOf (keysL m (labels m m.length)) ↔ _
  exact mem_marksOf
theorem cl_lt {s : Nat} (hs : s < m.length) : cl m s < (mg m).length := mem_cls.mp (cl_mem hs)
theorem rep_ok {c : Nat} (hc : c < (mg m).length) : (cls m).idxOf c < m.length ∧ cl m ((cls m).idxOf c) = c := by
  have h := List.idxOf_lt_length_of_mem (mem_cls.mpr hc)
  refine ⟨by rw [cls_len] at h; exact h, ?_⟩
  unfold cl
  rw [List.getD_eq_getElem?_getD, List.getElem?_eq_getElem h]
  exact List.getElem_idxOf h
theorem cl_surj {c : Nat} (hc : c < (mg m).length) : ∃ s, s < m.length ∧ cl m s = c := ⟨_, rep_ok hc⟩
theorem st_mg {c : Nat} (hc : c < (mg m).length) : st (mg m) c = (st m ((cls m).idxOf c)).map fun p => (cl m p.1, p.2) := by
  have h1 : c < cnt (keysL m (labels m m.length)) := by rw [← mg_len]; exact hc
  unfold st mg rep
  rw [asSet_cls]
  simp [List.getD_eq_getElem?_getD, h1, st]
include k
theorem mg_cell {s x : Nat} (hs : s < m.length) (hx : x < w) : cell (mg m) (cl m s) x = (cl m (nx m s x), an m s x) := by
  obtain ⟨hf, ef⟩ := rep_ok (cl_lt hs)
  have a : Alike w m ((cls m).idxOf (cl m s)) m s := (cl_iff k hf hs).mp ef
  have e1 : cell (mg m) (cl m s) x = (cl m (nx m ((cls m).idxOf (cl m s)) x), an m ((cls m).idxOf (cl m s)) x) := by
    have hl := k.wst hf
    unfold cell
    rw [st_mg (cl_lt hs)]
    unfold nx an cell
    simp only [List.getD_eq_getElem?_getD, List.getElem?_map]
    rw [List.getElem?_eq_getElem (by rw [hl]; exact hx)]
    rfl
  rw [e1, a.an hx, (cl_iff k (k.nxlt hf hx) (k.nxlt hs hx)).mpr (a.nx hx)]
theorem mg_nx {s x : Nat} (hs : s < m.length) (hx : x < w) : nx (mg m) (cl m s) x = cl m (nx m s x) := by unfold nx; rw [mg_cell k hs hx]; rfl
theorem mg_an {s x : Nat} (hs : s < m.length) (hx : x < w) : an (mg m) (cl m s) x = an m s x := by
  have := mg_cell k hs hx
  unfold an at this ⊢; rw [this]
theorem mg_ok : Ok (mg m) w := by
  have row : ∀ r ∈ mg m, ∃ f, f < m.length ∧ r = (st m f).map fun p => (cl m p.1, p.2) := fun r hr => by
    obtain ⟨c, hc, e⟩ := List.getElem_of_mem hr
    refine ⟨_, (rep_ok hc).1, ?_⟩
    rw [← e, ← st_mg hc]
    unfold st
    rw [List.getD_eq_getElem?_getD, List.getElem?_eq_getElem hc]; rfl
  refine ⟨?_, k.wp, fun r hr => ?_, fun r hr p hp => ?_⟩
  · have := cl_lt k.ne; omega
  · obtain ⟨f, hf, rfl⟩ := row r hr
    rw [List.length_map, k.wst hf]
  · obtain ⟨f, hf, rfl⟩ := row r hr
    obtain ⟨q, hq, rfl⟩ := List.mem_map.mp hp
    exact cl_lt (k.lt _ (st_mem hf) _ hq)
theorem mg_run : ∀ {r : Row} {s : Nat}, s < m.length → Let w r → run (mg m) (cl m s) r = cl m (run m s r) ∧ outs (mg m) (cl m s) r = outs m s r
  | [], _, _, _ => ⟨rfl, rfl⟩
  | x :: r, s, hs, hr => by
    obtain ⟨a, b⟩ := mg_run (r := r) (k.nxlt hs hr.head) hr.tail
    refine ⟨?_, ?_⟩
    · show run (mg m) (nx (mg m) (cl m s) x) r = _
      rw [mg_nx k hs hr.head, a]; rfl
    · show an (mg m) (cl m s) x :: outs (mg m) (nx (mg m) (cl m s) x) r = _
      rw [mg_nx k hs hr.head, mg_an k hs hr.head, b]; rfl
theorem mg_red : Red w (mg m) := fun c c' hc hc' a => by
  obtain ⟨s, hs, rfl⟩ := cl_surj hc
  obtain ⟨s', hs', rfl⟩ := cl_surj hc'
  refine (cl_iff k hs hs').mpr fun r hr => ?_
  rw [← (mg_run k hs hr).2, ← (mg_run k hs' hr).2]
  exact a r hr
end

/-! ### what is led to -/
def Reach (w : Nat) (m : Mc) (s t : Nat) : Prop := ∃ r, Let w r ∧ run m s r = t
theorem Reach.refl {w : Nat} {m : Mc} {s : Nat} : Reach w m s s := ⟨[], Let.nil, rfl⟩
theorem Reach.trans {w : Nat} {m : Mc} {s t u : Nat} (a : Reach w m s t) (b : Reach w m t u) : Reach w m s u := by
  obtain ⟨r, hr, e⟩ := a
  obtain ⟨q, hq, e2⟩ := b
  exact ⟨r ++ q, hr.app hq, by rw [run_app, e, e2]⟩
def nextsOf (m : Mc) (S : List Nat) : List Nat := asSet (S.flatMap fun s => (st m s).map (·.1))
def ledS (m : Mc) (L : List Nat) : List Nat := asSet (L ++ nextsOf m L)
def ledI (m : Mc) (s : Nat) : Nat → List Nat
  | 0 => [s]
  | k + 1 => ledS m (ledI m s k)
def ledF (m : Mc) (s : Nat) : List Nat := ledI m s m.length
section
variable {m : Mc} {w : Nat} (k : Ok m w)
include k
theorem mem_nextsOf {S : List Nat} (hS : ∀ s ∈ S, s < m.length) {t : Nat} : t ∈ nextsOf m S ↔ ∃ s ∈ S, ∃ x, x < w ∧ nx m s x = t := by
  unfold nextsOf
  rw [mem_asSet, List.mem_flatMap]
  refine exists_congr fun s => and_congr_right fun hs => ?_
  have hl := k.wst (hS s hs)
  constructor
  · intro h
    obtain ⟨p, hp, rfl⟩ := List.mem_map.mp h
    obtain ⟨x, hx, e⟩ := List.getElem_of_mem hp
    refine ⟨x, by omega, ?_⟩
    unfold nx cell
    rw [List.getD_eq_getElem?_getD, List.getElem?_eq_getElem hx, ← e]; rfl
  · rintro ⟨x, hx, rfl⟩
    exact List.mem_map.mpr ⟨cell m s x, cell_mem (by omega), rfl⟩
theorem mem_ledI {s : Nat} (hs : s < m.length) : ∀ {j t : Nat}, t ∈ ledI m s j ↔ ∃ r, Let w r ∧ r.length ≤ j ∧ run m s r = t
  | 0, t => by
    show t ∈ [s] ↔ _
    rw [List.mem_singleton]
    constructor
    · rintro rfl; exact ⟨[], Let.nil, Nat.le_refl _, rfl⟩
    · rintro ⟨r, _, hl, rfl⟩
      have : r = [] := List.length_eq_zero_iff.mp (by omega)
      subst this; rfl
  | j + 1, t => by
    have ih := fun {u : Nat} => mem_ledI hs (j := j) (t := u)
    have lt : ∀ u ∈ ledI m s j, u < m.length := fun u hu => by
      obtain ⟨r, hr, _, rfl⟩ := ih.mp hu
      exact k.runlt hs hr
    show t ∈ asSet (ledI m s j ++ nextsOf m (ledI m s j)) ↔ _
    rw [mem_asSet, List.mem_append, mem_nextsOf k lt]
    constructor
    · rintro (h | ⟨u, hu, x, hx, rfl⟩)
      · obtain ⟨r, a, b, c⟩ := ih.mp h
        exact ⟨r, a, by omega, c⟩
      · obtain ⟨r, a, b, rfl⟩ := ih.mp hu
        exact ⟨r ++ [x], a.app (Let.nil.cons hx), by rw [List.length_append]; exact Nat.succ_le_succ b, by rw [run_app]; rfl⟩
    · rintro ⟨r, a, b, rfl⟩
      rcases Nat.lt_or_ge j r.length with h | h
      · right
        have hne : r ≠ [] := fun e => by subst e; simp at h
        have es := List.dropLast_concat_getLast hne
        generalize r.dropLast = r' at es
        generalize r.getLast hne = x at es
        subst es
        refine ⟨run m s r', ih.mpr ⟨r', a.left, by simp at b; exact b, rfl⟩, x, a.right.head, by rw [run_app]; rfl⟩
      · exact .inl (ih.mpr ⟨r, a, h, rfl⟩)
omit k in
theorem up_ledI {s : Nat} : ∀ j, Up (ledI m s j)
  | 0 => by show Up [s]; simp [Up]
  | j + 1 => up_asSet _
omit k in
theorem ledI_sub {s j : Nat} : ∀ t ∈ ledI m s j, t ∈ ledI m s (j + 1) := fun t h => mem_asSet.mpr (List.mem_append_left _ h)
theorem led_fix {s : Nat} (hs : s < m.length) : ∃ q, ledI m s (q + 1) = ledI m s q ∧ (∀ j, j < q → ledI m s (j + 1) ≠ ledI m s j) ∧ ledI m s q = ledF m s := by
  have lt : ∀ j, ∀ u ∈ ledI m s j, u < m.length := fun j u hu => by
    obtain ⟨r, hr, _, rfl⟩ := (mem_ledI k hs).mp hu
    exact k.runlt hs hr
  have len : ∀ j, (ledI m s j).length ≤ m.length := fun j => by
    have := nodup_len (l' := List.range m.length) (up_nodup (up_ledI (m := m) (s := s) j)) fun u hu => List.mem_range.mpr (lt j u hu)
    rwa [List.length_range] at this
  have ex : ∃ q, q < m.length ∧ ledI m s (q + 1) = ledI m s q := by
    rcases Classical.em (∃ q, q < m.length ∧ ledI m s (q + 1) = ledI m s q) with h | h
    · exact h
    · exfalso
      have gr : ∀ j, j ≤ m.length → j + 1 ≤ (ledI m s j).length := by
        intro j
        induction j with
        | zero => intro _; exact Nat.le_refl _
        | succ j ih =>
          intro hj
          have a := ih (by omega)
          have ne : ledI m s (j + 1) ≠ ledI m s j := fun e => h ⟨j, by omega, e⟩
          have sub := nodup_len (up_nodup (up_ledI (m := m) (s := s) j)) (ledI_sub (m := m) (s := s) (j := j))
          have : (ledI m s j).length ≠ (ledI m s (j + 1)).length := fun e => ne (by
            refine up_ext (up_ledI _) (up_ledI _) fun z => ⟨fun hz => ?_, ledI_sub z⟩
            rcases Classical.em (z ∈ ledI m s j) with c | c
            · exact c
            · have b := nodup_len (l := z :: ledI m s j) (List.nodup_cons.mpr ⟨c, up_nodup (up_ledI _)⟩) (fun y hy => by
                rcases List.mem_cons.mp hy with e2 | e2
                · rw [e2]; exact hz
                · exact ledI_sub y e2)
              rw [List.length_cons] at b
              omega)
          omega
      have a := gr m.length (Nat.le_refl _)
      have b := len m.length
      omega
  obtain ⟨q0, hq0, e0⟩ := ex
  obtain ⟨q, hq, hl⟩ := least_nat (p := fun q => ledI m s (q + 1) = ledI m s q) q0 e0
  have hqn : q ≤ q0 := by
    rcases Nat.lt_or_ge q0 q with a | a
    · exact absurd e0 (hl q0 a)
    · exact a
  refine ⟨q, hq, hl, ?_⟩
  have const : ∀ d, ledI m s (q + d) = ledI m s q := by
    intro d
    induction d with
    | zero => rfl
    | succ d ih =>
      show ledS m (ledI m s (q + d)) = _
      rw [ih]; exact hq
  unfold ledF
  have := const (m.length - q)
  rw [show q + (m.length - q) = m.length by omega] at this
  exact this.symm
theorem mem_ledF {s t : Nat} (hs : s < m.length) : t ∈ ledF m s ↔ Reach w m s t := by
  obtain ⟨q, hq, _, e⟩ := led_fix k hs
  constructor
  · intro h
    obtain ⟨r, a, _, b⟩ := (mem_ledI k hs).mp h
    exact ⟨r, a, b⟩
  · rintro ⟨r, a, b⟩
    have h := (mem_ledI k hs).mpr ⟨r, a, Nat.le_refl _, b⟩
    rw [← e]
    rcases Nat.lt_or_ge r.length q with c | c
    · exact (mem_ledI k hs).mpr ⟨r, a, by omega, b⟩
    · have const : ∀ d, ledI m s (q + d) = ledI m s q := by
        intro d
        induction d with
        | zero => rfl
        | succ d ih =>
          show ledS m (ledI m s (q + d)) = _
          rw [ih]; exact hq
      have := const (r.length - q)
      rw [show q + (r.length - q) = r.length by omega] at this
      rw [← this]; exact h
omit k in
theorem up_ledF {s : Nat} : Up (ledF m s) := up_ledI _
theorem ledF_lt {s t : Nat} (hs : s < m.length) (h : t ∈ ledF m s) : t < m.length := by
  obtain ⟨r, hr, rfl⟩ := (mem_ledF k hs).mp h
  exact k.runlt hs hr
end

/-! ### least closed sets -/
def Rec (w : Nat) (m : Mc) (s : Nat) : Prop := ∀ t, Reach w m s t → Reach w m t s
/-- P is led from one of its own, and from each -/
def IsLeast (m : Mc) (P : List Nat) : Prop := ∃ s, s < m.length ∧ P = ledF m s ∧ ∀ t ∈ P, ledF m t = P
section
variable {m : Mc} {w : Nat} (k : Ok m w)
include k
theorem led_eq {s t : Nat} (hs : s < m.length) (ht : t < m.length) (a : Reach w m s t) (b : Reach w m t s) : ledF m t = ledF m s :=
  up_ext up_ledF up_ledF fun u => by
    rw [mem_ledF k ht, mem_ledF k hs]
    exact ⟨fun z => a.trans z, fun z => b.trans z⟩
theorem least_of_rec {s : Nat} (hs : s < m.length) (h : Rec w m s) : IsLeast m (ledF m s) :=
  ⟨s, hs, rfl, fun t ht => led_eq k hs (ledF_lt k hs ht) ((mem_ledF k hs).mp ht) (h t ((mem_ledF k hs).mp ht))⟩
theorem rec_of_least {P : List Nat} (h : IsLeast m P) {s : Nat} (hs : s ∈ P) : s < m.length ∧ Rec w m s ∧ P = ledF m s := by
  obtain ⟨s0, hs0, rfl, hall⟩ := h
  have hlt := ledF_lt k hs0 hs
  refine ⟨hlt, fun t ht => ?_, (hall s hs).symm⟩
  have a : t ∈ ledF m s0 := (mem_ledF k hs0).mpr (((mem_ledF k hs0).mp hs).trans ht)
  have b := hall t a
  rw [← mem_ledF k (ledF_lt k hs0 a), b]
  exact hs
theorem to_rec : ∀ (n : Nat) {s : Nat}, s < m.length → (ledF m s).length ≤ n → ∃ t, Reach w m s t ∧ Rec w m t
  | 0, s, hs, h => by
    have : s ∈ ledF m s := (mem_ledF k hs).mpr Reach.refl
    have := List.length_pos_of_mem this
    omega
  | n + 1, s, hs, h => by
    rcases Classical.em (Rec w m s) with c | c
    · exact ⟨s, Reach.refl, c⟩
    · obtain ⟨t, a, b⟩ : ∃ t, Reach w m s t ∧ ¬ Reach w m t s := by
        rcases Classical.em (∃ t, Reach w m s t ∧ ¬ Reach w m t s) with e | e
        · exact e
        · exact absurd (fun t ht => Classical.byContradiction fun z => e ⟨t, ht, z⟩) c
      have ht : t < m.length := by obtain ⟨r, hr, rfl⟩ := a; exact k.runlt hs hr
      have lt : (ledF m t).length < (ledF m s).length := by
        have hn : s ∉ ledF m t := fun z => b ((mem_ledF k ht).mp z)
        have := nodup_len (l := s :: ledF m t) (l' := ledF m s) (List.nodup_cons.mpr ⟨hn, up_nodup up_ledF⟩) (fun y hy => by
          rcases List.mem_cons.mp hy with e | e
          · rw [e]; exact (mem_ledF k hs).mpr Reach.refl
          · exact (mem_ledF k hs).mpr (a.trans ((mem_ledF k ht).mp e)))
        rw [List.length_cons] at this
        omega
      obtain ⟨u, c1, c2⟩ := to_rec n ht (by omega)
      exact ⟨u, a.trans c1, c2⟩
end

/-! ### numbered machines -/
def numStep (m : Mc) (o : List Nat) (j : Nat) : List Nat := ((st m (o.getD j 0)).map (·.1)).foldl putK o
def numGo (m : Mc) : Nat → List Nat → Nat → List Nat
  | 0, o, _ => o
  | f + 1, o, j => if j < o.length then numGo m f (numStep m o j) (j + 1) else o
def order (m : Mc) (s : Nat) : List Nat := numGo m (m.length + 1) [s] 0
def partBy (m : Mc) (o : List Nat) : Mc := o.map fun t => (st m t).map fun p => (o.idxOf p.1, p.2)
def numbered (m : Mc) (s : Nat) : Mc := partBy m (order m s)
/-- an order under way: j are done -/
structure Num (w : Nat) (m : Mc) (s : Nat) (o : List Nat) (j : Nat) : Prop where
  nodup : o.Nodup
  zero : o[0]? = some s
  lt : ∀ t ∈ o, t < m.length
  done : ∀ (i t : Nat), i < j → o[i]? = some t → ∀ x, x < w → nx m t x ∈ o
theorem foldl_putK {ls : List Nat} : ∀ {o : List Nat}, (∀ z, z ∈ ls.foldl putK o ↔ z ∈ o ∨ z ∈ ls) ∧ (o.Nodup → (ls.foldl putK o).Nodup) ∧ ∃ M, ls.foldl putK o = o ++ M := by
  induction ls with
  | nil => intro o; exact ⟨fun z => by simp, fun h => h, [], by simp⟩
  | cons l ls ih =>
    intro o
    obtain ⟨a, b, M, c⟩ := ih (o := putK o l)
    refine ⟨fun z => ?_, fun h => b ?_, ?_⟩
    · rw [List.foldl_cons, a z, mem_putK, List.mem_cons, or_assoc]
    · unfold putK
      split
      · exact h
      · rename_i hn
        rw [List.nodup_append]
        refine ⟨h, by simp, fun x hx y hy => ?_⟩
        have : y = l := by simpa using hy
        subst this
        exact fun e => hn (e ▸ hx)
    · rw [List.foldl_cons, c]
      unfold putK
      split
      · exact ⟨M, rfl⟩
      · exact ⟨[l] ++ M, by rw [List.append_assoc]⟩
section
variable {m : Mc} {w : Nat} (k : Ok m w)
include k
theorem Num.len {s j : Nat} {o : List Nat} (N : Num w m s o j) : o.length ≤ m.length := by
  have := nodup_len (l' := List.range m.length) N.nodup fun t ht => List.mem_range.mpr (N.lt t ht)
  rwa [List.length_range] at this
theorem Num.next {s j : Nat} {o : List Nat} (N : Num w m s o j) (hj : j < o.length) : Num w m s (numStep m o j) (j + 1) := by
  have hv : o.getD j 0 = o[j] := by rw [List.getD_eq_getElem?_getD, List.getElem?_eq_getElem hj]; rfl
  have hlt : o[j] < m.length := N.lt _ (List.getElem_mem hj)
  obtain ⟨a, b, M, c⟩ := foldl_putK (ls := (st m (o.getD j 0)).map (·.1)) (o := o)
  have ec : numStep m o j = o ++ M := c
  refine ⟨b N.nodup, ?_, fun t ht => ?_, fun i t hi ht x hx => ?_⟩
  · rw [ec, List.getElem?_append_left (by omega)]; exact N.zero
  · rcases (a t).mp ht with h | h
    · exact N.lt t h
    · obtain ⟨p, hp, rfl⟩ := List.mem_map.mp h
      rw [hv] at hp
      exact k.lt _ (st_mem hlt) p hp
  · show nx m t x ∈ ((st m (o.getD j 0)).map (·.1)).foldl putK o
    rw [a]
    rw [ec, List.getElem?_append_left (by omega)] at ht
    by_cases e : i = j
    · right
      subst e
      rw [List.getElem?_eq_getElem hj] at ht
      have ht := Option.some.inj ht
      subst ht
      rw [hv]
      exact List.mem_map.mpr ⟨cell m o[i] x, cell_mem (by rw [k.wst hlt]; exact hx), rfl⟩
    · exact .inl (N.done i t (by omega) ht x hx)
theorem Num.go {s : Nat} : ∀ (f : Nat) {o : List Nat} {j : Nat}, Num w m s o j → m.length < f + j → ∃ j', Num w m s (numGo m f o j) j' ∧ (numGo m f o j).length ≤ j'
  | 0, o, j, N, h => ⟨j, N, by have := N.len k; show o.length ≤ j; omega⟩
  | f + 1, o, j, N, h => by
    unfold numGo
    split
    · rename_i hj
      exact Num.go f (N.next k hj) (by omega)
    · rename_i hj
      exact ⟨j, N, by omega⟩
theorem order_num {s : Nat} (hs : s < m.length) : ∃ j, Num w m s (order m s) j ∧ (order m s).length ≤ j :=
  Num.go k _ ⟨by simp, rfl, fun t ht => by have : t = s := by simpa using ht
                                           omega, fun i t h => absurd h (Nat.not_lt_zero _)⟩ (by omega)
theorem order_closed {s : Nat} (hs : s < m.length) {t : Nat} (ht : t ∈ order m s) {x : Nat} (hx : x < w) : nx m t x ∈ order m s := by
  obtain ⟨j, N, hj⟩ := order_num k hs
  obtain ⟨i, hi, e⟩ := List.getElem_of_mem ht
  exact N.done i t (by omega) (by rw [List.getElem?_eq_getElem hi, e]) x hx
theorem order_lt {s : Nat} (hs : s < m.length) {t : Nat} (ht : t ∈ order m s) : t < m.length := by
  obtain ⟨j, N, hj⟩ := order_num k hs
  exact N.lt t ht
/-- what the numbered machine answers -/
theorem part_outs {o : List Nat} (hlt : ∀ t ∈ o, t < m.length) (hcl : ∀ t ∈ o, ∀ x, x < w → nx m t x ∈ o) : ∀ {r : Row} {t : Nat}, t ∈ o → Let w r → outs (partBy m o) (o.idxOf t) r = outs m t r
  | [], _, _, _ => rfl
  | x :: r, t, ht, hr => by
    have hi := List.idxOf_lt_length_of_mem ht
    have hx := hr.head
    have e1 : st (partBy m o) (o.idxOf t) = (st m t).map fun p => (o.idxOf p.1, p.2) := by
      unfold st partBy
      rw [List.getD_eq_getElem?_getD, List.getElem?_map, List.getElem?_eq_getElem hi, List.getElem_idxOf hi]
      rfl
    have e : cell (partBy m o) (o.idxOf t) x = (o.idxOf (nx m t x), an m t x) := by
      unfold cell
      rw [e1]
      unfold nx an cell
      simp only [List.getD_eq_getElem?_getD, List.getElem?_map]
      rw [List.getElem?_eq_getElem (by rw [k.wst (hlt t ht)]; exact hx)]
      rfl
    have en : nx (partBy m o) (o.idxOf t) x = o.idxOf (nx m t x) := by unfold nx; rw [e]; rfl
    have ea : an (partBy m o) (o.idxOf t) x = an m t x := by
      have := e
      unfold an at this ⊢; rw [this]
    show an (partBy m o) (o.idxOf t) x :: outs (partBy m o) (nx (partBy m o) (o.idxOf t) x) r = _
    rw [en, ea, part_outs hlt hcl (hcl t ht x hx) hr.tail]
    rfl
theorem numbered_outs {s : Nat} (hs : s < m.length) {r : Row} (hr : Let w r) : outs (numbered m s) 0 r = outs m s r := by
  obtain ⟨j, N, hj⟩ := order_num k hs
  have hm : s ∈ order m s := List.mem_of_getElem? N.zero
  have h0 : (order m s).idxOf s = 0 := by
    have z := N.zero
    match (order m s), z with
    | a :: o, z =>
      have : a = s := Option.some.inj z
      subst this
      simp
  have := part_outs k (o := order m s) (fun t ht => order_lt k hs ht) (fun t ht x hx => order_closed k hs ht hx) hm hr
  rw [h0] at this
  exact this
end

inductive All2 {α β : Type} (P : α → β → Prop) : List α → List β → Prop
  | nil : All2 P [] []
  | cons {a b as bs} : P a b → All2 P as bs → All2 P (a :: as) (b :: bs)
section
variable {α β : Type} {P : α → β → Prop}
theorem All2.len : ∀ {as : List α} {bs : List β}, All2 P as bs → as.length = bs.length
  | _, _, .nil => rfl
  | _, _, .cons _ t => congrArg Nat.succ t.len
theorem All2.app : ∀ {as as' : List α} {bs bs' : List β}, All2 P as bs → All2 P as' bs' → All2 P (as ++ as') (bs ++ bs')
  | _, _, _, _, .nil, h => h
  | _, _, _, _, .cons p t, h => .cons p (t.app h)
theorem All2.at : ∀ {as : List α} {bs : List β} {i : Nat} {a : α}, All2 P as bs → as[i]? = some a → ∃ b, bs[i]? = some b ∧ P a b
  | _, _, _, _, .nil, e => by simp at e
  | _, _, 0, _, .cons p _, e => by simp at e; subst e; exact ⟨_, rfl, p⟩
  | _, _, i + 1, _, .cons _ t, e => by
    obtain ⟨b, h1, h2⟩ := t.at (i := i) (by simpa using e)
    exact ⟨b, by simpa using h1, h2⟩
theorem All2.mem1 : ∀ {as : List α} {bs : List β} {a : α}, All2 P as bs → a ∈ as → ∃ b, b ∈ bs ∧ P a b
  | _, _, _, .cons p t, h => by
    rcases List.mem_cons.mp h with e | h
    · subst e; exact ⟨_, List.mem_cons_self, p⟩
    · obtain ⟨b, h1, h2⟩ := t.mem1 h
      exact ⟨b, List.mem_cons_of_mem _ h1, h2⟩
theorem All2.mem2 : ∀ {as : List α} {bs : List β} {b : β}, All2 P as bs → b ∈ bs → ∃ a, a ∈ as ∧ P a b
  | _, _, _, .cons p t, h => by
    rcases List.mem_cons.mp h with e | h
    · subst e; exact ⟨_, List.mem_cons_self, p⟩
    · obtain ⟨b, h1, h2⟩ := t.mem2 h
      exact ⟨b, List.mem_cons_of_mem _ h1, h2⟩
theorem All2.of_len {as : List α} {bs : List β} (hl : as.length = bs.length) (h : ∀ i (h1 : i < as.length) (h2 : i < bs.length), P as[i] bs[i]) : All2 P as bs := by
  induction as generalizing bs with
  | nil =>
    cases bs with
    | nil => exact .nil
    | cons _ _ => simp at hl
  | cons a as ih =>
    cases bs with
    | nil => simp at hl
    | cons b bs =>
      refine .cons (h 0 (by simp) (by simp)) (ih (by simpa using hl) fun i h1 h2 => ?_)
      exact h (i + 1) (by simpa using h1) (by simpa using h2)
end
section
variable {m m' : Mc} {w : Nat} (k : Ok m w) (k' : Ok m' w) (rd : Red w m) (rd' : Red w m')
abbrev Both (w : Nat) (m m' : Mc) (t t' : Nat) : Prop := t < m.length ∧ t' < m'.length ∧ Alike w m t m' t'
include k k' rd rd'
theorem both_inj1 {t t' u u' : Nat} (a : Both w m m' t t') (b : Both w m m' u u') (e : t = u) : t' = u' := by
  subst e; exact rd' _ _ a.2.1 b.2.1 (a.2.2.symm.trans b.2.2)
theorem both_inj2 {t t' u u' : Nat} (a : Both w m m' t t') (b : Both w m m' u u') (e : t' = u') : t = u := by
  subst e; exact rd _ _ a.1 b.1 (a.2.2.trans b.2.2.symm)
theorem both_mem {o o' : List Nat} (h : All2 (Both w m m') o o') {l l' : Nat} (b : Both w m m' l l') : l ∈ o ↔ l' ∈ o' := by
  constructor
  · intro hl
    obtain ⟨z, hz, c⟩ := h.mem1 hl
    rw [both_inj1 k k' rd rd' b c rfl]; exact hz
  · intro hl
    obtain ⟨z, hz, c⟩ := h.mem2 hl
    rw [both_inj2 k k' rd rd' b c rfl]; exact hz
theorem both_putK {o o' : List Nat} (h : All2 (Both w m m') o o') {l l' : Nat} (b : Both w m m' l l') : All2 (Both w m m') (putK o l) (putK o' l') := by
  have := both_mem k k' rd rd' h b
  unfold putK
  by_cases c : l ∈ o
  · rw [if_pos c, if_pos (this.mp c)]; exact h
  · rw [if_neg c, if_neg fun z => c (this.mpr z)]; exact h.app (.cons b .nil)
theorem both_fold {ls ls' : List Nat} (hl : All2 (Both w m m') ls ls') : ∀ {o o' : List Nat}, All2 (Both w m m') o o' → All2 (Both w m m') (ls.foldl putK o) (ls'.foldl putK o') := by
  induction hl with
  | nil => exact fun h => h
  | cons p _ ih => exact fun h => ih (both_putK k k' rd rd' h p)
theorem both_next {t t' : Nat} (b : Both w m m' t t') : All2 (Both w m m') ((st m t).map (·.1)) ((st m' t').map (·.1)) := by
  have l1 := k.wst b.1
  have l2 := k'.wst b.2.1
  refine All2.of_len (by simp [l1, l2]) fun i h1 h2 => ?_
  rw [List.length_map] at h1 h2
  rw [List.getElem_map, List.getElem_map]
  have e1 : (st m t)[i].1 = nx m t i := by unfold nx cell; rw [List.getD_eq_getElem?_getD, List.getElem?_eq_getElem h1]; rfl
  have e2 : (st m' t')[i].1 = nx m' t' i := by unfold nx cell; rw [List.getD_eq_getElem?_getD, List.getElem?_eq_getElem h2]; rfl
  rw [e1, e2]
  exact ⟨k.nxlt b.1 (by omega), k'.nxlt b.2.1 (by omega), b.2.2.nx (by omega)⟩
theorem both_go : ∀ (f f' : Nat) {o o' : List Nat} {j : Nat} {s s' : Nat}, All2 (Both w m m') o o' → Num w m s o j → Num w m' s' o' j → m.length < f + j → m'.length < f' + j → All2 (Both w m m') (numGo m f o j) (numGo m' f' o' j)
  | 0, f', o, o', j, s, s', h, N, N', h1, h2 => by
    have hl := N.len k
    have he := h.len
    have : numGo m' f' o' j = o' := by
      cases f' with
      | zero => rfl
      | succ f' => unfold numGo; rw [if_neg (by omega)]
    rw [this]; exact h
  | f + 1, f', o, o', j, s, s', h, N, N', h1, h2 => by
    have he := h.len
    have hl' := N'.len k'
    by_cases hj : j < o.length
    · cases f' with
      | zero => omega
      | succ f' =>
        unfold numGo
        rw [if_pos hj, if_pos (by omega)]
        refine both_go f f' ?_ (N.next k hj) (N'.next k' (by omega)) (by omega) (by omega)
        obtain ⟨b, hb, pb⟩ := h.at (i := j) (List.getElem?_eq_getElem hj)
        unfold numStep
        rw [List.getD_eq_getElem?_getD, List.getElem?_eq_getElem hj, List.getD_eq_getElem?_getD, hb]
        exact both_fold k k' rd rd' (both_next k k' rd rd' pb) h
    · have e1 : numGo m (f + 1) o j = o := by unfold numGo; rw [if_neg hj]
      have e2 : numGo m' f' o' j = o' := by
        cases f' with
        | zero => rfl
        | succ f' => unfold numGo; rw [if_neg (by omega)]
      rw [e1, e2]; exact h
theorem both_idx {o o' : List Nat} (h : All2 (Both w m m') o o') {l l' : Nat} (b : Both w m m' l l') : o.idxOf l = o'.idxOf l' := by
  induction h with
  | nil => rfl
  | @cons a c as bs p _ ih =>
    rw [List.idxOf_cons, List.idxOf_cons]
    by_cases e : a = l
    · have e2 : c = l' := both_inj1 k k' rd rd' p b e
      simp [e, e2]
    · have e2 : c ≠ l' := fun z => e (both_inj2 k k' rd rd' p b z)
      have h1 : (a == l) = false := beq_eq_false_iff_ne.mpr e
      have h2 : (c == l') = false := beq_eq_false_iff_ne.mpr e2
      rw [h1, h2]
      simp [ih]
/-- alike standings of machines in which no two are alike are numbered alike -/
theorem numbered_same {s s' : Nat} (hs : s < m.length) (hs' : s' < m'.length) (a : Alike w m s m' s') : numbered m s = numbered m' s' := by
  have start : ∀ {M : Mc} {u : Nat}, u < M.length → Num w M u [u] 0 := fun {M u} hu =>
    ⟨by simp, rfl, fun t ht => by have : t = u := by simpa using ht
                                  omega, fun i t h => absurd h (Nat.not_lt_zero _)⟩
  have h : All2 (Both w m m') (order m s) (order m' s') := both_go k k' rd rd' _ _ (.cons ⟨hs, hs', a⟩ .nil) (start hs) (start hs') (by omega) (by omega)
  unfold numbered partBy
  have hl := h.len
  refine List.ext_getElem (by simp [hl]) fun i h1 h2 => ?_
  rw [List.length_map] at h1 h2
  rw [List.getElem_map, List.getElem_map]
  obtain ⟨b, hb, pb⟩ := h.at (i := i) (List.getElem?_eq_getElem h1)
  rw [List.getElem?_eq_getElem h2] at hb
  have hb := Option.some.inj hb
  rw [hb]
  generalize (order m s)[i] = t at pb
  have l1 := k.wst pb.1
  have l2 := k'.wst pb.2.1
  refine List.ext_getElem (by simp [l1, l2]) fun x g1 g2 => ?_
  rw [List.length_map] at g1 g2
  rw [List.getElem_map, List.getElem_map]
  have e1 : (st m t)[x] = cell m t x := by unfold cell; rw [List.getD_eq_getElem?_getD, List.getElem?_eq_getElem g1]; rfl
  have e2 : (st m' b)[x] = cell m' b x := by unfold cell; rw [List.getD_eq_getElem?_getD, List.getElem?_eq_getElem g2]; rfl
  rw [e1, e2]
  have hx : x < w := by omega
  have : (order m s).idxOf (nx m t x) = (order m' s').idxOf (nx m' b x) := both_idx k k' rd rd' h ⟨k.nxlt pb.1 hx, k'.nxlt pb.2.1 hx, pb.2.2.nx hx⟩
  have ea := pb.2.2.an hx
  exact Prod.ext this ea
end
end W97
end
section
set_option autoImplicit false
set_option linter.unusedSectionVars false
set_option linter.unusedVariables false
/-! Plain mathematics, part E: cores, settling, replacing, the search by levels. -/
namespace W97

/-! ### cores -/
/-- c is, by an order le, the first of the machines numbered from the standings of P -/
def IsCore (le : Mc → Mc → Prop) (m : Mc) (P : List Nat) (c : Mc) : Prop := (∃ u, u ∈ P ∧ c = numbered m u) ∧ ∀ u, u ∈ P → le c (numbered m u)
/-- L tells the cores of a machine (by its merged one) -/
def TellsCores (le : Mc → Mc → Prop) (m : Mc) (L : List Mc) : Prop := (∀ c ∈ L, ∃ P, IsLeast (mg m) P ∧ IsCore le (mg m) P c) ∧ ∀ P, IsLeast (mg m) P → ∃ c ∈ L, IsCore le (mg m) P c
section
variable {one other : Mc} {w : Nat} (k : Ok one w) (k' : Ok other w) {le : Mc → Mc → Prop} {L1 L2 : List Mc}
include k k'
theorem share_iff (anti : ∀ c ∈ L1, ∀ d ∈ L2, le c d → le d c → c = d) (h1 : TellsCores le one L1) (h2 : TellsCores le other L2) : (∀ c ∈ L1, c ∈ L2) ↔ ∃ r, Plain w one other r := by
  have K1 := mg_ok k
  have K2 := mg_ok k'
  rw [plain_iff k k']
  constructor
  · intro sub s hs
    obtain ⟨t, a, b⟩ := to_rec K1 _ (cl_lt hs) (Nat.le_refl _)
    have ht : t < (mg one).length := by obtain ⟨r, hr, rfl⟩ := a; exact K1.runlt (cl_lt hs) hr
    obtain ⟨c, hc, ⟨u, hu, ec⟩, _⟩ := h1.2 _ (least_of_rec K1 ht b)
    obtain ⟨P', hP', ⟨u', hu', ec'⟩, _⟩ := h2.1 c (sub c hc)
    have hul := ledF_lt K1 ht hu
    have hul' := (rec_of_least K2 hP' hu').1
    have al : Alike w (mg one) u (mg other) u' := fun r hr => by
      rw [← numbered_outs K1 hul hr, ← ec, ec', numbered_outs K2 hul' hr]
    obtain ⟨t', ht', e'⟩ := cl_surj hul'
    obtain ⟨r, hr, e⟩ := a.trans ((mem_ledF K1 ht).mp hu)
    refine ⟨r, hr, (mem_good k k').mpr ⟨k.runlt hs hr, t', ht', fun q hq => ?_⟩⟩
    rw [← (mg_run k (k.runlt hs hr) hq).2, ← (mg_run k hs hr).1, e, al q hq, ← e', (mg_run k' ht' hq).2]
  · intro reach c hc
    obtain ⟨P, hP, hcore⟩ := h1.1 c hc
    obtain ⟨s0, hs0, hPs, hPall⟩ := id hP
    obtain ⟨q, hq, eq⟩ := cl_surj hs0
    obtain ⟨r, hr, hg⟩ := reach q hq
    obtain ⟨hgl, t', ht', al⟩ := (mem_good k k').mp hg
    have hu : cl one (run one q r) ∈ P := by
      rw [hPs]
      refine (mem_ledF K1 hs0).mpr ⟨r, hr, ?_⟩
      rw [← eq, (mg_run k hq hr).1]
    generalize hue : cl one (run one q r) = u at hu
    generalize hue' : cl other t' = u'
    have hul : u < (mg one).length := by rw [← hue]; exact cl_lt hgl
    have hul' : u' < (mg other).length := by rw [← hue']; exact cl_lt ht'
    have al2 : Alike w (mg one) u (mg other) u' := fun p hp => by
      rw [← hue, ← hue', (mg_run k hgl hp).2, (mg_run k' ht' hp).2]; exact al p hp
    obtain ⟨_, hrec, hPu⟩ := rec_of_least K1 hP hu
    have hrec' : Rec w (mg other) u' := fun v' hv' => by
      obtain ⟨p, hp, rfl⟩ := hv'
      obtain ⟨p2, hp2, e2⟩ := hrec (run (mg one) u p) ⟨p, hp, rfl⟩
      refine ⟨p2, hp2, ?_⟩
      have a1 := (al2.run hp).run hp2
      rw [e2] at a1
      exact mg_red k' _ _ (K2.runlt (K2.runlt hul' hp) hp2) hul' (a1.symm.trans al2)
    obtain ⟨c', hc', hcore'⟩ := h2.2 _ (least_of_rec K2 hul' hrec')
    have to : ∀ v, v ∈ P → ∃ v', v' ∈ ledF (mg other) u' ∧ numbered (mg one) v = numbered (mg other) v' := fun v hv => by
      rw [hPu] at hv
      obtain ⟨p, hp, rfl⟩ := (mem_ledF K1 hul).mp hv
      exact ⟨run (mg other) u' p, (mem_ledF K2 hul').mpr ⟨p, hp, rfl⟩, numbered_same K1 K2 (mg_red k) (mg_red k') (K1.runlt hul hp) (K2.runlt hul' hp) (al2.run hp)⟩
    have back : ∀ v', v' ∈ ledF (mg other) u' → ∃ v, v ∈ P ∧ numbered (mg one) v = numbered (mg other) v' := fun v' hv' => by
      obtain ⟨p, hp, rfl⟩ := (mem_ledF K2 hul').mp hv'
      refine ⟨run (mg one) u p, ?_, numbered_same K1 K2 (mg_red k) (mg_red k') (K1.runlt hul hp) (K2.runlt hul' hp) (al2.run hp)⟩
      rw [hPu]
      exact (mem_ledF K1 hul).mpr ⟨p, hp, rfl⟩
    have le1 : le c c' := by
      obtain ⟨⟨v', hv', e'⟩, _⟩ := hcore'
      obtain ⟨v, hv, e⟩ := back v' hv'
      rw [e', ← e]; exact hcore.2 v hv
    have le2 : le c' c := by
      obtain ⟨⟨v, hv, e⟩, _⟩ := hcore
      obtain ⟨v', hv', e'⟩ := to v hv
      rw [e, e']; exact hcore'.2 v' hv'
    rw [anti c hc c' hc' le1 le2]
    exact hc'
end

/-! ### settling -/
def afterI (m : Mc) : Nat → List Nat
  | 0 => List.range m.length
  | j + 1 => nextsOf m (afterI m j)
section
variable {m : Mc} {w : Nat} (k : Ok m w)
include k
theorem mem_afterI : ∀ {j t : Nat}, t ∈ afterI m j ↔ ∃ s r, s < m.length ∧ Let w r ∧ r.length = j ∧ run m s r = t
  | 0, t => by
    show t ∈ List.range m.length ↔ _
    rw [List.mem_range]
    constructor
    · intro h; exact ⟨t, [], h, Let.nil, rfl, rfl⟩
    · rintro ⟨s, r, h, _, hl, rfl⟩
      have : r = [] := List.length_eq_zero_iff.mp hl
      subst this; exact h
  | j + 1, t => by
    have ih := fun {u : Nat} => mem_afterI (j := j) (t := u)
    have lt : ∀ u ∈ afterI m j, u < m.length := fun u hu => by
      obtain ⟨s, r, h, hr, _, rfl⟩ := ih.mp hu
      exact k.runlt h hr
    show t ∈ nextsOf m (afterI m j) ↔ _
    rw [mem_nextsOf k lt]
    constructor
    · rintro ⟨u, hu, x, hx, rfl⟩
      obtain ⟨s, r, h, hr, hl, rfl⟩ := ih.mp hu
      exact ⟨s, r ++ [x], h, hr.app (Let.nil.cons hx), by rw [List.length_append, hl]; rfl, by rw [run_app]; rfl⟩
    · rintro ⟨s, r, h, hr, hl, rfl⟩
      have hne : r ≠ [] := fun e => by subst e; simp at hl
      have es := List.dropLast_concat_getLast hne
      generalize r.dropLast = r' at es
      generalize r.getLast hne = x at es
      subst es
      exact ⟨run m s r', ih.mpr ⟨s, r', h, hr.left, by simpa using hl, rfl⟩, x, hr.right.head, by rw [run_app]; rfl⟩
theorem afterI_lt {j t : Nat} (h : t ∈ afterI m j) : t < m.length := by
  obtain ⟨s, r, hs, hr, _, rfl⟩ := (mem_afterI k).mp h
  exact k.runlt hs hr
end
/-- the class of s is in a least closed set -/
def Settled (m : Mc) (s : Nat) : Prop := ∃ P, IsLeast (mg m) P ∧ cl m s ∈ P
section
variable {one other : Mc} {w : Nat} (k : Ok one w) (k' : Ok other w)
include k k'
/-- behind rows of so many letters all is settled: then each such row is plain, if there is a plain one -/
theorem settled_plain {b : Nat} (hs : ∀ t ∈ afterI one b, Settled one t) (hp : ∃ r, Plain w one other r) {r : Row} (hr : Let w r) (hl : r.length = b) : Plain w one other r := by
  have K1 := mg_ok k
  refine ⟨hr, fun s hsl => ?_⟩
  have hq : run one s r ∈ afterI one b := (mem_afterI k).mpr ⟨s, r, hsl, hr, hl, rfl⟩
  have hql := k.runlt hsl hr
  obtain ⟨P, hP, hc⟩ := hs _ hq
  generalize run one s r = q at hql hc
  obtain ⟨p, pp⟩ := hp
  obtain ⟨_, hrec, _⟩ := rec_of_least K1 hP hc
  have hg := pp.2 q hql
  obtain ⟨p2, hp2, e⟩ := hrec (run (mg one) (cl one q) p) ⟨p, pp.1, rfl⟩
  have hg2 := good_run k k' hg hp2
  refine good_alike k k' hg2 hql ((cl_iff k hql (good_lt k k' hg2)).mp ?_)
  rw [(mg_run k hql pp.1).1, (mg_run k (k.runlt hql pp.1) hp2).1] at e
  exact e.symm
end

/-! ### states of a standing and a set -/
def leftBy (m : Mc) (S : List Nat) (x a : Nat) : List Nat := asSet ((S.filter fun s => an m s x == a).map fun s => nx m s x)
abbrev Sta := Nat × List Nat
def succS (one other : Mc) (q : Sta) (x : Nat) : Sta := (nx one q.1 x, leftBy other q.2 x (an one q.1 x))
def runQ (one other : Mc) : Sta → Row → Sta
  | q, [] => q
  | q, x :: r => runQ one other (succS one other q x) r
theorem runQ_app (one other : Mc) : ∀ (r r' : Row) (q : Sta), runQ one other q (r ++ r') = runQ one other (runQ one other q r) r'
  | [], _, _ => rfl
  | x :: r, r', q => runQ_app one other r r' (succS one other q x)
theorem runQ_ok {one other : Mc} : ∀ {r : Row} {q : Sta}, (runQ one other q r).1 = run one q.1 r ∧ ∀ t, t ∈ (runQ one other q r).2 ↔ ∃ u, u ∈ q.2 ∧ run other u r = t ∧ outs other u r = outs one q.1 r
  | [], q => ⟨rfl, fun t => ⟨fun h => ⟨t, h, rfl, rfl⟩, fun ⟨u, h, e, _⟩ => by
    have : u = t := e
    rw [← this]; exact h⟩⟩
  | x :: r, q => by
    obtain ⟨a, b⟩ := runQ_ok (one := one) (other := other) (r := r) (q := succS one other q x)
    refine ⟨a, fun t => ?_⟩
    show t ∈ (runQ one other (succS one other q x) r).2 ↔ _
    rw [b]
    have mem : ∀ u, u ∈ (succS one other q x).2 ↔ ∃ v, v ∈ q.2 ∧ an other v x = an one q.1 x ∧ nx other v x = u := fun u => by
      show u ∈ asSet _ ↔ _
      rw [mem_asSet, List.mem_map]
      constructor
      · rintro ⟨v, hv, e⟩
        rw [List.mem_filter] at hv
        exact ⟨v, hv.1, by simpa using hv.2, e⟩
      · rintro ⟨v, hv, e, e2⟩
        exact ⟨v, List.mem_filter.mpr ⟨hv, by simpa using e⟩, e2⟩
    constructor
    · rintro ⟨u, hu, e1, e2⟩
      obtain ⟨v, hv, e3, rfl⟩ := (mem u).mp hu
      refine ⟨v, hv, e1, ?_⟩
      show an other v x :: outs other (nx other v x) r = an one q.1 x :: outs one (nx one q.1 x) r
      rw [e3, e2]; rfl
    · rintro ⟨v, hv, e1, e2⟩
      have e3 := List.cons.inj (show an other v x :: outs other (nx other v x) r = an one q.1 x :: outs one (nx one q.1 x) r from e2)
      exact ⟨nx other v x, (mem _).mpr ⟨v, hv, e3.1, rfl⟩, e1, e3.2⟩
/-- a state without standings is met -/
def Bad (w : Nat) (one other : Mc) (qs : List Sta) : Prop := ∃ q, q ∈ qs ∧ ∃ r, Let w r ∧ (runQ one other q r).2 = []
theorem not_bad {w : Nat} {one other : Mc} {qs : List Sta} : ¬ Bad w one other qs ↔ ∀ q ∈ qs, ∀ r, Let w r → ∃ u, u ∈ q.2 ∧ outs other u r = outs one q.1 r := by
  constructor
  · intro h q hq r hr
    rcases Classical.em (∃ u, u ∈ q.2 ∧ outs other u r = outs one q.1 r) with c | c
    · exact c
    · refine absurd ⟨q, hq, r, hr, ?_⟩ h
      refine List.eq_nil_iff_forall_not_mem.mpr fun t ht => ?_
      obtain ⟨u, hu, _, e⟩ := (runQ_ok.2 t).mp ht
      exact c ⟨u, hu, e⟩
  · rintro h ⟨q, hq, r, hr, e⟩
    obtain ⟨u, hu, e2⟩ := h q hq r hr
    have := (runQ_ok.2 (run other u r)).mpr ⟨u, hu, rfl, e2⟩
    rw [e] at this
    cases this
/-- a standing against one standing: alike -/
theorem bad_one {w : Nat} {one other : Mc} {s t : Nat} : ¬ Bad w one other [(s, [t])] ↔ Alike w one s other t := by
  rw [not_bad]
  constructor
  · intro h r hr
    obtain ⟨u, hu, e⟩ := h _ List.mem_cons_self r hr
    have : u = t := by simpa using hu
    subst this; exact e.symm
  · intro h q hq r hr
    have : q = (s, [t]) := by simpa using hq
    subst this
    exact ⟨t, by simp, (h r hr).symm⟩
def begun (one other : Mc) (b : Nat) : List Sta := (afterI one b).map fun s => (s, List.range other.length)
section
variable {one other : Mc} {w : Nat} (k : Ok one w) (k' : Ok other w)
include k k'
theorem may_plain {b : Nat} (h : ¬ Bad w one other (begun one other b)) : ∃ r, Plain w one other r := by
  rw [plain_iff k k']
  rw [not_bad] at h
  intro s0 hs0
  have h0 : Let w (List.replicate b 0) := fun y hy => by rw [List.eq_of_mem_replicate hy]; exact k.wp
  have hs : run one s0 (List.replicate b 0) ∈ afterI one b := (mem_afterI k).mpr ⟨s0, _, hs0, h0, by simp, rfl⟩
  have hsl := k.runlt hs0 h0
  have all := fun r hr => h _ (List.mem_map.mpr ⟨_, hs, rfl⟩) r hr
  generalize he : run one s0 (List.replicate b 0) = s at hsl all
  -- the fewest standings that are left
  let T : Row → List Nat := fun r => (List.range other.length).filter fun u => decide (outs other u r = outs one s r)
  have ne : ∀ r, Let w r → 0 < (T r).length := fun r hr => by
    obtain ⟨u, hu, e⟩ := all r hr
    exact List.length_pos_of_mem (a := u) (List.mem_filter.mpr ⟨hu, by simpa using e⟩)
  obtain ⟨n, ⟨r, hr, hn⟩, hleast⟩ := least_nat (p := fun n => ∃ r, Let w r ∧ (T r).length = n) _ ⟨[], Let.nil, rfl⟩
  have sub : ∀ r q, ∀ u, u ∈ T (r ++ q) → u ∈ T r := fun r q u hu => by
    have hu := List.mem_filter.mp hu
    refine List.mem_filter.mpr ⟨hu.1, ?_⟩
    have e : outs other u (r ++ q) = outs one s (r ++ q) := by simpa using hu.2
    rw [outs_app, outs_app] at e
    simpa using (List.append_inj e (by rw [outs_len, outs_len])).1
  have nd : ∀ r, (T r).Nodup := fun r => (up_nodup (up_range _)).filter _
  have same : ∀ q, Let w q → ∀ u, u ∈ T r → u ∈ T (r ++ q) := fun q hq u hu => by
    rcases Classical.em (u ∈ T (r ++ q)) with c | c
    · exact c
    · exfalso
      have a := nodup_len (l := u :: T (r ++ q)) (l' := T r) (List.nodup_cons.mpr ⟨c, nd _⟩) (fun y hy => by
        rcases List.mem_cons.mp hy with e | e
        · rw [e]; exact hu
        · exact sub r q y e)
      rw [List.length_cons] at a
      exact hleast (T (r ++ q)).length (by omega) ⟨r ++ q, hr.app hq, rfl⟩
  have pos := ne r hr
  obtain ⟨u, hu⟩ := List.exists_mem_of_length_pos pos
  have hul : u < other.length := List.mem_range.mp (List.mem_filter.mp hu).1
  refine ⟨List.replicate b 0 ++ r, h0.app hr, (mem_good k k').mpr ⟨?_, run other u r, k'.runlt hul hr, fun q hq => ?_⟩⟩
  · rw [run_app, he]; exact k.runlt hsl hr
  · rw [run_app, he]
    have e : outs other u (r ++ q) = outs one s (r ++ q) := by simpa using (List.mem_filter.mp (same q hq u hu)).2
    rw [outs_app, outs_app] at e
    exact (List.append_inj e (by rw [outs_len, outs_len])).2.symm
end

/-! ### the search by levels -/
/-- seen so far, and of these the level whose successors are not looked at -/
structure Lev (w : Nat) (one other : Mc) (qs seen level : List Sta) : Prop where
  sub : ∀ q ∈ level, q ∈ seen
  full : ∀ q ∈ seen, q.2 ≠ []
  done : ∀ q ∈ seen, q ∉ level → ∀ x, x < w → succS one other q x ∈ seen
  init : ∀ q ∈ qs, q ∈ seen
  from_ : ∀ q ∈ seen, ∃ q0 ∈ qs, ∃ r, Let w r ∧ runQ one other q0 r = q
section
variable {one other : Mc} {w : Nat} {qs seen level : List Sta}
theorem Lev.start (h : ∀ q ∈ qs, q.2 ≠ []) : Lev w one other qs qs qs :=
  ⟨fun _ h => h, h, fun q h1 h2 => absurd h1 h2, fun _ h => h, fun q h => ⟨q, h, [], Let.nil, rfl⟩⟩
theorem Lev.stop (V : Lev w one other qs seen []) : ¬ Bad w one other qs := by
  rintro ⟨q, hq, r, hr, e⟩
  have key : ∀ (r : Row) (q : Sta), Let w r → q ∈ seen → runQ one other q r ∈ seen := by
    intro r
    induction r with
    | nil => exact fun q _ h => h
    | cons x r ih => exact fun q hr h => ih _ hr.tail (V.done q h (by simp) x hr.head)
  exact V.full _ (key r q hr (V.init q hq)) e
theorem Lev.fails (V : Lev w one other qs seen level) {q : Sta} (hq : q ∈ level) {x : Nat} (hx : x < w) (e : (succS one other q x).2 = []) : Bad w one other qs := by
  obtain ⟨q0, h0, r, hr, rfl⟩ := V.from_ q (V.sub q hq)
  exact ⟨q0, h0, r ++ [x], hr.app (Let.nil.cons hx), by rw [runQ_app]; exact e⟩
theorem Lev.next (V : Lev w one other qs seen level) {seen' level' : List Sta} (h1 : ∀ q ∈ seen, q ∈ seen') (h2 : ∀ q ∈ level', q ∈ seen') (h3 : ∀ q ∈ seen', q ∈ seen ∨ q ∈ level')
    (h4 : ∀ q ∈ level, ∀ x, x < w → succS one other q x ∈ seen') (h5 : ∀ q ∈ level', q.2 ≠ [] ∧ ∃ p ∈ level, ∃ x, x < w ∧ q = succS one other p x) : Lev w one other qs seen' level' := by
  refine ⟨h2, fun q hq => ?_, fun q hq hn x hx => ?_, fun q hq => h1 q (V.init q hq), fun q hq => ?_⟩
  · rcases h3 q hq with h | h
    · exact V.full q h
    · exact (h5 q h).1
  · rcases h3 q hq with h | h
    · by_cases c : q ∈ level
      · exact h4 q c x hx
      · exact h1 _ (V.done q h c x hx)
    · exact absurd h hn
  · rcases h3 q hq with h | h
    · exact V.from_ q h
    · obtain ⟨_, p, hp, x, hx, rfl⟩ := h5 q h
      obtain ⟨q0, h0, r, hr, rfl⟩ := V.from_ p (V.sub p hp)
      exact ⟨q0, h0, r ++ [x], hr.app (Let.nil.cons hx), by rw [runQ_app]; rfl⟩
/-- all states that may be seen -/
def allSta (n n' : Nat) : List Sta := (List.range n).flatMap fun s => (subs n').map fun S => (s, S)
theorem allSta_len (n n' : Nat) : (allSta n n').length = n * 2 ^ n' := by
  unfold allSta
  rw [List.length_flatMap]
  have : (List.range n).map (fun s => ((subs n').map fun S => (s, S)).length) = (List.range n).map fun _ => 2 ^ n' := List.map_congr_left fun s _ => by rw [List.length_map, subs_len]
  rw [this]
  have key : ∀ c n : Nat, ((List.range n).map fun _ => c).sum = n * c := by
    intro c n
    induction n with
    | zero => simp
    | succ n ih =>
      rw [List.range_succ, List.map_append, List.sum_append, ih, Nat.succ_mul]
      simp
  exact key _ _
def Fits (n n' : Nat) (q : Sta) : Prop := q.1 < n ∧ Up q.2 ∧ ∀ t ∈ q.2, t < n'
theorem mem_allSta {n n' : Nat} {q : Sta} (h : Fits n n' q) : q ∈ allSta n n' :=
  List.mem_flatMap.mpr ⟨q.1, List.mem_range.mpr h.1, List.mem_map.mpr ⟨q.2, mem_subs h.2.1 h.2.2, rfl⟩⟩
theorem succ_fits (k : Ok one w) (k' : Ok other w) {q : Sta} (h : Fits one.length other.length q) {x : Nat} (hx : x < w) : Fits one.length other.length (succS one other q x) := by
  refine ⟨k.nxlt h.1 hx, up_asSet _, fun t ht => ?_⟩
  obtain ⟨u, hu, rfl⟩ := List.mem_map.mp (mem_asSet.mp ht)
  exact k'.nxlt (h.2.2 u (List.mem_filter.mp hu).1) hx
theorem seen_bd {n n' : Nat} (hd : seen.Nodup) (h : ∀ q ∈ seen, Fits n n' q) : seen.length ≤ n * 2 ^ n' := by
  rw [← allSta_len]
  exact nodup_len hd fun q hq => mem_allSta (h q hq)
end
end W97
end
section
set_option autoImplicit false
/-! The written pairs: their first shortest plain rows, by computation. -/
namespace W97
def mHold : Mc := [[(0, 0)]]
def mOnce : Mc := [[(0, 0)], [(0, 1)]]
def mFlip : Mc := [[(1, 0)], [(0, 1)]]
def mStill : Mc := [[(0, 0)], [(1, 1)]]
def mWait : Mc := [[(0, 1), (1, 1)], [(1, 0), (1, 0)]]
def mZero : Mc := [[(0, 0), (0, 0)]]
def mSplit : Mc := [[(1, 0), (2, 0)], [(1, 2), (1, 2)], [(2, 3), (2, 3)]]
def mBoth : Mc := [[(2, 0), (3, 1)], [(2, 1), (3, 0)], [(2, 2), (2, 2)], [(3, 3), (3, 3)]]
def mLast : Mc := [[(1, 1), (0, 1)], [(0, 1), (2, 1)], [(2, 0), (2, 0)]]
def mZero4 : Mc := [[(0, 0), (0, 0), (0, 0), (0, 0)]]
def tenLate (s x : Nat) : Nat := if x = 0 ∧ s = 1 then 0 else if 0 < x ∧ s = x then x + 1 else if 0 < x ∧ s = x + 1 then x else s
def tenRow (s : Nat) : List (Nat × Nat) := (List.range 4).map fun x => (tenLate s x, 1)
def mTen : Mc := [(0, 0), (0, 0), (0, 0), (0, 0)] :: (List.range 4).map fun i => tenRow (1 + i)
/-- one written pair: letters, machines, the row -/
structure Wr where
  w : Nat
  near : Mc
  far : Mc
  row : Option Row
def written : List Wr := [⟨1, mOnce, mHold, some [0]⟩, ⟨1, mHold, mOnce, some []⟩, ⟨1, mFlip, mHold, none⟩, ⟨2, mWait, mZero, some [1]⟩, ⟨1, mStill, mStill, some []⟩,
  ⟨2, mSplit, mBoth, some [0]⟩, ⟨2, mBoth, mSplit, some [0]⟩, ⟨1, mStill, mFlip, none⟩, ⟨2, mZero, mWait, some []⟩, ⟨2, mLast, mZero, some [1, 0, 1]⟩]
def okB (m : Mc) (w : Nat) : Bool := decide (0 < m.length) && decide (0 < w) && m.all (fun r => decide (r.length = w)) && m.all fun r => r.all fun p => decide (p.1 < m.length)
theorem ok_of {m : Mc} {w : Nat} (h : okB m w = true) : Ok m w := by
  unfold okB at h
  simp only [Bool.and_eq_true, List.all_eq_true, decide_eq_true_eq] at h
  obtain ⟨⟨⟨a, b⟩, c⟩, d⟩ := h
  exact ⟨a, b, c, d⟩
theorem written_ok : ∀ p ∈ written, Ok p.near p.w ∧ Ok p.far p.w ∧ p.near.length ≤ 5 ∧ p.far.length ≤ 5 ∧ due p.w p.near p.far = p.row := by
  have h : written.all (fun p => okB p.near p.w && okB p.far p.w && decide (p.near.length ≤ 5) && decide (p.far.length ≤ 5) && decide (due p.w p.near p.far = p.row)) = true := by decide +kernel
  intro p hp
  have q := List.all_eq_true.mp h p hp
  simp only [Bool.and_eq_true, decide_eq_true_eq] at q
  obtain ⟨⟨⟨⟨a, b⟩, c⟩, d⟩, e⟩ := q
  exact ⟨ok_of a, ok_of b, c, d, e⟩
theorem ten_ok : Ok mTen 4 := ok_of (by decide +kernel)
theorem zero4_ok : Ok mZero4 4 := ok_of (by decide +kernel)
theorem ten_due : (due 4 mTen mZero4).map List.length = some 10 := by decide +kernel
end W97
end
section
set_option Elab.async false
set_option linter.all false
set_option maxRecDepth 100000
set_option maxHeartbeats 1000000
namespace W97
open PySem PySem.Spec PyProof.Rows L2
/-! ### data as keys -/
mutual
def keyD : PyData → NestedKey
  | .int i => .num i
  | .tuple ds => .tup (keyDs ds)
  | .none => .none
  | .bool _ => .none
  | .str _ => .none
  | .list _ => .none
  | .dict _ => .none
def keyDs : List PyData → List NestedKey
  | [] => []
  | d :: ds => keyD d :: keyDs ds
/-- ints, tuples -/
def nest : PyData → Bool
  | .int _ => true
  | .tuple ds => nestAll ds
  | .none => false
  | .bool _ => false
  | .str _ => false
  | .list _ => false
  | .dict _ => false
def nestAll : List PyData → Bool
  | [] => true
  | d :: ds => nest d && nestAll ds
end
mutual
theorem keyD_inj : ∀ d e : PyData, nest d = true → nest e = true → keyD d = keyD e → d = e
  | .int i, .int j, _, _, h => by rw [keyD, keyD] at h; injection h with h; rw [h]
  | .tuple ds, .tuple es, h1, h2, h => by
    rw [keyD, keyD] at h
    injection h with h
    rw [nest] at h1 h2
    rw [keyDs_inj ds es h1 h2 h]
  | .int i, .tuple es, _, _, h => by rw [keyD, keyD] at h; cases h
  | .tuple ds, .int j, _, _, h => by rw [keyD, keyD] at h; cases h
  | .none, _, h, _, _ => by simp [nest] at h
  | .bool _, _, h, _, _ => by simp [nest] at h
  | .str _, _, h, _, _ => by simp [nest] at h
  | .list _, _, h, _, _ => by simp [nest] at h
  | .dict _, _, h, _, _ => by simp [nest] at h
  | .int _, .none, _, h, _ => by simp [nest] at h
  | .int _, .bool _, _, h, _ => by simp [nest] at h
  | .int _, .str _, _, h, _ => by simp [nest] at h
  | .int _, .list _, _, h, _ => by simp [nest] at h
  | .int _, .dict _, _, h, _ => by simp [nest] at h
  | .tuple _, .none, _, h, _ => by simp [nest] at h
  | .tuple _, .bool _, _, h, _ => by simp [nest] at h
  | .tuple _, .str _, _, h, _ => by simp [nest] at h
  | .tuple _, .list _, _, h, _ => by simp [nest] at h
  | .tuple _, .dict _, _, h, _ => by simp [nest] at h
theorem keyDs_inj : ∀ d e : List PyData, nestAll d = true → nestAll e = true → keyDs d = keyDs e → d = e
  | [], [], _, _, _ => rfl
  | x :: xs, y :: ys, h1, h2, h => by
    rw [keyDs, keyDs] at h
    injection h with e1 e2
    rw [nestAll, Bool.and_eq_true] at h1 h2
    rw [keyD_inj x y h1.1 h2.1 e1, keyDs_inj xs ys h1.2 h2.2 e2]
  | [], _ :: _, _, _, h => by rw [keyDs, keyDs] at h; cases h
  | _ :: _, [], _, _, h => by rw [keyDs, keyDs] at h; cases h
end
mutual
theorem keyD_depth : ∀ d : PyData, (keyD d).depth ≤ d.depth
  | .int i => by simp [keyD, NestedKey.depth]
  | .tuple ds => by
    have := keyDs_depth ds
    simp only [keyD, NestedKey.depth, PyData.depth]
    omega
  | .none => by simp [keyD, NestedKey.depth]
  | .bool _ => by simp [keyD, NestedKey.depth]
  | .str _ => by simp [keyD, NestedKey.depth]
  | .list _ => by simp [keyD, NestedKey.depth]
  | .dict _ => by simp [keyD, NestedKey.depth]
theorem keyDs_depth : ∀ ds : List PyData, NestedKey.depthAll (keyDs ds) ≤ PyData.depthAll ds
  | [] => by simp [keyDs, NestedKey.depthAll]
  | d :: ds => by
    have := keyD_depth d
    have := keyDs_depth ds
    simp only [keyDs, NestedKey.depthAll, PyData.depthAll]
    omega
end
mutual
theorem reads_nest {h : Heap} : ∀ (d : PyData) (v : Value) (as : List Addr), Reads h v d as → nest d = true → as = [] ∧ NestedIs h (keyD d) v
  | .int i, _, _, r, _ => by cases r; rw [keyD]; exact ⟨rfl, .int _ _⟩
  | .tuple ds, _, _, r, n => by
    cases r with
    | tuple h1 h2 h3 h4 =>
      rw [nest] at n
      obtain ⟨e, q⟩ := reads_nests ds _ _ h4 n
      rw [keyD]
      exact ⟨e, .tup h1 h2 h3 q⟩
  | .none, _, _, _, n => by simp [nest] at n
  | .bool _, _, _, _, n => by simp [nest] at n
  | .str _, _, _, _, n => by simp [nest] at n
  | .list _, _, _, _, n => by simp [nest] at n
  | .dict _, _, _, _, n => by simp [nest] at n
theorem reads_nests {h : Heap} : ∀ (ds : List PyData) (vs : List Value) (as : List Addr), ReadsAll h vs ds as → nestAll ds = true → as = [] ∧ NestedAll h (keyDs ds) vs
  | [], _, _, r, _ => by cases r; rw [keyDs]; exact ⟨rfl, .nil⟩
  | d :: ds, _, _, r, n => by
    cases r with
    | cons h1 h2 =>
      rw [nestAll, Bool.and_eq_true] at n
      obtain ⟨e1, q1⟩ := reads_nest d _ _ h1 n.1
      obtain ⟨e2, q2⟩ := reads_nests ds _ _ h2 n.2
      rw [keyDs]
      exact ⟨by rw [e1, e2]; rfl, .cons q1 q2⟩
end
end W97
end
section
set_option Elab.async false
set_option linter.all false
set_option maxRecDepth 100000
set_option maxHeartbeats 1000000
/-! A layer over the abstract heap: slots that hold data (tuples of tuples), lists of data, dicts, the law's feed; readings without a heap. -/
namespace W97
open PySem PySem.Spec PyProof.Rows L2

/-! ### data: scalars and tuples of data -/
mutual
inductive DV (K : PySem.W.Frag) (H : Hp) : V → PyData → Prop
  | non : DV K H .non .none
  | bl (b : Bool) : DV K H (.bl b) (.bool b)
  | int (i : Int) : DV K H (.int i) (.int i)
  | str (x : Str) : DV K H (.str x) (.str x)
  | tup {a : Addr} {xs : List V} {ds : List PyData} : SqT K H a xs → DVs K H xs ds → DV K H (.ref a) (.tuple ds)
inductive DVs (K : PySem.W.Frag) (H : Hp) : List V → List PyData → Prop
  | nil : DVs K H [] []
  | cons {v : V} {vs : List V} {d : PyData} {ds : List PyData} : DV K H v d → DVs K H vs ds → DVs K H (v :: vs) (d :: ds)
end
mutual
theorem DV.dp {K : PySem.W.Frag} {H : Hp} : ∀ {d : PyData} {v : V}, DV K H v d → Dp K H v d
  | .none, _, h => by cases h; exact .non
  | .bool b, _, h => by cases h; exact .bl b
  | .int i, _, h => by cases h; exact .int i
  | .str x, _, h => by cases h; exact .str x
  | .tuple ds, _, h => by
    cases h with
    | tup hs ha => exact .tup hs (DVs.dp ha)
  | .list ds, _, h => by cases h
  | .dict ds, _, h => by cases h
theorem DVs.dp {K : PySem.W.Frag} {H : Hp} : ∀ {ds : List PyData} {vs : List V}, DVs K H vs ds → DpAll K H vs ds
  | [], _, h => by cases h; exact .nil
  | d :: ds, _, h => by
    cases h with
    | cons h1 h2 => exact .cons (DV.dp h1) (DVs.dp h2)
end
/-- what nothing changes: tuples, locked objects, code, made functions -/
def Hard (b : Addr) (o : HO) : Prop := (∃ xs, o = .tup xs) ∨ (∃ ob u, o = .frz ob u) ∨ (∃ q, o = LamX.CodeO b q) ∨ ∃ F, o = NdefX.FnO b F
theorem Hard.tup {b : Addr} {xs : List V} : Hard b (.tup xs) := .inl ⟨xs, rfl⟩
theorem Hard.frz {b : Addr} {ob : Obj} {u : HO} : Hard b (.frz ob u) := .inr (.inl ⟨ob, u, rfl⟩)
theorem Hard.code {b : Addr} {q : Str} : Hard b (LamX.CodeO b q) := .inr (.inr (.inl ⟨q, rfl⟩))
theorem Hard.fno {b : Addr} {F : NdefX.NF} : Hard b (NdefX.FnO b F) := .inr (.inr (.inr ⟨F, rfl⟩))
theorem Hard.ntbl {b : Addr} {o : HO} (h : Hard b o) (ps : Array Value) : o ≠ .tbl ps := fun z => by
  rcases h with ⟨_, h⟩ | ⟨_, _, h⟩ | ⟨_, h⟩ | ⟨_, h⟩ <;> rw [h] at z
  · cases z
  · cases z
  · unfold LamX.CodeO at z; cases z
  · unfold NdefX.FnO at z; cases z
theorem Hard.ndk {b : Addr} {o : HO} (h : Hard b o) (kvs : List (Key × V)) : o ≠ .dK kvs := fun z => by
  rcases h with ⟨_, h⟩ | ⟨_, _, h⟩ | ⟨_, h⟩ | ⟨_, h⟩ <;> rw [h] at z
  · cases z
  · cases z
  · unfold LamX.CodeO at z; cases z
  · unfold NdefX.FnO at z; cases z
/-- .. stays -/
def TK (H H' : Hp) : Prop := ∀ b o, H b = some o → Hard b o → H' b = some o
theorem TK.refl {H : Hp} : TK H H := fun _ _ h _ => h
theorem TK.trans {H H1 H2 : Hp} (a : TK H H1) (b : TK H1 H2) : TK H H2 := fun c o h k => b c o (a c o h k) k
/-- what is true as long as such things stay -/
def Pinned (P : Hp → V → Prop) : Prop := ∀ H H' v, TK H H' → P H v → P H' v
theorem TK.sq {K : PySem.W.Frag} {H H' : Hp} (t : TK H H') {a : Addr} {xs : List V} (h : SqT K H a xs) : SqT K H' a xs := by
  rcases h with (h | ⟨o, h⟩) | h
  · exact .inl (.inl (t a _ h .tup))
  · exact .inl (.inr ⟨o, t a _ h .frz⟩)
  · exact .inr h
mutual
theorem DV.keep {K : PySem.W.Frag} {H H' : Hp} (t : TK H H') : ∀ {d : PyData} {v : V}, DV K H v d → DV K H' v d
  | .none, _, h => by cases h; exact .non
  | .bool b, _, h => by cases h; exact .bl b
  | .int i, _, h => by cases h; exact .int i
  | .str x, _, h => by cases h; exact .str x
  | .tuple ds, _, h => by
    cases h with
    | tup hs ha => exact .tup (t.sq hs) (DVs.keep t ha)
  | .list ds, _, h => by cases h
  | .dict ds, _, h => by cases h
theorem DVs.keep {K : PySem.W.Frag} {H H' : Hp} (t : TK H H') : ∀ {ds : List PyData} {vs : List V}, DVs K H vs ds → DVs K H' vs ds
  | [], _, h => by cases h; exact .nil
  | d :: ds, _, h => by
    cases h with
    | cons h1 h2 => exact .cons (DV.keep t h1) (DVs.keep t h2)
end
theorem DVs.len {K : PySem.W.Frag} {H : Hp} : ∀ {ds : List PyData} {vs : List V}, DVs K H vs ds → vs.length = ds.length
  | [], _, h => by cases h; rfl
  | _ :: _, _, h => by
    cases h with
    | cons _ h2 => exact congrArg Nat.succ h2.len
theorem DVs.app {K : PySem.W.Frag} {H : Hp} : ∀ {ds es : List PyData} {vs us : List V}, DVs K H vs ds → DVs K H us es → DVs K H (vs ++ us) (ds ++ es)
  | [], _, _, _, h, h' => by cases h; exact h'
  | _ :: _, _, _, _, h, h' => by
    cases h with
    | cons h1 h2 => exact .cons h1 (h2.app h')
theorem DVs.at {K : PySem.W.Frag} {H : Hp} : ∀ {ds : List PyData} {vs : List V} {i : Nat} {d : PyData}, DVs K H vs ds → ds[i]? = some d → ∃ v, vs[i]? = some v ∧ DV K H v d
  | [], _, _, _, _, e => by simp at e
  | d0 :: ds, _, 0, d, h, e => by
    cases h with
    | cons h1 h2 =>
      simp at e
      subst e
      exact ⟨_, rfl, h1⟩
  | d0 :: ds, _, i + 1, d, h, e => by
    cases h with
    | cons h1 h2 =>
      obtain ⟨v, a, b⟩ := h2.at (i := i) (d := d) (by simpa using e)
      exact ⟨v, by simpa using a, b⟩
theorem DVs.at' {K : PySem.W.Frag} {H : Hp} {ds : List PyData} {vs : List V} {i : Nat} {v : V} (h : DVs K H vs ds) (e : vs[i]? = some v) : ∃ d, ds[i]? = some d ∧ DV K H v d := by
  have hi : i < ds.length := by rw [← h.len]; exact (List.getElem?_eq_some_iff.mp e).1
  obtain ⟨u, a, b⟩ := h.at (List.getElem?_eq_getElem hi)
  rw [e] at a
  cases a
  exact ⟨_, List.getElem?_eq_getElem hi, b⟩
theorem DVs.tl {K : PySem.W.Frag} {H : Hp} {ds : List PyData} {vs : List V} (h : DVs K H vs ds) : DVs K H vs.tail ds.tail := by
  cases h with
  | nil => exact .nil
  | cons _ h2 => exact h2
theorem DVs.ints {K : PySem.W.Frag} {H : Hp} : ∀ ns : List Int, DVs K H (ns.map V.int) (ns.map PyData.int)
  | [] => .nil
  | n :: ns => .cons (.int n) (DVs.ints ns)
theorem DVs.of_ints {K : PySem.W.Frag} {H : Hp} : ∀ {ns : List Int} {vs : List V}, DVs K H vs (ns.map PyData.int) → vs = ns.map V.int
  | [], _, h => by cases h; rfl
  | n :: ns, _, h => by
    cases h with
    | cons h1 h2 =>
      cases h1
      rw [DVs.of_ints h2]; rfl
theorem DVs.of_bools {K : PySem.W.Frag} {H : Hp} : ∀ {bs : List Bool} {vs : List V}, DVs K H vs (bs.map PyData.bool) → vs = bs.map V.bl
  | [], _, h => by cases h; rfl
  | n :: ns, _, h => by
    cases h with
    | cons h1 h2 =>
      cases h1
      rw [DVs.of_bools h2]; rfl

/-! ### the law's feed -/
def sx (s : String) : Key := .inr (Str.ofString s)
def feedK (ca : Addr) (n r t : Int) : List (Key × V) := [(sx "cells", .ref ca), (sx "next", .int n), (sx "rest", .int r), (sx "turn", .int t)]
def IsFeed (ca : Addr) (H : Hp) (a : Addr) : Prop := ∃ (cs : List Int) (n r t : Int), H a = some (.dK (feedK ca n r t)) ∧ H ca = some (.lst (cs.map V.int)) ∧ cs.length ≤ 63 ∧ 0 ≤ n

/-! ### dicts -/
/-- the dict at p: keys (nested tuples) with where they stand, values -/
def DctO (w : World) (p : Addr) (es : List (NestedKey × Addr × V)) : HO := .ext fun h => (p == sysModules) = false ∧ ∃ xs : List (NestedKey × Addr × Value), Paired (fun (a : NestedKey × Addr × V) (b : NestedKey × Addr × Value) => a.1 = b.1 ∧ a.2.1 = b.2.1 ∧ RelV a.2.2 b.2.2) es xs ∧
  ∃ (o : Obj) (es2 : Array DictEntry) (ep : Nat), h.get? p = some o ∧ o.ExactDict ∧ o.data = .dict es2 ep ∧ es2.toList = xs.map (fun x => ⟨x.1.hash w, .ref x.2.1, x.2.2⟩) ∧ (xs.map (·.1)).Nodup
def Ents (K : PySem.W.Frag) (H : Hp) : List (NestedKey × Addr × V) → List (PyData × PyData) → Prop := Paired fun e kv => e.1 = keyD kv.1 ∧ nest kv.1 = true ∧ kv.1.depth ≤ 8 ∧ DV K H (.ref e.2.1) kv.1 ∧ DV K H e.2.2 kv.2
/-- keys that are ints -/
def EntsI (K : PySem.W.Frag) (H : Hp) : List (Key × V) → List (PyData × PyData) → Prop := Paired fun e kv => (∃ i : Int, e.1 = .inl i ∧ kv.1 = .int i) ∧ DV K H e.2 kv.2
def DObj (K : PySem.W.Frag) (wd : Option World) (H : Hp) (p : Addr) (o : HO) (kvs : List (PyData × PyData)) : Prop :=
  (∃ w es, wd = some w ∧ o = DctO w p es ∧ Ents K H es kvs) ∨ ∃ es, o = .dK es ∧ EntsI K H es kvs ∧ kvs ≠ []
theorem paired_imp {α β : Type} {F G : α → β → Prop} (h : ∀ a b, F a b → G a b) : ∀ {l : List α} {m : List β}, Paired F l m → Paired G l m
  | _, _, .nil => .nil
  | _, _, .cons a t => .cons (h _ _ a) (paired_imp h t)
theorem DObj.keep {K : PySem.W.Frag} {wd : Option World} {H H' : Hp} {p : Addr} {o : HO} {kvs : List (PyData × PyData)} (t : TK H H') (x : DObj K wd H p o kvs) : DObj K wd H' p o kvs := by
  rcases x with ⟨w, es, e1, e2, x⟩ | ⟨es, e, x, n⟩
  · exact .inl ⟨w, es, e1, e2, paired_imp (fun a b ⟨h1, h2, h3, h4, h5⟩ => ⟨h1, h2, h3, DV.keep t h4, DV.keep t h5⟩) x⟩
  · exact .inr ⟨es, e, paired_imp (fun a b ⟨h1, h2⟩ => ⟨h1, DV.keep t h2⟩) x, n⟩
theorem dct_ne_code {w : World} {c : Addr} {es : List (NestedKey × Addr × V)} {q : Str} : DctO w c es ≠ LamX.CodeO c q := fun z => by
  injection z with z
  let ob : Obj := { cls := .none, data := .fields #[.none, .str q 0] }
  let hh : Heap := { objs := Array.replicate (c + 1) ob }
  have hg : hh.get? c = some ob := by
    show (match (Array.replicate (c + 1) ob)[c]? with | some ⟨_, _, .freed, _⟩ => none | o => o) = some ob
    rw [Array.getElem?_replicate, if_pos (Nat.lt_succ_self c)]
  have hc : ∃ (oc : Obj) (vs : Array Value) (t : Tok), hh.get? c = some oc ∧ oc.data = .fields vs ∧ vs[1]? = some (.str q t) := ⟨ob, _, 0, hg, rfl, rfl⟩
  rw [← congrFun z hh] at hc
  obtain ⟨_, xs, _, o, es2, ep, h1, _, h2, _⟩ := hc
  rw [hg] at h1
  cases h1
  cases h2
theorem dct_ne_fno {w : World} {c : Addr} {es : List (NestedKey × Addr × V)} {F : NdefX.NF} : DctO w c es ≠ NdefX.FnO c F := fun z => by
  injection z with z
  let ob : Obj := ⟨.type "function", none, .func (F.fd .none .none .none), #[]⟩
  let hh : Heap := { objs := Array.replicate (c + 1) ob }
  have hg : hh.get? c = some ob := by
    show (match (Array.replicate (c + 1) ob)[c]? with | some ⟨_, _, .freed, _⟩ => none | o => o) = some ob
    rw [Array.getElem?_replicate, if_pos (Nat.lt_succ_self c)]
  have hf : ∃ (od : Option Addr) (sl : Array (Option Value)) (doc pm ctv : Value), hh.get? c = some (⟨.type "function", od, .func (F.fd doc pm ctv), sl⟩ : Obj) := ⟨none, #[], .none, .none, .none, hg⟩
  rw [← congrFun z hh] at hf
  obtain ⟨_, xs, _, o, es2, ep, h1, _, h2, _⟩ := hf
  rw [hg] at h1
  cases h1
  cases h2
/-- what own objects can be changed: no table, no code, no tuple -/
structure Loose (p : Addr) (o : HO) : Prop where
  tbl : ∀ ps, o ≠ .tbl ps
  code : ∀ q, o ≠ LamX.CodeO p q
  tup : ∀ xs, o ≠ .tup xs
  frz : ∀ ob u, o ≠ .frz ob u
  fno : ∀ F, o ≠ NdefX.FnO p F
theorem Loose.soft {p : Addr} {o : HO} (l : Loose p o) : ¬ Hard p o := fun h => by
  rcases h with ⟨xs, h⟩ | ⟨ob, u, h⟩ | ⟨q, h⟩ | ⟨F, h⟩
  · exact l.tup _ h
  · exact l.frz _ _ h
  · exact l.code _ h
  · exact l.fno _ h
theorem Loose.lst {p : Addr} {xs : List V} : Loose p (.lst xs) := ⟨(fun _ z => by cases z), (fun _ z => by unfold LamX.CodeO at z; cases z), (fun _ z => by cases z), (fun _ _ z => by cases z), (fun _ z => by unfold NdefX.FnO at z; cases z)⟩
theorem DObj.loose {K : PySem.W.Frag} {wd : Option World} {H : Hp} {p : Addr} {o : HO} {kvs : List (PyData × PyData)} (x : DObj K wd H p o kvs) : Loose p o := by
  rcases x with ⟨w, es, _, e, _⟩ | ⟨es, e, _⟩ <;> subst e
  · exact ⟨(fun _ z => by unfold DctO at z; cases z), (fun _ z => dct_ne_code z), (fun _ z => by unfold DctO at z; cases z), (fun _ _ z => by unfold DctO at z; cases z), (fun _ z => dct_ne_fno z)⟩
  · exact ⟨(fun _ z => by cases z), (fun _ z => by unfold LamX.CodeO at z; cases z), (fun _ z => by cases z), (fun _ _ z => by cases z), (fun _ z => by unfold NdefX.FnO at z; cases z)⟩
theorem DObj.nofeed {K : PySem.W.Frag} {wd : Option World} {H : Hp} {p ca : Addr} {o : HO} {n r t : Int} {kvs : List (PyData × PyData)} (x : DObj K wd H p o kvs) : o ≠ .dK (feedK ca n r t) := fun z => by
  rcases x with ⟨w, es, _, e, _⟩ | ⟨es, e, x, _⟩ <;> subst e
  · unfold DctO at z; cases z
  · injection z with z
    subst z
    cases x with
    | cons a _ =>
      obtain ⟨⟨i, e, _⟩, _⟩ := a
      cases e
/-! ### what a piece of code leaves as it was -/
/-- tb: the tables of code objects that may grow; fa: where the feed stands; phi: what is known of the heap at the entry -/
structure Mo where
  tb : Option (List NdefX.NTab) := none
  fa : Option Addr := none
  ca : Addr := 0
  wd : Option World := none
  phi : Hp → Prop := fun _ => True
structure Gr (m : Mo) (H H' : Hp) : Prop where
  keep : ∀ b o, H b = some o → (m.tb = none ∨ ∀ ps, o ≠ .tbl ps) → m.fa ≠ some b → H' b = some o
  tabs : ∀ T, m.tb = some T → NdefX.TabsN T H → NdefX.TabsN T H'
  free : ∀ b, H' b = none → H b = none
  feed : ∀ a, m.fa = some a → IsFeed m.ca H a → IsFeed m.ca H' a
def FeedAt (m : Mo) (H : Hp) : Prop := ∀ a, m.fa = some a → IsFeed m.ca H a
section
variable {m m' : Mo} {H H1 H2 H' : Hp}
theorem Gr.refl : Gr m H H := ⟨fun _ _ h _ _ => h, fun _ _ h => h, fun _ h => h, fun _ _ h => h⟩
theorem Gr.trans (a : Gr m H H1) (b : Gr m H1 H2) : Gr m H H2 :=
  ⟨fun c o h n f => b.keep c o (a.keep c o h n f) n f, fun T e h => b.tabs T e (a.tabs T e h), fun c h => a.free c (b.free c h), fun c e h => b.feed c e (a.feed c e h)⟩
/-- all that is tracked stays -/
theorem Gr.same (h : ∀ b o, H b = some o → H' b = some o) : Gr m H H' :=
  ⟨fun b o e _ _ => h b o e, fun T _ t => t.ext h, fun b e => by
    (cases q : H b with
    | none => rfl
    | some o => rw [h b o q] at e; cases e), fun a _ ⟨cs, n, r, t, h1, h2, h3, h4⟩ => ⟨cs, n, r, t, h a _ h1, h _ _ h2, h3, h4⟩⟩
theorem Gr.new {p : Addr} {o : HO} (h : H p = none) : Gr m H (upd H p o) := Gr.same fun b u e => by rw [upd_ne (ne_of_none e h)]; exact e
theorem FeedAt.ne (f : FeedAt m H) {b : Addr} {o : HO} (e : H b = some o) (ho : ∀ kvs, o ≠ .dK kvs) : m.fa ≠ some b := fun z => by
  obtain ⟨cs, n, r, t, h1, _⟩ := f b z
  rw [e] at h1
  exact ho _ (Option.some.inj h1)
theorem FeedAt.neF (f : FeedAt m H) {b : Addr} {o : HO} (e : H b = some o) (ho : ∀ n r t, o ≠ .dK (feedK m.ca n r t)) : m.fa ≠ some b := fun z => by
  obtain ⟨cs, n, r, t, h1, _⟩ := f b z
  rw [e] at h1
  exact ho _ _ _ (Option.some.inj h1)
/-- what a callee of another mode leaves: it knows no feed, or the same; no tables, or the same -/
theorem Gr.into (g : Gr m' H H') (f : FeedAt m H) (hf : m'.fa = none ∨ (m'.fa = m.fa ∧ m'.ca = m.ca)) (ht : m'.tb = none ∨ m'.tb = m.tb) : Gr m H H' := by
  have kp : ∀ b o, H b = some o → (m.tb = none ∨ ∀ ps, o ≠ .tbl ps) → m.fa ≠ some b → H' b = some o := fun b o e n z => by
    refine g.keep b o e ?_ ?_
    · rcases ht with q | q
      · exact .inl q
      · rw [q]; exact n
    · rcases hf with q | q
      · rw [q]; exact fun z => by cases z
      · rw [q.1]; exact z
  refine ⟨kp, fun T e t => ?_, g.free, fun a e x => ?_⟩
  · rcases ht with q | q
    · intro p hp
      obtain ⟨ps, h1, h2, h3⟩ := t p hp
      have kp2 : ∀ b o, H b = some o → (∀ kvs, o ≠ .dK kvs) → H' b = some o := fun b o e2 n => by
        refine g.keep b o e2 (.inl q) ?_
        rcases hf with q2 | q2
        · rw [q2]; exact fun z => by cases z
        · rw [q2.1]; exact f.ne e2 n
      refine ⟨ps, kp2 _ _ h1 (fun kvs z => by cases z), h2, fun pos cv hc => ?_⟩
      obtain ⟨c, a1, a2⟩ := h3 pos cv hc
      exact ⟨c, a1, kp2 _ _ a2 fun kvs z => by unfold LamX.CodeO at z; cases z⟩
    · exact g.tabs T (q.trans e) t
  · rcases hf with q | q
    · obtain ⟨cs, n, r, t, h1, h2, h3, h4⟩ := x
      have kp2 : ∀ b o, H b = some o → (∀ ps, o ≠ .tbl ps) → H' b = some o := fun b o e2 n => g.keep b o e2 (.inr n) (by rw [q]; exact fun z => by cases z)
      exact ⟨cs, n, r, t, kp2 _ _ h1 (fun ps z => by cases z), kp2 _ _ h2 (fun ps z => by cases z), h3, h4⟩
    · have z := g.feed a (q.1.trans e) (by rw [q.2]; exact x)
      rw [q.2] at z
      exact z
/-- an object that was not there is changed -/
theorem Gr.mut (g : Gr m H H1) {p : Addr} {o1 o2 : HO} (h0 : H p = none) (h : H1 p = some o1) (l : Loose p o1) : Gr m H (upd H1 p o2) := by
  have ne : ∀ b o, H b = some o → b ≠ p := fun b o e => ne_of_none e h0
  have ext : ∀ b o, H1 b = some o → (b = p → o ≠ o1) → upd H1 p o2 b = some o := fun b o e n => by
    rw [upd_ne (fun z => n z (by rw [z, h] at e; exact (Option.some.inj e).symm))]
    exact e
  refine ⟨fun b o e n z => by rw [upd_ne (ne b o e)]; exact g.keep b o e n z, fun T e t q hq => ?_, fun b e => ?_, fun a e x => ?_⟩
  · obtain ⟨ps, h1, h2, h3⟩ := g.tabs T e t q hq
    refine ⟨ps, ext _ _ h1 (fun _ z => l.tbl ps z.symm), h2, fun pos cv hc => ?_⟩
    obtain ⟨c, a1, a2⟩ := h3 pos cv hc
    exact ⟨c, a1, ext _ _ a2 (fun ec z => l.code _ (by rw [← z, ec]))⟩
  · by_cases z : b = p
    · rw [z]; exact h0
    · rw [upd_ne z] at e; exact g.free b e
  · obtain ⟨cs, n, r, t, h1, h2, h3, h4⟩ := g.feed a e x
    obtain ⟨cs', n', r', t', k1, k2, _, _⟩ := x
    exact ⟨cs, n, r, t, by rw [upd_ne (ne _ _ k1)]; exact h1, by rw [upd_ne (ne _ _ k2)]; exact h2, h3, h4⟩
theorem Gr.tk (g : Gr m H H') (f : FeedAt m H) : TK H H' :=
  fun b o h k => g.keep b o h (.inr k.ntbl) (f.ne h k.ndk)
theorem FeedAt.go (f : FeedAt m H) (g : Gr m H H') : FeedAt m H' := fun a e => g.feed a e (f a e)
theorem Gr.lst (g : Gr m H H') (f : FeedAt m H) {p : Addr} {xs : List V} (h : H p = some (.lst xs)) : H' p = some (.lst xs) :=
  g.keep p _ h (.inr fun ps e => by cases e) (f.ne h fun kvs e => by cases e)
theorem Gr.dct {K : PySem.W.Frag} {wd : Option World} {H2 : Hp} (g : Gr m H H') (f : FeedAt m H) {p : Addr} {o : HO} {kvs : List (PyData × PyData)} (h : H p = some o) (x : DObj K wd H2 p o kvs) : H' p = some o :=
  g.keep p _ h (.inr x.loose.tbl) (f.neF h fun _ _ _ => x.nofeed)
theorem Gr.sql {K : PySem.W.Frag} (g : Gr m H H') (f : FeedAt m H) {p : Addr} {xs : List V} (h : SqL K H p xs) : SqL K H' p xs := by
  rcases h with (h | ⟨o, h⟩) | h
  · exact .inl (.inl (g.lst f h))
  · exact .inl (.inr ⟨o, g.tk f _ _ h .frz⟩)
  · exact .inr h
end

/-! ### what a slot holds, what an expression gives -/
/-- a list: one's own (it may be changed), one that stood at the entry, one that is not changed any more -/
inductive LK where
  | own
  | par
  | fz
inductive Bd where
  | dat (d : PyData)
  | lst (k : LK) (ds : List PyData)
  | feed
  | val (v : V)
  /-- some value -/
  | any
  /-- a dict (own, or not changed any more): read by its slot alone -/
  | dct (k : LK) (kvs : List (PyData × PyData))
  /-- a value of which only P is known -/
  | pr (P : Hp → V → Prop) (k : Pinned P)
def Bd.own : Bd → Bool
  | .lst .own _ => true
  | .dct .own _ => true
  | _ => false
/-- what a read of a name gives -/
def Bd.read : Bd → Bd
  | .lst _ ds => .lst .par ds
  | .dct _ _ => .any
  | b => b
abbrev Ab : Type := List (Option Bd)
/-- read as a list -/
def IsL (K : PySem.W.Frag) (H : Hp) (v : V) (ds : List PyData) : Prop := ∃ p vs, v = .ref p ∧ SqL K H p vs ∧ DVs K H vs ds
/-- a dict -/
def IsD (K : PySem.W.Frag) (m : Mo) (H : Hp) (v : V) (kvs : List (PyData × PyData)) : Prop := ∃ p o, v = .ref p ∧ H p = some o ∧ DObj K m.wd H p o kvs
def holds (K : PySem.W.Frag) (m : Mo) (HE H0 H : Hp) (v : V) : Bd → Prop
  | .dat d => DV K H v d
  | .lst .own ds => ∃ p vs, v = .ref p ∧ H p = some (.lst vs) ∧ DVs K H vs ds ∧ H0 p = none
  | .lst .par ds => IsL K HE v ds
  | .lst .fz ds => IsL K H0 v ds
  | .feed => ∃ a, m.fa = some a ∧ v = .ref a
  | .val x => v = x
  | .any => True
  | .dct .own kvs => ∃ p o, v = .ref p ∧ H p = some o ∧ DObj K m.wd H p o kvs ∧ H0 p = none
  | .dct .par _ => False
  | .dct .fz kvs => IsD K m H0 v kvs
  | .pr P _ => P H v
/-- an expression's value: own, a new list (ahead H, behind H') -/
def hr (K : PySem.W.Frag) (m : Mo) (H H' : Hp) (v : V) : Bd → Prop
  | .dat d => DV K H' v d
  | .lst .own ds => ∃ p vs, v = .ref p ∧ H p = none ∧ H' p = some (.lst vs) ∧ DVs K H' vs ds
  | .lst .par ds => IsL K H' v ds
  | .lst .fz ds => IsL K H' v ds
  | .feed => ∃ a, m.fa = some a ∧ v = .ref a
  | .val x => v = x
  | .any => True
  | .dct .own kvs => ∃ p o, v = .ref p ∧ H p = none ∧ H' p = some o ∧ DObj K m.wd H' p o kvs
  | .dct .par _ => False
  | .dct .fz _ => False
  | .pr P _ => P H' v
/-- HE: the heap at the entry; H0: what is not changed any more -/
structure SSt (K : PySem.W.Frag) (m : Mo) (HE H0 : Hp) (ρ : Ab) (σ : L2.St) (H : Hp) : Prop where
  phi : m.phi HE
  ent : Gr m HE H0
  gr : Gr m H0 H
  fe : FeedAt m HE
  tb : ∀ T, m.tb = some T → NdefX.TabsN T HE
  len : ρ.length = σ.length
  slots : ∀ (i : Nat) (b : Bd), ρ[i]? = some (some b) → ∃ v, σ[i]? = some (some v) ∧ holds K m HE H0 H v b
  apart : ∀ (i j : Nat) (b b' : Bd) (v : V), i ≠ j → ρ[i]? = some (some b) → ρ[j]? = some (some b') → b.own = true → b'.own = true → σ[i]? = some (some v) → σ[j]? = some (some v) → False
section
variable {X : Cx} {K : PySem.W.Frag} {m : Mo} {HE H0 H H1 H2 : Hp} {ρ : Ab} {σ : L2.St}
theorem SSt.fe0 (S : SSt K m HE H0 ρ σ H) : FeedAt m H0 := S.fe.go S.ent
theorem SSt.fe1 (S : SSt K m HE H0 ρ σ H) : FeedAt m H := S.fe0.go S.gr
theorem SSt.tabs (S : SSt K m HE H0 ρ σ H) : ∀ T, m.tb = some T → NdefX.TabsN T H := fun T e => S.gr.tabs T e (S.ent.tabs T e (S.tb T e))
theorem IsL.go {v : V} {ds : List PyData} (h : IsL K H v ds) (g : Gr m H H1) (f : FeedAt m H) : IsL K H1 v ds := by
  obtain ⟨p, vs, e, h1, h2⟩ := h
  exact ⟨p, vs, e, g.sql f h1, h2.keep (g.tk f)⟩
theorem IsD.go {v : V} {kvs : List (PyData × PyData)} (h : IsD K m H v kvs) (g : Gr m H H1) (f : FeedAt m H) : IsD K m H1 v kvs := by
  obtain ⟨p, o, e, h1, h2⟩ := h
  exact ⟨p, o, e, g.dct f h1 h2, h2.keep (g.tk f)⟩
theorem holds_go {v : V} {b : Bd} (h : holds K m HE H0 H v b) (g : Gr m H H1) (f : FeedAt m H) : holds K m HE H0 H1 v b := by
  cases b with
  | dat d => exact DV.keep (g.tk f) h
  | lst o ds =>
    cases o with
    | own => obtain ⟨p, vs, e, h1, h2, h3⟩ := h; exact ⟨p, vs, e, g.lst f h1, h2.keep (g.tk f), h3⟩
    | par => exact h
    | fz => exact h
  | feed => exact h
  | val x => exact h
  | any => exact True.intro
  | pr P k => exact k _ _ _ (g.tk f) h
  | dct k kvs =>
    cases k with
    | own => obtain ⟨p, o, e, h1, h2, h3⟩ := h; exact ⟨p, o, e, g.dct f h1 h2, h2.keep (g.tk f), h3⟩
    | par => exact h
    | fz => exact h
theorem SSt.go (S : SSt K m HE H0 ρ σ H) (g : Gr m H H1) : SSt K m HE H0 ρ σ H1 :=
  ⟨S.phi, S.ent, S.gr.trans g, S.fe, S.tb, S.len, fun i b e => let ⟨v, a, h⟩ := S.slots i b e; ⟨v, a, holds_go h g S.fe1⟩, S.apart⟩
theorem hr_go {v : V} {b : Bd} (h : hr K m H H1 v b) (g : Gr m H1 H2) (f : FeedAt m H1) : hr K m H H2 v b := by
  cases b with
  | dat d => exact DV.keep (g.tk f) h
  | lst o ds =>
    cases o with
    | own => obtain ⟨p, vs, e, h1, h2, h3⟩ := h; exact ⟨p, vs, e, h1, g.lst f h2, h3.keep (g.tk f)⟩
    | par => exact IsL.go h g f
    | fz => exact IsL.go h g f
  | feed => exact h
  | val x => exact h
  | any => exact True.intro
  | pr P k => exact k _ _ _ (g.tk f) h
  | dct k kvs =>
    cases k with
    | own => obtain ⟨p, o, e, h1, h2, h3⟩ := h; exact ⟨p, o, e, h1, g.dct f h2 h3, h3.keep (g.tk f)⟩
    | par => exact h
    | fz => exact h
theorem hr_back {v : V} {b : Bd} (h : hr K m H1 H2 v b) (g : Gr m H H1) : hr K m H H2 v b := by
  cases b with
  | lst o ds =>
    cases o with
    | own => obtain ⟨p, vs, e, h1, h2, h3⟩ := h; exact ⟨p, vs, e, g.free p h1, h2, h3⟩
    | par => exact h
    | fz => exact h
  | dct k kvs =>
    cases k with
    | own => obtain ⟨p, o, e, h1, h2, h3⟩ := h; exact ⟨p, o, e, g.free p h1, h2, h3⟩
    | par => exact h
    | fz => exact h
  | _ => exact h
theorem hr_lst {v : V} {o : LK} {ds : List PyData} (h : hr K m H H1 v (.lst o ds)) : IsL K H1 v ds := by
  cases o with
  | own => obtain ⟨p, vs, e, _, h2, h3⟩ := h; exact ⟨p, vs, e, .of h2, h3⟩
  | par => exact h
  | fz => exact h
/-- a value as it is read -/
theorem hr_read {v : V} {b : Bd} (h : hr K m H H1 v b) : hr K m H1 H1 v b.read := by
  cases b with
  | dat d => exact h
  | lst o ds => exact hr_lst h
  | feed => exact h
  | val x => exact h
  | any => exact True.intro
  | pr P k => exact h
  | dct k kvs => exact True.intro
theorem holds_read {v : V} {b : Bd} (S : SSt K m HE H0 ρ σ H) (h : holds K m HE H0 H v b) : hr K m H H v b.read := by
  cases b with
  | dat d => exact h
  | lst o ds =>
    cases o with
    | own => obtain ⟨p, vs, e, h1, h2, _⟩ := h; exact ⟨p, vs, e, .of h1, h2⟩
    | par => exact (IsL.go h S.ent S.fe).go S.gr S.fe0
    | fz => exact IsL.go h S.gr S.fe0
  | feed => exact h
  | val x => exact h
  | any => exact True.intro
  | pr P k => exact h
  | dct k kvs => exact True.intro

/-! ### readings: expressions -/
/-- the weakest reading of an expression -/
def ew (X : Cx) (e : Expr) : TE := fun σ H Qv => ∀ pins s, Inv X pins σ H s → wpAny (model X.prog X.w) X.A (eval e X.env) (EP X pins σ Qv) X.xe s
theorem pe_ew (X : Cx) (e : Expr) : PE X e (ew X e) := ⟨fun pins s _ _ _ I h => h pins s I⟩
theorem ew_of {e : Expr} {te : TE} (h : PE X e te) {Qv : VK} (q : te σ H Qv) : ew X e σ H Qv := fun pins s I => h.run pins s σ H Qv I q
def EQ (X : Cx) (m : Mo) (ρ : Ab) (e : Expr) (Q : Bd → Prop) : Prop :=
  ∀ σ H HE H0, SSt X.K m HE H0 ρ σ H → ∀ Qv : VK, (∀ v b H', Gr m H H' → hr X.K m H H' v b → Q b → Qv v H') → ew X e σ H Qv
abbrev ED (X : Cx) (m : Mo) (ρ : Ab) (e : Expr) (d : PyData) : Prop := EQ X m ρ e (· = .dat d)
theorem EQ.mono {e : Expr} {Q Q' : Bd → Prop} (h : EQ X m ρ e Q) (q : ∀ b, Q b → Q' b) : EQ X m ρ e Q' := fun σ H HE H0 S Qv k => h σ H HE H0 S Qv fun v b H' g r z => k v b H' g r (q b z)
/-- a test -/
def tw (X : Cx) (e : Expr) : TT := fun σ H Q => ∀ pins s, Inv X pins σ H s → wpAny (model X.prog X.w) X.A (isTrue e X.env (eval e X.env)) (TP X pins σ Q) X.xe s
theorem pt_tw (X : Cx) (e : Expr) : PT X e (tw X e) := ⟨fun pins s _ _ _ I h => h pins s I⟩
def TQ (X : Cx) (m : Mo) (ρ : Ab) (e : Expr) (Q : Bool → Prop) : Prop :=
  ∀ σ H HE H0, SSt X.K m HE H0 ρ σ H → ∀ Qv : Bool → Hp → Prop, (∀ c H', Gr m H H' → Q c → Qv c H') → tw X e σ H Qv
theorem TQ.mono {e : Expr} {Q Q' : Bool → Prop} (h : TQ X m ρ e Q) (q : ∀ b, Q b → Q' b) : TQ X m ρ e Q' := fun σ H HE H0 S Qv k => h σ H HE H0 S Qv fun c H' g z => k c H' g (q c z)

/-! ### names and constants -/
theorem eq_var {i : Nat} {x : Str} {pos : Pos} {b : Bd} {Q : Bd → Prop} (hi : ρ[i]? = some (some b)) (hN : X.N[i]? = some x) (hv : Vis X.env.scope x)
    (q : Q b.read) (hd : (x == ("__debug__" : Str)) = false := by decide) (hcd : (x == ("__classdict__" : Str)) = false := by decide) : EQ X m ρ (.Name x pos) Q := by
  intro σ H HE H0 S Qv k
  obtain ⟨v, hv', h⟩ := S.slots i b hi
  exact ew_of (pe_var hN hv hd hcd) ⟨v, hv', k v _ H Gr.refl (holds_read S h) q⟩
theorem ed_var {i : Nat} {x : Str} {pos : Pos} {d : PyData} (hi : ρ[i]? = some (some (.dat d))) (hN : X.N[i]? = some x) (hv : Vis X.env.scope x) (hd : (x == ("__debug__" : Str)) = false := by decide) (hcd : (x == ("__classdict__" : Str)) = false := by decide) :
    ED X m ρ (.Name x pos) d := eq_var hi hN hv rfl hd hcd
theorem eq_c {e : Expr} {v : V} {d : PyData} (h : PE X e (tC v)) (hd : ∀ H, DV X.K H v d) : ED X m ρ e d := fun σ H HE H0 S Qv k => ew_of h (k v (.dat d) H Gr.refl (hd H) rfl)
theorem ed_int {i j pos} : ED X m ρ (.Constant (.int i) j pos) (.int i) := eq_c pe_int fun _ => .int i
theorem ed_bl {b j pos} : ED X m ρ (.Constant (.bool b) j pos) (.bool b) := eq_c pe_bl fun _ => .bl b
theorem ed_non {j pos} : ED X m ρ (.Constant .none j pos) .none := eq_c pe_non fun _ => .non
theorem ed_str {x j pos} : ED X m ρ (.Constant (.str x) j pos) (.str x) := eq_c pe_str fun _ => .str x
/-- one expression behind another -/
theorem ew_then {e : Expr} {Q : Bd → Prop} (h : EQ X m ρ e Q) (S : SSt X.K m HE H0 ρ σ H) {Qv : VK} (k : ∀ v b H', Gr m H H' → SSt X.K m HE H0 ρ σ H' → hr X.K m H H' v b → Q b → Qv v H') : ew X e σ H Qv :=
  h σ H HE H0 S Qv fun v b H' g r q => k v b H' g (S.go g) r q
theorem tw_then {e : Expr} {Q : Bool → Prop} (h : TQ X m ρ e Q) (S : SSt X.K m HE H0 ρ σ H) {Qv : Bool → Hp → Prop} (k : ∀ c H', Gr m H H' → SSt X.K m HE H0 ρ σ H' → Q c → Qv c H') : tw X e σ H Qv :=
  h σ H HE H0 S Qv fun c H' g q => k c H' g (S.go g) q
end
end W97
end
section
set_option Elab.async false
set_option linter.all false
set_option maxRecDepth 100000
set_option maxHeartbeats 1000000
namespace W97
open PySem PySem.Spec PyProof.Rows L2

/-! ### kinds of data: what they are written as, told apart by == -/
class PyEnc (α : Type) [DecidableEq α] where
  enc : α → PyData
  eqv : ∀ a b, PyData.eqv (enc a) (enc b) = decide (a = b)
  lay : ∀ a, (enc a).canLay0 = true
  dep : Nat
  depth : ∀ a, (enc a).depth ≤ dep
open PyEnc (enc)
section
variable {α β : Type} [DecidableEq α] [DecidableEq β] [PyEnc α] [PyEnc β]
theorem eqvAll_map : ∀ l l' : List α, PyData.eqvAll (l.map enc) (l'.map enc) = decide (l = l')
  | [], [] => by simp [PyData.eqvAll]
  | [], _ :: _ => by simp [PyData.eqvAll]
  | _ :: _, [] => by simp [PyData.eqvAll]
  | a :: l, b :: l' => by
    simp only [List.map_cons, PyData.eqvAll, PyEnc.eqv, eqvAll_map l l', List.cons.injEq, Bool.decide_and]
theorem layAll_map : ∀ l : List α, PyData.canLayAll0 (l.map enc) = true
  | [] => by simp [PyData.canLayAll0]
  | a :: l => by simp [PyData.canLayAll0, PyEnc.lay, layAll_map l]
theorem depthAll_map : ∀ l : List α, PyData.depthAll (l.map enc) ≤ PyEnc.dep α
  | [] => by simp [PyData.depthAll]
  | a :: l => by
    have := depthAll_map l
    have := PyEnc.depth a
    simp only [List.map_cons, PyData.depthAll]
    omega
instance : PyEnc Nat where
  enc n := .int n
  eqv a b := by
    simp only [PyData.eqv]
    rw [Bool.eq_iff_iff]
    simp [Int.ofNat_inj]
  lay a := by simp [PyData.canLay0]
  dep := 0
  depth a := by simp [PyData.depth]
instance : PyEnc Bool where
  enc b := .bool b
  eqv a b := by cases a <;> cases b <;> simp [PyData.eqv]
  lay a := by simp [PyData.canLay0]
  dep := 0
  depth a := by simp [PyData.depth]
instance : PyEnc (α × β) where
  enc p := .tuple [enc p.1, enc p.2]
  eqv a b := by
    obtain ⟨a1, a2⟩ := a
    obtain ⟨b1, b2⟩ := b
    simp only [PyData.eqv, PyData.eqvAll, PyEnc.eqv, Prod.mk.injEq, Bool.decide_and, Bool.and_true]
  lay a := by simp [PyData.canLay0, PyData.canLayAll0, PyEnc.lay]
  dep := max (PyEnc.dep α) (PyEnc.dep β) + 1
  depth a := by
    have := PyEnc.depth a.1
    have := PyEnc.depth a.2
    simp only [PyData.depth, PyData.depthAll]
    omega
instance : PyEnc (List α) where
  enc l := .tuple (l.map enc)
  eqv a b := by simp only [PyData.eqv, eqvAll_map]
  lay a := by simp [PyData.canLay0, layAll_map]
  dep := PyEnc.dep α + 1
  depth a := by
    have := depthAll_map a
    simp only [PyData.depth]
    omega
theorem shaped_enc {a : α} (h : PyEnc.dep α ≤ 64) : SeqAt.shaped (enc a) = true := by
  show ((enc a).canLay0 && decide ((enc a).depth ≤ 64)) = true
  have := PyEnc.depth a
  rw [PyEnc.lay, Bool.true_and, decide_eq_true_eq]
  omega
theorem shaped_list {l : List α} (h : PyEnc.dep α ≤ 63) : SeqAt.shaped (.list (l.map enc)) = true := by
  show (PyData.canLay0 (.list (l.map enc)) && decide ((PyData.list (l.map enc)).depth ≤ 64)) = true
  have h1 := depthAll_map l
  have h2 : (PyData.list (l.map enc)).depth ≤ 64 := by
    simp only [PyData.depth]
    omega
  rw [Bool.and_eq_true]
  exact ⟨by simp only [PyData.canLay0]; exact layAll_map l, decide_eq_true h2⟩
end

section
variable {X : Cx} {m : Mo} {HE H0 H H1 H2 : Hp} {ρ : Ab} {σ : L2.St} {a b c e : Expr} {pos : Pos}

/-! ### operators -/
/-- how a value-level rule reads what two expressions give -/
def AR (X : Cx) (m : Mo) (r : R2) (b1 b2 : Bd) (Q : Bd → Prop) : Prop :=
  ∀ (Ha Hb H : Hp) (x y : V), FeedAt m H → hr X.K m Ha H x b1 → hr X.K m Hb H y b2 → ∀ Qv : VK, (∀ v d H', Gr m H H' → hr X.K m H H' v d → Q d → Qv v H') → r x y H Qv
theorem op2 {e2 : Expr} {r : R2} {Q : Bd → Prop} (hp : PE X e2 (tOp r (ew X a) (ew X b))) (h : EQ X m ρ a fun b1 => EQ X m ρ b fun b2 => AR X m r b1 b2 Q) : EQ X m ρ e2 Q := by
  intro σ H HE H0 S Qv k
  refine ew_of hp (ew_then h S fun x b1 H1 g1 S1 r1 h1 => ew_then h1 S1 fun y b2 H2 g2 S2 r2 h2 => ?_)
  refine h2 _ _ H2 x y S2.fe1 (hr_go r1 g2 S1.fe1) r2 Qv fun v d H3 g3 r3 q => ?_
  exact k v d H3 ((g1.trans g2).trans g3) (hr_back r3 (g1.trans g2)) q
theorem eq_bop {op : Operator} {r : R2} {Q : Bd → Prop} (ho : OpR X (binaryOp op) r) (h : EQ X m ρ a fun b1 => EQ X m ρ b fun b2 => AR X m r b1 b2 Q) : EQ X m ρ (.BinOp a op b pos) Q := op2 (pe_op ho (pe_ew X a) (pe_ew X b)) h
theorem eq_cmp {op : CmpOp} {r : R2} {Q : Bd → Prop} (ho : OpR X (compareOp op) r) (hm : behindInMarks op b = false) (h : EQ X m ρ a fun b1 => EQ X m ρ b fun b2 => AR X m r b1 b2 Q) : EQ X m ρ (.Compare a [op] [b] pos) Q :=
  op2 (pe_cmpR ho (pe_ew X a) (pe_ew X b) hm) h
theorem eq_ix {r : R2} {Q : Bd → Prop} (ho : IxR X r) (hs : PlainIx b) (h : EQ X m ρ a fun b1 => EQ X m ρ b fun b2 => AR X m r b1 b2 Q) : EQ X m ρ (.Subscript a b pos) Q := op2 (pe_ix ho (pe_ew X a) (pe_ew X b) hs) h
/-- from two deterministic expressions -/
theorem two {Q : Bd → Prop} {r : R2} {d1 d2 : PyData} (h1 : ED X m ρ a d1) (h2 : ED X m ρ b d2) (q : AR X m r (.dat d1) (.dat d2) Q) : EQ X m ρ a fun b1 => EQ X m ρ b fun b2 => AR X m r b1 b2 Q :=
  h1.mono fun _ e1 => h2.mono fun _ e2 => by rw [e1, e2]; exact q
theorem DV.int_eq {K : PySem.W.Frag} {i : Int} {v : V} (h : DV K H v (.int i)) : v = .int i := by cases h; rfl
theorem DV.bl_eq {K : PySem.W.Frag} {i : Bool} {v : V} (h : DV K H v (.bool i)) : v = .bl i := by cases h; rfl
theorem DV.str_eq {K : PySem.W.Frag} {i : Str} {v : V} (h : DV K H v (.str i)) : v = .str i := by cases h; rfl
theorem DV.non_eq {K : PySem.W.Frag} {v : V} (h : DV K H v .none) : v = .non := by cases h; rfl
theorem DV.tup_eq {K : PySem.W.Frag} {ds : List PyData} {v : V} (h : DV K H v (.tuple ds)) : ∃ p xs, v = .ref p ∧ SqT K H p xs ∧ DVs K H xs ds := by
  cases h with
  | tup hs ha => exact ⟨_, _, rfl, hs, ha⟩
theorem ar_I0 {g : Int → Int → V} {gd : Int → Int → PyData} {i j : Int} (hg : ∀ H i j, DV X.K H (g i j) (gd i j)) : AR X m (rI0 g) (.dat (.int i)) (.dat (.int j)) (· = .dat (gd i j)) := fun Ha Hb H x y _ r1 r2 Qv k =>
  ⟨i, j, DV.int_eq r1, DV.int_eq r2, k _ (.dat (gd i j)) H Gr.refl (hg H i j) rfl⟩
theorem ar_I {C : Int → Int → Prop} {g : Int → Int → V} {gd : Int → Int → PyData} {i j : Int} (hg : ∀ H i j, DV X.K H (g i j) (gd i j)) (hc : C i j) : AR X m (rI C g) (.dat (.int i)) (.dat (.int j)) (· = .dat (gd i j)) := fun Ha Hb H x y _ r1 r2 Qv k =>
  ⟨i, j, DV.int_eq r1, DV.int_eq r2, hc, k _ (.dat (gd i j)) H Gr.refl (hg H i j) rfl⟩
variable {i j : Int}
theorem ed_add (h1 : ED X m ρ a (.int i)) (h2 : ED X m ρ b (.int j)) : ED X m ρ (.BinOp a .Add b pos) (.int (i + j)) := eq_bop op_add (two h1 h2 (ar_I0 fun _ _ _ => .int _))
theorem ed_sub (h1 : ED X m ρ a (.int i)) (h2 : ED X m ρ b (.int j)) : ED X m ρ (.BinOp a .Sub b pos) (.int (i - j)) := eq_bop op_sub (two h1 h2 (ar_I0 fun _ _ _ => .int _))
theorem ed_mul (h1 : ED X m ρ a (.int i)) (h2 : ED X m ρ b (.int j)) (hc : CMul i j) : ED X m ρ (.BinOp a .Mult b pos) (.int (i * j)) := eq_bop op_mul (two h1 h2 (ar_I (gd := fun i j => .int (i * j)) (fun _ _ _ => .int _) hc))
theorem ed_mod (h1 : ED X m ρ a (.int i)) (h2 : ED X m ρ b (.int j)) (hc : 0 < j) : ED X m ρ (.BinOp a .Mod b pos) (.int (i % j)) := eq_bop op_mod (two h1 h2 (ar_I (gd := fun i j => .int (i % j)) (fun _ _ _ => .int _) hc))
theorem ed_fdiv (h1 : ED X m ρ a (.int i)) (h2 : ED X m ρ b (.int j)) (hc : CDiv i j) : ED X m ρ (.BinOp a .FloorDiv b pos) (.int (i / j)) := eq_bop op_fdiv (two h1 h2 (ar_I (gd := fun i j => .int (i / j)) (fun _ _ _ => .int _) hc))
theorem ed_pow (h1 : ED X m ρ a (.int i)) (h2 : ED X m ρ b (.int j)) (hc : CPow i j) : ED X m ρ (.BinOp a .Pow b pos) (.int (i ^ j.toNat)) := eq_bop op_pow (two h1 h2 (ar_I (gd := fun i j => .int (i ^ j.toNat)) (fun _ _ _ => .int _) hc))
theorem ed_neg (h1 : ED X m ρ a (.int i)) : ED X m ρ (.UnaryOp .USub a pos) (.int (-i)) := by
  intro σ H HE H0 S Qv k
  refine ew_of (pe_un un_neg (pe_ew X a)) (ew_then h1 S fun x b1 H1 g1 S1 r1 e1 => ?_)
  subst e1
  exact ⟨i, DV.int_eq r1, k _ (.dat (.int (-i))) H1 g1 (.int _) rfl⟩
theorem ed_lt (h1 : ED X m ρ a (.int i)) (h2 : ED X m ρ b (.int j)) : ED X m ρ (.Compare a [.Lt] [b] pos) (.bool (decide (i < j))) := eq_cmp op_lt (nomark _) (two h1 h2 (ar_I0 fun _ _ _ => .bl _))
theorem ed_gt (h1 : ED X m ρ a (.int i)) (h2 : ED X m ρ b (.int j)) : ED X m ρ (.Compare a [.Gt] [b] pos) (.bool (decide (j < i))) := eq_cmp op_gt (nomark _) (two h1 h2 (ar_I0 (gd := fun i j => .bool (decide (j < i))) fun _ _ _ => .bl _))
theorem ed_ge (h1 : ED X m ρ a (.int i)) (h2 : ED X m ρ b (.int j)) : ED X m ρ (.Compare a [.GtE] [b] pos) (.bool (decide (j ≤ i))) := eq_cmp op_ge (nomark _) (two h1 h2 (ar_I0 (gd := fun i j => .bool (decide (j ≤ i))) fun _ _ _ => .bl _))
theorem ed_le (h1 : ED X m ρ a (.int i)) (h2 : ED X m ρ b (.int j)) : ED X m ρ (.Compare a [.LtE] [b] pos) (.bool (decide (i ≤ j))) := eq_cmp op_le (nomark _) (two h1 h2 (ar_I0 (gd := fun i j => .bool (decide (i ≤ j))) fun _ _ _ => .bl _))
/-- what can be compared as data -/
def AsD (d : PyData) : Bd → Prop
  | .dat x => x = d
  | .lst _ ds => .list ds = d
  | _ => False
theorem AsD.dp {K : PySem.W.Frag} {v : V} {bd : Bd} {d : PyData} (h : AsD d bd) (r : hr K m H1 H v bd) : Dp K H v d := by
  cases bd with
  | dat x =>
    have h : x = d := h
    rw [← h]; exact DV.dp r
  | lst o ds =>
    have h : PyData.list ds = d := h
    obtain ⟨p, vs, e, h1, h2⟩ := hr_lst r
    rw [e, ← h]
    exact .lst h1 h2.dp
  | feed => exact h.elim
  | val x => exact h.elim
  | any => exact h.elim
  | pr P k => exact h.elim
  | dct k kvs => exact h.elim
theorem EQ.asD {e : Expr} {d : PyData} (h : ED X m ρ e d) : EQ X m ρ e (AsD d) := h.mono fun b e => by rw [e]; exact (rfl : d = d)
theorem EQ.asL {e : Expr} {o : LK} {ds : List PyData} (h : EQ X m ρ e (· = .lst o ds)) : EQ X m ρ e (AsD (.list ds)) := h.mono fun b e => by rw [e]; exact (rfl : PyData.list ds = .list ds)
theorem twoD {Q : Bd → Prop} {r : R2} {d1 d2 : PyData} (h1 : EQ X m ρ a (AsD d1)) (h2 : EQ X m ρ b (AsD d2)) (q : ∀ b1 b2, AsD d1 b1 → AsD d2 b2 → AR X m r b1 b2 Q) : EQ X m ρ a fun b1 => EQ X m ρ b fun b2 => AR X m r b1 b2 Q :=
  h1.mono fun _ e1 => h2.mono fun _ e2 => q _ _ e1 e2
variable {d1 d2 : PyData}
theorem ed_eqD {k : Nat} {w : Room k X.A} (h1 : EQ X m ρ a (AsD d1)) (h2 : EQ X m ρ b (AsD d2)) (s1 : SeqAt.shaped d1 = true) (s2 : SeqAt.shaped d2 = true) : ED X m ρ (.Compare a [.Eq] [b] pos) (.bool (PyData.eqv d1 d2)) :=
  eq_cmp (op_eqD w.units) (nomark _) (twoD h1 h2 fun b1 b2 e1 e2 Ha Hb H x y _ r1 r2 Qv k => ⟨d1, d2, e1.dp r1, e2.dp r2, s1, s2, k _ (.dat (.bool (PyData.eqv d1 d2))) H Gr.refl (.bl _) rfl⟩)
theorem ed_neD {k : Nat} {w : Room k X.A} (h1 : EQ X m ρ a (AsD d1)) (h2 : EQ X m ρ b (AsD d2)) (s1 : SeqAt.shaped d1 = true) (s2 : SeqAt.shaped d2 = true) : ED X m ρ (.Compare a [.NotEq] [b] pos) (.bool (!PyData.eqv d1 d2)) :=
  eq_cmp (op_neD w.units) (nomark _) (twoD h1 h2 fun b1 b2 e1 e2 Ha Hb H x y _ r1 r2 Qv k => ⟨d1, d2, e1.dp r1, e2.dp r2, s1, s2, k _ (.dat (.bool (!PyData.eqv d1 d2))) H Gr.refl (.bl _) rfl⟩)
/-- x in t, t a tuple of data -/
def rInT (K : PySem.W.Frag) : R2 := fun x y H Q => ∃ d ds, Dp K H x d ∧ Dp K H y (.tuple ds) ∧ SeqAt.shaped d = true ∧ SeqAt.shaped (.tuple ds) = true ∧ Q (.bl (ds.any fun z => PyData.eqv z d)) H
theorem op_inT (hu : X.A.units + 65 < cLine) : OpR X (compareOp .In) (rInT X.K) := by
  intro pins s σ H x y v u Q I rx ry h
  obtain ⟨d, ds, hd, he, sd, se, q⟩ := h
  obtain ⟨as, q1⟩ := Dp.reads I d x v hd rx
  obtain ⟨bs, q2⟩ := Dp.reads I (.tuple ds) y u he ry
  exact SeqAt.in_tuple_reads q2 q1 (SeqAt.canLay_of_shaped se) (SeqAt.canLay_of_shaped sd) (room_in_shaped sd hu) ⟨.bl _, H, I, rfl, q⟩
theorem units65 {k : Nat} {A : Around} (r : Room k A) : A.units + 65 < cLine := by have := r.un; omega
theorem ed_inL {k : Nat} {w : Room k X.A} {ds : List PyData} (h1 : EQ X m ρ a (AsD d1)) (h2 : EQ X m ρ b (AsD (.list ds))) (hm : behindInMarks .In b = false) (s1 : SeqAt.shaped d1 = true) (s2 : SeqAt.shaped (.list ds) = true) : ED X m ρ (.Compare a [.In] [b] pos) (.bool (ds.any fun z => PyData.eqv z d1)) :=
  eq_cmp (op_inD (units65 w)) hm (twoD h1 h2 fun b1 b2 e1 e2 Ha Hb H x y _ r1 r2 Qv k => ⟨d1, ds, e1.dp r1, e2.dp r2, s1, s2, k _ (.dat (.bool _)) H Gr.refl (.bl _) rfl⟩)
theorem ed_niL {k : Nat} {w : Room k X.A} {ds : List PyData} (h1 : EQ X m ρ a (AsD d1)) (h2 : EQ X m ρ b (AsD (.list ds))) (hm : behindInMarks .NotIn b = false) (s1 : SeqAt.shaped d1 = true) (s2 : SeqAt.shaped (.list ds) = true) : ED X m ρ (.Compare a [.NotIn] [b] pos) (.bool (!ds.any fun z => PyData.eqv z d1)) :=
  eq_cmp (op_notInD (units65 w)) hm (twoD h1 h2 fun b1 b2 e1 e2 Ha Hb H x y _ r1 r2 Qv k => ⟨d1, ds, e1.dp r1, e2.dp r2, s1, s2, k _ (.dat (.bool _)) H Gr.refl (.bl _) rfl⟩)
theorem ed_inT {k : Nat} {w : Room k X.A} {ds : List PyData} (h1 : EQ X m ρ a (AsD d1)) (h2 : EQ X m ρ b (AsD (.tuple ds))) (hm : behindInMarks .In b = false) (s1 : SeqAt.shaped d1 = true) (s2 : SeqAt.shaped (.tuple ds) = true) : ED X m ρ (.Compare a [.In] [b] pos) (.bool (ds.any fun z => PyData.eqv z d1)) :=
  eq_cmp (op_inT (units65 w)) hm (twoD h1 h2 fun b1 b2 e1 e2 Ha Hb H x y _ r1 r2 Qv k => ⟨d1, ds, e1.dp r1, e2.dp r2, s1, s2, k _ (.dat (.bool _)) H Gr.refl (.bl _) rfl⟩)
/-- is None -/
def isNoneD : PyData → Bool
  | .none => true
  | _ => false
theorem DV.isN {K : PySem.W.Frag} {v : V} {d : PyData} (h : DV K H v d) : decide (v = .non) = isNoneD d := by
  cases h <;> rfl
theorem ed_isN {j : Nat} {pos' : Pos} (h1 : ED X m ρ a d1) : ED X m ρ (.Compare a [.Is] [.Constant .none j pos'] pos) (.bool (isNoneD d1)) := by
  intro σ H HE H0 S Qv k
  refine ew_of (pe_cmp (pc_isN (pe_ew X a)) rfl) (ew_then h1 S fun x b1 H1 g1 S1 r1 e1 => ?_)
  subst e1
  refine k _ (.dat (.bool (isNoneD d1))) H1 g1 ?_ rfl
  rw [DV.isN r1]
  exact .bl _
theorem ed_notN {j : Nat} {pos' : Pos} (h1 : ED X m ρ a d1) : ED X m ρ (.Compare a [.IsNot] [.Constant .none j pos'] pos) (.bool (!isNoneD d1)) := by
  intro σ H HE H0 S Qv k
  refine ew_of (pe_cmp (pc_notN (pe_ew X a)) rfl) (ew_then h1 S fun x b1 H1 g1 S1 r1 e1 => ?_)
  subst e1
  refine k _ (.dat (.bool (!isNoneD d1))) H1 g1 ?_ rfl
  rw [DV.isN r1]
  exact .bl _
/-! ### subscripts, slices -/
theorem ed_ixT {ds : List PyData} {n : Nat} (h1 : ED X m ρ a (.tuple ds)) (h2 : ED X m ρ b (.int (n : Int))) (hd : ds[n]? = some d1) (hs : PlainIx b) : ED X m ρ (.Subscript a b pos) d1 :=
  eq_ix ix_tup hs (two h1 h2 fun Ha Hb H x y _ r1 r2 Qv k => by
    obtain ⟨p, xs, e, h1, h2⟩ := DV.tup_eq r1
    obtain ⟨v, hv, dv⟩ := h2.at hd
    exact ⟨p, xs, n, v, e, DV.int_eq r2, h1, atI_nat hv, k v (.dat d1) H Gr.refl dv rfl⟩)
theorem ed_ixL {ds : List PyData} {o : LK} {n : Nat} (h1 : EQ X m ρ a (· = .lst o ds)) (h2 : ED X m ρ b (.int (n : Int))) (hd : ds[n]? = some d1) (hs : PlainIx b) : ED X m ρ (.Subscript a b pos) d1 :=
  eq_ix ix_list hs (h1.mono fun b1 e1 => h2.mono fun b2 e2 => by
    subst e1 e2
    intro Ha Hb H x y _ r1 r2 Qv k
    obtain ⟨p, xs, e, h1, h2⟩ := hr_lst r1
    obtain ⟨v, hv, dv⟩ := h2.at hd
    exact ⟨p, xs, n, v, e, DV.int_eq r2, h1, atI_nat hv, k v (.dat d1) H Gr.refl dv rfl⟩)
/-! ### and, or, not, if -/
theorem ed_not {k : Bool} (h : ED X m ρ a (.bool k)) : ED X m ρ (.UnaryOp .Not a pos) (.bool (!k)) := by
  intro σ H HE H0 S Qv kk
  refine ew_of (pe_not (pe_ew X a)) (ew_then h S fun x b1 H1 g1 S1 r1 e1 => ?_)
  subst e1
  exact ⟨k, DV.bl_eq r1, kk _ (.dat (.bool (!k))) H1 g1 (.bl _) rfl⟩
theorem ed_and1 {op} {d : PyData} (h : ED X m ρ a d) : ED X m ρ (.BoolOp op [a] pos) d := by
  intro σ H HE H0 S Qv kk
  exact ew_of (pe_one (pe_ew X a)) (h σ H HE H0 S Qv kk)
theorem ed_and {rest : List Expr} {k l : Bool} (h : ED X m ρ a (.bool k)) (h2 : k = true → ED X m ρ (.BoolOp .And (b :: rest) pos) (.bool l)) : ED X m ρ (.BoolOp .And (a :: b :: rest) pos) (.bool (k && l)) := by
  intro σ H HE H0 S Qv kk
  refine ew_of (pe_and (pe_ew X a) (pe_ew X _)) (ew_then h S fun x b1 H1 g1 S1 r1 e1 => ?_)
  subst e1
  refine ⟨k, DV.bl_eq r1, ?_⟩
  cases k with
  | true => exact (h2 rfl) σ H1 HE H0 S1 Qv fun v b H' g r q => kk v b H' (g1.trans g) (hr_back r g1) q
  | false => exact kk _ (.dat (.bool false)) H1 g1 (.bl _) rfl
theorem ed_or {rest : List Expr} {k l : Bool} (h : ED X m ρ a (.bool k)) (h2 : k = false → ED X m ρ (.BoolOp .Or (b :: rest) pos) (.bool l)) : ED X m ρ (.BoolOp .Or (a :: b :: rest) pos) (.bool (k || l)) := by
  intro σ H HE H0 S Qv kk
  refine ew_of (pe_or (pe_ew X a) (pe_ew X _)) (ew_then h S fun x b1 H1 g1 S1 r1 e1 => ?_)
  subst e1
  refine ⟨k, DV.bl_eq r1, ?_⟩
  cases k with
  | false => exact (h2 rfl) σ H1 HE H0 S1 Qv fun v b H' g r q => kk v b H' (g1.trans g) (hr_back r g1) q
  | true => exact kk _ (.dat (.bool true)) H1 g1 (.bl _) rfl
abbrev TD (X : Cx) (m : Mo) (ρ : Ab) (e : Expr) (k : Bool) : Prop := TQ X m ρ e (· = k)
/-- a test by an expression's bool -/
theorem td_val {k : Bool} (h : ED X m ρ e (.bool k)) (he : ∀ whole, isTrue e X.env whole = (do let v ← whole; standAt e.pos; holding [v] (truthy v)) := by intro _; rfl) : TD X m ρ e k := by
  intro σ H HE H0 S Qv kk pins s I
  refine (pt_val (pe_ew X e) he).run pins s σ H Qv I (ew_then h S fun x b1 H1 g1 S1 r1 e1 => ?_)
  subst e1
  exact ⟨k, DV.bl_eq r1, kk k H1 g1 rfl⟩
theorem td_cmp {op : CmpOp} {k : Bool} (h : ED X m ρ (.Compare a [op] [b] pos) (.bool k)) (hm : behindInMarks op b = false)
    (hh : ∃ r : R2, OpR X (compareOp op) r ∧ EQ X m ρ a fun b1 => EQ X m ρ b fun b2 => AR X m r b1 b2 (· = .dat (.bool k))) : TD X m ρ (.Compare a [op] [b] pos) k := by
  obtain ⟨r, ho, hq⟩ := hh
  intro σ H HE H0 S Qv kk pins s I
  refine (pt_cmpR ho (pe_ew X a) (pe_ew X b) hm).run pins s σ H Qv I (ew_then hq S fun x b1 H1 g1 S1 r1 h1 => ew_then h1 S1 fun y b2 H2 g2 S2 r2 h2 => ?_)
  refine h2 _ _ H2 x y S2.fe1 (hr_go r1 g2 S1.fe1) r2 _ fun v d H3 g3 r3 q => ?_
  subst q
  exact ⟨k, DV.bl_eq r3, kk k H3 ((g1.trans g2).trans g3) rfl⟩
end
end W97
end
section
set_option Elab.async false
set_option linter.all false
set_option maxRecDepth 100000
set_option maxHeartbeats 1000000
namespace W97
open PySem PySem.Spec PyProof.Rows L2 PyEnc

/-! ### argument lists -/
inductive HRs (K : PySem.W.Frag) (m : Mo) (H H' : Hp) : List V → List Bd → Prop
  | nil : HRs K m H H' [] []
  | cons {v vs b bs} : hr K m H H' v b → HRs K m H H' vs bs → HRs K m H H' (v :: vs) (b :: bs)
section
variable {K : PySem.W.Frag} {m : Mo} {H H1 H2 : Hp}
theorem HRs.go : ∀ {bs : List Bd} {vs : List V}, HRs K m H H1 vs bs → Gr m H1 H2 → FeedAt m H1 → HRs K m H H2 vs bs
  | [], _, h, _, _ => by cases h; exact .nil
  | _ :: _, _, h, g, f => by
    cases h with
    | cons a t => exact .cons (hr_go a g f) (t.go g f)
theorem HRs.back : ∀ {bs : List Bd} {vs : List V}, HRs K m H1 H2 vs bs → Gr m H H1 → HRs K m H H2 vs bs
  | [], _, h, _ => by cases h; exact .nil
  | _ :: _, _, h, g => by
    cases h with
    | cons a t => exact .cons (hr_back a g) (t.back g)
theorem HRs.read : ∀ {bs : List Bd} {vs : List V}, HRs K m H H1 vs bs → HRs K m H1 H1 vs (bs.map Bd.read)
  | [], _, h => by cases h; exact .nil
  | _ :: _, _, h => by
    cases h with
    | cons a t => exact .cons (hr_read a) t.read
theorem HRs.len : ∀ {bs : List Bd} {vs : List V}, HRs K m H H1 vs bs → vs.length = bs.length
  | [], _, h => by cases h; rfl
  | _ :: _, _, h => by
    cases h with
    | cons a t => exact congrArg Nat.succ t.len
theorem HRs.data : ∀ {ds : List PyData} {vs : List V}, HRs K m H H1 vs (ds.map Bd.dat) → DVs K H1 vs ds
  | [], _, h => by cases h; exact .nil
  | _ :: _, _, h => by
    cases h with
    | cons a t => exact .cons a t.data
theorem HRs.of_data : ∀ {ds : List PyData} {vs : List V}, DVs K H1 vs ds → HRs K m H H1 vs (ds.map Bd.dat)
  | [], _, h => by cases h; exact .nil
  | _ :: _, _, h => by
    cases h with
    | cons a t => exact .cons a (HRs.of_data t)
theorem HRs.app : ∀ {bs cs : List Bd} {vs us : List V}, HRs K m H H1 vs bs → HRs K m H H1 us cs → HRs K m H H1 (vs ++ us) (bs ++ cs)
  | [], _, _, _, h, h' => by cases h; exact h'
  | _ :: _, _, _, _, h, h' => by
    cases h with
    | cons a t => exact .cons a (t.app h')
theorem HRs.at : ∀ {bs : List Bd} {vs : List V} {i : Nat} {b : Bd}, HRs K m H H1 vs bs → bs[i]? = some b → ∃ v, vs[i]? = some v ∧ hr K m H H1 v b
  | [], _, _, _, _, e => by simp at e
  | _ :: _, _, 0, _, h, e => by
    cases h with
    | cons a t => simp at e; subst e; exact ⟨_, rfl, a⟩
  | _ :: _, _, i + 1, b, h, e => by
    cases h with
    | cons a t =>
      obtain ⟨v, h1, h2⟩ := t.at (i := i) (b := b) (by simpa using e)
      exact ⟨v, by simpa using h1, h2⟩
end
section
variable {X : Cx} {m m' : Mo} {HE H0 H H1 H2 : Hp} {ρ : Ab} {σ : L2.St} {a b c e : Expr} {es : List Expr} {pos : Pos}
def aw (X : Cx) (es : List Expr) : TA := fun σ H Qv => ∀ pos pins s, Inv X pins σ H s → wpAny (model X.prog X.w) X.A (spliced (backTo pos (starEach es X.env))) (AP X pins σ Qv) X.xe s
theorem pa_aw (X : Cx) (es : List Expr) : PA X es (aw X es) := ⟨fun pos pins s _ _ _ I h => h pos pins s I⟩
def AQ (X : Cx) (m : Mo) (ρ : Ab) (es : List Expr) (Q : List Bd → Prop) : Prop :=
  ∀ σ H HE H0, SSt X.K m HE H0 ρ σ H → ∀ Qv : List V → Hp → Prop, (∀ vs bs H', Gr m H H' → HRs X.K m H H' vs bs → Q bs → Qv vs H') → aw X es σ H Qv
theorem aq_nil {Q : List Bd → Prop} (q : Q []) : AQ X m ρ [] Q := fun σ H HE H0 S Qv k pos pins s I => pa_nil.run pos pins s σ H Qv I (k [] [] H Gr.refl .nil q)
theorem aq_cons {Q : List Bd → Prop} (h : EQ X m ρ e fun b => AQ X m ρ es fun bs => Q (b :: bs)) (hs : starEach (e :: es) X.env = (false, eval e X.env) :: starEach es X.env := by rfl) : AQ X m ρ (e :: es) Q := by
  intro σ H HE H0 S Qv k pos pins s I
  refine (pa_cons (pe_ew X e) (pa_aw X es) hs).run pos pins s σ H Qv I (ew_then h S fun v b H1 g1 S1 r1 h1 => ?_)
  exact h1 σ H1 HE H0 S1 _ fun vs bs H2 g2 r2 q => k (v :: vs) (b :: bs) H2 (g1.trans g2) (.cons (hr_go r1 g2 S1.fe1) (r2.back g1)) q
/-- the items of a tuple or a list of data -/
def Items (ds : List PyData) : Bd → Prop
  | .dat d => d = .tuple ds
  | .lst _ es => es = ds
  | _ => False
theorem Items.get {K : PySem.W.Frag} {v : V} {bd : Bd} {ds : List PyData} (h : Items ds bd) (r : hr K m H1 H v bd) : ∃ p vs, v = .ref p ∧ (SqT K H p vs ∨ SqL K H p vs) ∧ DVs K H vs ds := by
  cases bd with
  | dat x =>
    have h : x = .tuple ds := h
    subst h
    obtain ⟨p, xs, e, h1, h2⟩ := DV.tup_eq r
    exact ⟨p, xs, e, .inl h1, h2⟩
  | lst o es =>
    have h : es = ds := h
    subst h
    obtain ⟨p, vs, e, h1, h2⟩ := hr_lst r
    exact ⟨p, vs, e, .inr h1, h2⟩
  | feed => exact h.elim
  | val x => exact h.elim
  | any => exact h.elim
  | pr P k => exact h.elim
  | dct k kvs => exact h.elim
theorem aq_star {ds : List PyData} {p : Pos} {Q : List Bd → Prop} (h : EQ X m ρ e (Items ds)) (h2 : AQ X m ρ es fun bs => Q (ds.map Bd.dat ++ bs)) (hs : starEach (.Starred e p :: es) X.env = (true, eval e X.env) :: starEach es X.env := by rfl) : AQ X m ρ (.Starred e p :: es) Q := by
  intro σ H HE H0 S Qv k pos pins s I
  refine (StX.pa_star (pe_ew X e) (pa_aw X es) hs).run pos pins s σ H Qv I (ew_then h S fun v b H1 g1 S1 r1 h1 => ?_)
  obtain ⟨p, vs, e, hp, dv⟩ := h1.get r1
  refine ⟨p, vs, e, hp, h2 σ H1 HE H0 S1 _ fun us bs H2 g2 r2 q => k (vs ++ us) _ H2 (g1.trans g2) (.app (.of_data (dv.keep (g2.tk S1.fe1))) (r2.back g1)) q⟩
abbrev AD (X : Cx) (m : Mo) (ρ : Ab) (es : List Expr) (ds : List PyData) : Prop := AQ X m ρ es (· = ds.map Bd.dat)
theorem ad_nil : AD X m ρ [] [] := aq_nil rfl
theorem ad_cons {d : PyData} {ds : List PyData} (h : ED X m ρ e d) (h2 : AD X m ρ es ds) (hs : starEach (e :: es) X.env = (false, eval e X.env) :: starEach es X.env := by rfl) : AD X m ρ (e :: es) (d :: ds) :=
  aq_cons (h.mono fun b e1 => by
    subst e1
    exact fun σ H HE H0 S Qv k => h2 σ H HE H0 S Qv fun vs bs H' g r q => k vs bs H' g r (by rw [q]; rfl)) hs
theorem ad_star {p : Pos} {ds es' : List PyData} (h : EQ X m ρ e (Items ds)) (h2 : AD X m ρ es es') (hs : starEach (.Starred e p :: es) X.env = (true, eval e X.env) :: starEach es X.env := by rfl) : AD X m ρ (.Starred e p :: es) (ds ++ es') :=
  aq_star h (fun σ H HE H0 S Qv k => h2 σ H HE H0 S Qv fun vs bs H' g r q => k vs bs H' g r (by rw [q, List.map_append])) hs
theorem EQ.items {ds : List PyData} (h : ED X m ρ e (.tuple ds)) : EQ X m ρ e (Items ds) := h.mono fun b e => by rw [e]; exact (rfl : PyData.tuple ds = .tuple ds)
theorem EQ.itemsL {o : LK} {ds : List PyData} (h : EQ X m ρ e (· = .lst o ds)) : EQ X m ρ e (Items ds) := h.mono fun b e => by rw [e]; exact (rfl : ds = ds)
/-- a tuple, a list display -/
theorem eq_tup {x1 : Nat} {Q : Bd → Prop} (h : AQ X m ρ es fun bs => ∃ ds, bs = ds.map Bd.dat ∧ ds.length ≤ sizeLine ∧ Q (.dat (.tuple ds))) : EQ X m ρ (.Tuple es x1 pos) Q := by
  intro σ H HE H0 S Qv k
  refine ew_of (pe_tup (pa_aw X es)) (h σ H HE H0 S _ fun vs bs H1 g1 r1 q => ?_)
  obtain ⟨ds, e, hl, q⟩ := q
  subst e
  have dv := r1.data
  refine ⟨by rw [dv.len]; exact hl, fun p hp => k _ (.dat (.tuple ds)) _ (g1.trans (Gr.new hp)) ?_ q⟩
  exact .tup (.of upd_same) (dv.keep ((Gr.new (m := {}) hp).tk fun a e => by cases e))
theorem ed_tup {x1 : Nat} {ds : List PyData} (h : AD X m ρ es ds) (hl : ds.length ≤ sizeLine) : ED X m ρ (.Tuple es x1 pos) (.tuple ds) := eq_tup fun σ H HE H0 S Qv k => h σ H HE H0 S Qv fun vs bs H' g r q => k vs bs H' g r ⟨ds, q, hl, rfl⟩
theorem eq_lst {Q : Bd → Prop} (h : AQ X m ρ es fun bs => ∃ ds, bs = ds.map Bd.dat ∧ ds.length ≤ sizeLine ∧ Q (.lst .own ds)) : EQ X m ρ (.List es pos) Q := by
  intro σ H HE H0 S Qv k
  refine ew_of (pe_lst (pa_aw X es)) (h σ H HE H0 S _ fun vs bs H1 g1 r1 q => ?_)
  obtain ⟨ds, e, hl, q⟩ := q
  subst e
  have dv := r1.data
  refine ⟨by rw [dv.len]; exact hl, fun p hp => k _ (.lst .own ds) _ (g1.trans (Gr.new hp)) ?_ q⟩
  exact ⟨p, vs, rfl, g1.free p hp, upd_same, dv.keep ((Gr.new (m := {}) hp).tk fun a e => by cases e)⟩
abbrev EL (X : Cx) (m : Mo) (ρ : Ab) (e : Expr) (ds : List PyData) : Prop := EQ X m ρ e (· = .lst .own ds)
theorem el_lst {ds : List PyData} (h : AD X m ρ es ds) (hl : ds.length ≤ sizeLine) : EL X m ρ (.List es pos) ds := eq_lst fun σ H HE H0 S Qv k => h σ H HE H0 S Qv fun vs bs H' g r q => k vs bs H' g r ⟨ds, q, hl, rfl⟩

/-! ### calls of built-ins -/
/-- a call rule on values, as it reads what the arguments give -/
def CR1 (X : Cx) (m : Mo) (r : List V → Hp → VK → Prop) (bs : List Bd) (Q : Bd → Prop) : Prop :=
  ∀ (Ha H : Hp) (vs : List V), FeedAt m H → HRs X.K m Ha H vs bs → ∀ Qv : VK, (∀ v d H', Gr m H H' → hr X.K m H H' v d → Q d → Qv v H') → r vs H Qv
theorem eq_cb {e2 : Expr} {r : List V → Hp → VK → Prop} {Q : Bd → Prop} (hp : PE X e2 (tCB r (aw X es))) (h : AQ X m ρ es fun bs => CR1 X m r bs Q) : EQ X m ρ e2 Q := by
  intro σ H HE H0 S Qv k
  refine ew_of hp (h σ H HE H0 S _ fun vs bs H1 g1 r1 h1 => ?_)
  exact h1 H H1 vs (S.go g1).fe1 r1 Qv fun v d H2 g2 r2 q => k v d H2 (g1.trans g2) (hr_back r2 g1) q
variable {p : Pos}
theorem ed_lenT {ds : List PyData} (hg : Gl X "len") (hm : X.mg "len" = none) (h : ED X m ρ a (.tuple ds)) (hs : starEach [a] X.env = (false, eval a X.env) :: starEach [] X.env := by rfl) (hpl : (backTo pos (starEach [] X.env)).any (·.1) = false := by rfl) : ED X m ρ (.Call (.Name "len" p) [a] [] pos) (.int ds.length) :=
  eq_cb (pe_callB call_len_seq hg hm PySem.boot_len (pa_aw X [a]) (he := hs) (hpl := hpl)) (aq_cons (h.mono fun b e => aq_nil (by
    subst e
    intro Ha H vs _ r Qv k
    cases r with
    | cons r1 r2 =>
      cases r2
      obtain ⟨p, xs, e, h1, h2⟩ := DV.tup_eq r1
      refine ⟨p, xs, by rw [e], .inr h1, ?_⟩
      rw [h2.len]
      exact k _ (.dat (.int ds.length)) H Gr.refl (.int _) rfl)) hs)
theorem ed_lenL {o : LK} {ds : List PyData} (hg : Gl X "len") (hm : X.mg "len" = none) (h : EQ X m ρ a (· = .lst o ds)) (hs : starEach [a] X.env = (false, eval a X.env) :: starEach [] X.env := by rfl) (hpl : (backTo pos (starEach [] X.env)).any (·.1) = false := by rfl) : ED X m ρ (.Call (.Name "len" p) [a] [] pos) (.int ds.length) :=
  eq_cb (pe_callB call_len_seq hg hm PySem.boot_len (pa_aw X [a]) (he := hs) (hpl := hpl)) (aq_cons (h.mono fun b e => aq_nil (by
    subst e
    intro Ha H vs _ r Qv k
    cases r with
    | cons r1 r2 =>
      cases r2
      obtain ⟨p, xs, e, h1, h2⟩ := hr_lst r1
      refine ⟨p, xs, by rw [e], .inl h1, ?_⟩
      rw [h2.len]
      exact k _ (.dat (.int ds.length)) H Gr.refl (.int _) rfl)) hs)
/-- tuple(x), x a list or a tuple -/
theorem ed_tuple {ds : List PyData} (hg : Gl X "tuple") (hm : X.mg "tuple" = none) (h : EQ X m ρ a (Items ds)) (hs : starEach [a] X.env = (false, eval a X.env) :: starEach [] X.env := by rfl) (hpl : (backTo pos (starEach [] X.env)).any (·.1) = false := by rfl) : ED X m ρ (.Call (.Name "tuple" p) [a] [] pos) (.tuple ds) :=
  eq_cb (pe_callTy call_tuple_of hg hm (by decide +kernel) (pa_aw X [a]) (he := hs) (hpl := hpl)) (aq_cons (h.mono fun b hb => aq_nil (by
    intro Ha H vs f r Qv k
    cases r with
    | cons r1 r2 =>
      cases r2
      obtain ⟨p, xs, e, h1, h2⟩ := hb.get r1
      refine ⟨p, xs, by rw [e], ?_⟩
      rcases h1 with h1 | h1
      · exact .inr ⟨h1, k _ (.dat (.tuple ds)) H Gr.refl (.tup h1 h2) rfl⟩
      · exact .inl ⟨h1, fun l hl => k _ (.dat (.tuple ds)) _ (Gr.new hl) (.tup (.of upd_same) (h2.keep ((Gr.new (m := m) hl).tk f))) rfl⟩)) hs)
theorem el_list {ds : List PyData} (hg : Gl X "list") (hm : X.mg "list" = none) (h : EQ X m ρ a (Items ds)) (hs : starEach [a] X.env = (false, eval a X.env) :: starEach [] X.env := by rfl) (hpl : (backTo pos (starEach [] X.env)).any (·.1) = false := by rfl) : EL X m ρ (.Call (.Name "list" p) [a] [] pos) ds :=
  eq_cb (pe_callTy call_list_of hg hm (by decide +kernel) (pa_aw X [a]) (he := hs) (hpl := hpl)) (aq_cons (h.mono fun b hb => aq_nil (by
    intro Ha H vs f r Qv k
    cases r with
    | cons r1 r2 =>
      cases r2
      obtain ⟨p, xs, e, h1, h2⟩ := hb.get r1
      refine ⟨p, xs, by rw [e], h1.symm, fun l hl => k _ (.lst .own ds) _ (Gr.new hl) ⟨l, xs, rfl, hl, upd_same, h2.keep ((Gr.new (m := m) hl).tk f)⟩ rfl⟩)) hs)
theorem rg_data (K : PySem.W.Frag) (H : Hp) (n : Nat) : DVs K H (rgV 0 n) ((List.range n).map enc) := by
  have e : (List.range n).map (fun i => V.int (0 + (i : Nat))) = ((List.range n).map fun (i : Nat) => (i : Int)).map V.int := by
    rw [List.map_map]
    refine List.map_congr_left fun i _ => ?_
    show V.int (0 + (i : Nat)) = V.int (i : Nat)
    rw [Int.zero_add]
  have e2 : (List.range n).map (enc : Nat → PyData) = ((List.range n).map fun (i : Nat) => (i : Int)).map PyData.int := by
    rw [List.map_map]; rfl
  unfold rgV
  rw [e2, show ((n : Int) - 0).toNat = n by omega, e]
  exact DVs.ints _
/-- tuple(range(n)), list(range(n)) -/
theorem ed_tupRg {n : Nat} {q : Pos} {pos' : Pos} (hc : X.calm = true) (hg : Gl X "tuple") (hm : X.mg "tuple" = none) (hg2 : Gl X "range") (hm2 : X.mg "range" = none) (h : ED X m ρ a (.int n)) (hn : n ≤ 1000)
    (na : starEach [a] X.env = (false, eval a X.env) :: starEach [] X.env := by rfl) (nb : starEach [.Call (.Name "range" q) [a] [] pos'] X.env = (false, eval (.Call (.Name "range" q) [a] [] pos') X.env) :: starEach [] X.env := by rfl) :
    ED X m ρ (.Call (.Name "tuple" p) [.Call (.Name "range" q) [a] [] pos'] [] pos) (enc (List.range n)) := by
  intro σ H HE H0 S Qv k
  refine ew_of (pe_tupRg hc hg hm (prg_1 hg2 hm2 (pe_ew X a) na) nb) (ew_then h S fun v b H1 g1 S1 r1 e1 => ?_)
  subst e1
  refine ⟨n, DV.int_eq r1, RgOk.of_le (by omega) (by omega) (by omega) (by omega), fun l hl => k _ (.dat (enc (List.range n))) _ (g1.trans (Gr.new hl)) ?_ rfl⟩
  exact .tup (.of upd_same) (rg_data _ _ _)
theorem el_listRg {n : Nat} {q : Pos} {pos' : Pos} (hc : X.calm = true) (hg : Gl X "list") (hm : X.mg "list" = none) (hg2 : Gl X "range") (hm2 : X.mg "range" = none) (h : ED X m ρ a (.int n)) (hn : n ≤ 1000)
    (na : starEach [a] X.env = (false, eval a X.env) :: starEach [] X.env := by rfl) (nb : starEach [.Call (.Name "range" q) [a] [] pos'] X.env = (false, eval (.Call (.Name "range" q) [a] [] pos') X.env) :: starEach [] X.env := by rfl) :
    EL X m ρ (.Call (.Name "list" p) [.Call (.Name "range" q) [a] [] pos'] [] pos) ((List.range n).map enc) := by
  intro σ H HE H0 S Qv k
  refine ew_of (pe_listRg hc hg hm (prg_1 hg2 hm2 (pe_ew X a) na) nb) (ew_then h S fun v b H1 g1 S1 r1 e1 => ?_)
  subst e1
  refine ⟨n, DV.int_eq r1, RgOk.of_le (by omega) (by omega) (by omega) (by omega), fun l hl => k _ (.lst .own ((List.range n).map enc)) _ (g1.trans (Gr.new hl)) ?_ rfl⟩
  exact ⟨l, _, rfl, g1.free l hl, upd_same, rg_data _ _ _⟩
/-- all(list of bools), any -/
theorem ed_all {o : LK} {bl : List Bool} (hc : X.calm = true) (hg : Gl X "all") (hm : X.mg "all" = none) (h : EQ X m ρ a (· = .lst o (bl.map PyData.bool))) (hs : starEach [a] X.env = (false, eval a X.env) :: starEach [] X.env := by rfl) (hpl : (backTo pos (starEach [] X.env)).any (·.1) = false := by rfl) :
    ED X m ρ (.Call (.Name "all" p) [a] [] pos) (.bool (bl.all id)) :=
  eq_cb (pe_callB (cr_all hc) hg hm (by decide +kernel) (pa_aw X [a]) (he := hs) (hpl := hpl)) (aq_cons (h.mono fun b e => aq_nil (by
    subst e
    intro Ha H vs _ r Qv k
    cases r with
    | cons r1 r2 =>
      cases r2
      obtain ⟨p, xs, e, h1, h2⟩ := hr_lst r1
      exact ⟨p, bl, by rw [e], by rw [← DVs.of_bools h2]; exact h1, k _ (.dat (.bool (bl.all id))) H Gr.refl (.bl _) rfl⟩)) hs)
theorem ed_any {o : LK} {bl : List Bool} (hc : X.calm = true) (hg : Gl X "any") (hm : X.mg "any" = none) (h : EQ X m ρ a (· = .lst o (bl.map PyData.bool))) (hs : starEach [a] X.env = (false, eval a X.env) :: starEach [] X.env := by rfl) (hpl : (backTo pos (starEach [] X.env)).any (·.1) = false := by rfl) :
    ED X m ρ (.Call (.Name "any" p) [a] [] pos) (.bool (bl.any id)) :=
  eq_cb (pe_callB (cr_any hc) hg hm (by decide +kernel) (pa_aw X [a]) (he := hs) (hpl := hpl)) (aq_cons (h.mono fun b e => aq_nil (by
    subst e
    intro Ha H vs _ r Qv k
    cases r with
    | cons r1 r2 =>
      cases r2
      obtain ⟨p, xs, e, h1, h2⟩ := hr_lst r1
      exact ⟨p, bl, by rw [e], by rw [← DVs.of_bools h2]; exact h1, k _ (.dat (.bool (bl.any id))) H Gr.refl (.bl _) rfl⟩)) hs)
theorem ed_intOf {i : Int} (hg : Gl X "int") (hm : X.mg "int" = none) (h : ED X m ρ a (.int i)) (hs : starEach [a] X.env = (false, eval a X.env) :: starEach [] X.env := by rfl) (hpl : (backTo pos (starEach [] X.env)).any (·.1) = false := by rfl) :
    ED X m ρ (.Call (.Name "int" p) [a] [] pos) (.int i) :=
  eq_cb (pe_callTy call_int1 hg hm (by decide +kernel) (pa_aw X [a]) (he := hs) (hpl := hpl)) (aq_cons (h.mono fun b e => aq_nil (by
    subst e
    intro Ha H vs _ r Qv k
    cases r with
    | cons r1 r2 =>
      cases r2
      rw [DV.int_eq r1]
      exact .inl ⟨i, rfl, k _ (.dat (.int i)) H Gr.refl (.int _) rfl⟩)) hs)
end
end W97
end
section
set_option Elab.async false
set_option linter.all false
set_option maxRecDepth 100000
set_option maxHeartbeats 1000000
namespace W97
open PySem PySem.Spec PyProof.Rows L2 PyEnc

/-! ### states that change -/
def Bd.fine : Bd → Prop
  | .dat _ => True
  | .lst .own _ => True
  | .val _ => True
  | .any => True
  | .dct .own _ => True
  | .pr _ _ => True
  | _ => False
section
variable {K : PySem.W.Frag} {m : Mo} {HE H0 H H1 H2 : Hp} {ρ : Ab} {σ : L2.St}
theorem own_at {i : Nat} {b : Bd} {v : V} (S : SSt K m HE H0 ρ σ H) (h : ρ[i]? = some (some b)) (ho : b.own = true) (hv : σ[i]? = some (some v)) : ∃ p o, v = .ref p ∧ H p = some o ∧ H0 p = none ∧ ((∃ vs, o = .lst vs) ∨ ∃ kvs, DObj K m.wd H p o kvs) := by
  obtain ⟨v', e, hh⟩ := S.slots i b h
  rw [hv] at e
  cases e
  cases b with
  | lst k ds =>
    cases k with
    | own => obtain ⟨p, vs, e, h1, _, h3⟩ := hh; exact ⟨p, _, e, h1, h3, .inl ⟨vs, rfl⟩⟩
    | par => cases ho
    | fz => cases ho
  | dct k kvs =>
    cases k with
    | own => obtain ⟨p, o, e, h1, h2, h3⟩ := hh; exact ⟨p, o, e, h1, h3, .inr ⟨kvs, h2⟩⟩
    | par => cases ho
    | fz => cases ho
  | _ => cases ho
theorem set_at {α : Type} {l : List (Option α)} {i j : Nat} {b c : α} (h : (l.set i (some b))[j]? = some (some c)) : (j = i ∧ c = b) ∨ (j ≠ i ∧ l[j]? = some (some c)) := by
  by_cases e : i = j
  · subst e
    rw [List.getElem?_set] at h
    simp only [if_true] at h
    split at h
    · exact .inl ⟨rfl, (Option.some.inj (Option.some.inj h)).symm⟩
    · cases h
  · rw [List.getElem?_set_ne e] at h
    exact .inr ⟨fun z => e z.symm, h⟩
/-- a slot gets a value -/
theorem SSt.set {i : Nat} {v : V} {b : Bd} (S : SSt K m HE H0 ρ σ H) (g : Gr m H H1) (h : hr K m H H1 v b) (hf : b.fine) : SSt K m HE H0 (ρ.set i (some b)) (σ.set i (some v)) H1 := by
  have S1 := S.go g
  have hl := S.len
  have hold : holds K m HE H0 H1 v b := by
    cases b with
    | dat d => exact h
    | lst k ds =>
      cases k with
      | own => obtain ⟨p, vs, e, h1, h2, h3⟩ := h; exact ⟨p, vs, e, h2, h3, S.gr.free p h1⟩
      | par => exact hf.elim
      | fz => exact hf.elim
    | feed => exact hf.elim
    | val x => exact h
    | any => exact True.intro
    | pr P k => exact h
    | dct k kvs =>
      cases k with
      | own => obtain ⟨p, o, e, h1, h2, h3⟩ := h; exact ⟨p, o, e, h2, h3, S.gr.free p h1⟩
      | par => exact hf.elim
      | fz => exact hf.elim
  have fresh : ∀ {j : Nat} {c : Bd} {u : V}, b.own = true → ρ[j]? = some (some c) → c.own = true → σ[j]? = some (some u) → u ≠ v := fun {j c u} ho hc hco hu e => by
    obtain ⟨p, o1, e1, h1, _⟩ := own_at S hc hco hu
    cases b with
    | lst k ds =>
      cases k with
      | own =>
        obtain ⟨q, vs', e2, h2, _⟩ := h
        rw [e1, e2] at e
        cases e
        rw [h1] at h2
        cases h2
      | par => cases ho
      | fz => cases ho
    | dct k kvs =>
      cases k with
      | own =>
        obtain ⟨q, o, e2, h2, _⟩ := h
        rw [e1, e2] at e
        cases e
        rw [h1] at h2
        cases h2
      | par => cases ho
      | fz => cases ho
    | _ => cases ho
  have at_ : ∀ {j : Nat} {u : V}, j ≠ i → (σ.set i (some v))[j]? = some (some u) → σ[j]? = some (some u) := fun {j u} n e => by rwa [List.getElem?_set_ne (fun z => n z.symm)] at e
  have self : ∀ {c : Bd} {u : V}, (ρ.set i (some b))[i]? = some (some c) → (σ.set i (some v))[i]? = some (some u) → u = v := fun {c u} e1 e2 => by
    have hi : i < σ.length := by
      have z := (List.getElem?_eq_some_iff.mp e2).1
      rwa [List.length_set] at z
    rw [List.getElem?_set_self hi] at e2
    exact (Option.some.inj (Option.some.inj e2)).symm
  refine ⟨S.phi, S.ent, S1.gr, S.fe, S.tb, by rw [List.length_set, List.length_set, hl], fun j c e => ?_, fun j j' c c' u n e1 e2 o1 o2 v1 v2 => ?_⟩
  · have e0 := e
    rcases set_at e with ⟨rfl, rfl⟩ | ⟨n, e⟩
    · refine ⟨v, ?_, hold⟩
      have hj : j < ρ.length := by
        have z := (List.getElem?_eq_some_iff.mp e0).1
        rwa [List.length_set] at z
      rw [List.getElem?_set_self (by omega)]
    · obtain ⟨u, e1, h1⟩ := S1.slots j c e
      exact ⟨u, by rw [List.getElem?_set_ne (fun z => n z.symm)]; exact e1, h1⟩
  · have e1' := e1
    have e2' := e2
    rcases set_at e1 with ⟨rfl, rfl⟩ | ⟨n1, k1⟩
    · rcases set_at e2 with ⟨rfl, rfl⟩ | ⟨n2, k2⟩
      · exact n rfl
      · exact fresh o1 k2 o2 (at_ n2 v2) (self e1' v1)
    · rcases set_at e2 with ⟨rfl, rfl⟩ | ⟨n2, k2⟩
      · exact fresh o2 k1 o1 (at_ n1 v1) (self e2' v2)
      · exact S.apart j j' c c' u n k1 k2 o1 o2 (at_ n1 v1) (at_ n2 v2)
/-- a slot is forgotten -/
theorem SSt.drop {i : Nat} (S : SSt K m HE H0 ρ σ H) : SSt K m HE H0 (ρ.set i none) σ H := by
  have at_ : ∀ {j : Nat} {c : Bd}, (ρ.set i none)[j]? = some (some c) → ρ[j]? = some (some c) := fun {j c} e => by
    by_cases z : i = j
    · subst z
      rw [List.getElem?_set] at e
      simp only [if_true] at e
      split at e <;> cases e
    · rwa [List.getElem?_set_ne z] at e
  exact ⟨S.phi, S.ent, S.gr, S.fe, S.tb, by rw [List.length_set]; exact S.len, fun j c e => S.slots j c (at_ e), fun j j' c c' u n e1 e2 => S.apart j j' c c' u n (at_ e1) (at_ e2)⟩
theorem tk_put {p : Addr} {o1 o2 : HO} (h : H p = some o1) (l : Loose p o1) : TK H (upd H p o2) :=
  fun b o e k => by
    rw [upd_ne (fun z => l.soft (by
      rw [z, h] at e
      rw [Option.some.inj e, ← z]
      exact k))]
    exact e
theorem tk_lst {p : Addr} {xs ys : List V} (h : H p = some (.lst xs)) : TK H (upd H p (.lst ys)) := tk_put h .lst
/-- an own object is changed in place -/
theorem SSt.put {i : Nat} {b0 b1 : Bd} {v : V} {p : Addr} {o1 o2 : HO} (S : SSt K m HE H0 ρ σ H) (hi : ρ[i]? = some (some b0)) (hb0 : b0.own = true) (hv : σ[i]? = some (some v)) (e : v = .ref p) (h : H p = some o1) (l : Loose p o1) (h0 : H0 p = none) (hb1 : b1.own = true) (hold : holds K m HE H0 (upd H p o2) v b1) :
    SSt K m HE H0 (ρ.set i (some b1)) σ (upd H p o2) := by
  have tk := tk_put (o2 := o2) h l
  have g := S.gr.mut (o2 := o2) h0 h l
  have old : ∀ {k : Nat} {c : Bd}, (ρ.set i (some b1))[k]? = some (some c) → c.own = true → ∃ c', ρ[k]? = some (some c') ∧ c'.own = true := fun {k c} ek hk => by
    rcases set_at ek with ⟨rfl, rfl⟩ | ⟨_, ek⟩
    · exact ⟨_, hi, hb0⟩
    · exact ⟨c, ek, hk⟩
  refine ⟨S.phi, S.ent, g, S.fe, S.tb, by rw [List.length_set]; exact S.len, fun j c ej => ?_, fun j j' c c' u n e1 e2 o1 o2 v1 v2 => ?_⟩
  · rcases set_at ej with ⟨rfl, rfl⟩ | ⟨n, ej⟩
    · exact ⟨v, hv, hold⟩
    · obtain ⟨u, e1, hh⟩ := S.slots j c ej
      have away : c.own = true → ∀ q, u = .ref q → q ≠ p := fun ho q e2 z => by
        rw [e2, z, ← e] at e1
        exact S.apart i j _ _ v (fun z => n z.symm) hi ej hb0 ho hv e1
      refine ⟨u, e1, ?_⟩
      cases c with
      | dat d => exact DV.keep tk hh
      | lst k es =>
        cases k with
        | own =>
          obtain ⟨q, vs, e2, h1, h2, h3⟩ := hh
          exact ⟨q, vs, e2, by rw [upd_ne (away rfl q e2)]; exact h1, h2.keep tk, h3⟩
        | par => exact hh
        | fz => exact hh
      | dct k es =>
        cases k with
        | own =>
          obtain ⟨q, o, e2, h1, h2, h3⟩ := hh
          exact ⟨q, o, e2, by rw [upd_ne (away rfl q e2)]; exact h1, h2.keep tk, h3⟩
        | par => exact hh
        | fz => exact hh
      | feed => exact hh
      | val x => exact hh
      | any => exact True.intro
      | pr P k => exact k _ _ _ tk hh
  · obtain ⟨c1, a1, a2⟩ := old e1 o1
    obtain ⟨c2, b1, b2⟩ := old e2 o2
    exact S.apart j j' c1 c2 u n a1 b1 a2 b2 v1 v2
theorem SSt.mut {i : Nat} {ds ds' : List PyData} {v : V} {p : Addr} {xs ys : List V} (S : SSt K m HE H0 ρ σ H) (hi : ρ[i]? = some (some (.lst .own ds))) (hv : σ[i]? = some (some v)) (e : v = .ref p) (h : H p = some (.lst xs)) (h0 : H0 p = none) (hd : DVs K H ys ds') :
    SSt K m HE H0 (ρ.set i (some (.lst .own ds'))) σ (upd H p (.lst ys)) :=
  S.put hi rfl hv e h .lst h0 rfl ⟨p, ys, e, upd_same, hd.keep (tk_lst h), h0⟩
end

/-! ### readings: targets -/
section
variable {X : Cx} {m m' : Mo} {HE H0 H H1 H2 : Hp} {ρ ρ' ρ'' : Ab} {σ : L2.St} {a b c e tg : Expr} {es : List Expr} {pos : Pos}
def gw (X : Cx) (tg : Expr) : TG := fun v σ H Q => ∀ pins s u, Inv X pins σ H s → RelV v u → wpAny (model X.prog X.w) X.A (assign tg X.env u) (fun _ s' => ∃ σ' H', Inv X pins σ' H' s' ∧ Q σ' H') X.xe s
def gws (X : Cx) (ts : List Expr) : TGs := fun vs σ H Q => ∀ pins s us, Inv X pins σ H s → Vals vs us → wpAny (model X.prog X.w) X.A (assignInOrder ((assignEach ts X.env).map (·.2)) us) (fun _ s' => ∃ σ' H', Inv X pins σ' H' s' ∧ Q σ' H') X.xe s
theorem pg_gw (X : Cx) (tg : Expr) : PG X tg (gw X tg) := ⟨fun pins s _ _ _ u _ I r h => h pins s u I r⟩
theorem pgs_gws (X : Cx) (ts : List Expr) : PGs X ts (gws X ts) := ⟨fun pins s _ _ _ us _ I r h => h pins s us I r⟩
/-- is: the slots that it stores -/
def TGD (X : Cx) (tg : Expr) (is : List Nat) (d : PyData) (ρ ρ' : Ab) : Prop :=
  ∀ m HE H0 σ H, SSt X.K m HE H0 ρ σ H → ∀ v, DV X.K H v d → ∀ Qv : L2.St → Hp → Prop, (∀ σ' , SSt X.K m HE H0 ρ' σ' H → (∀ vs, (∀ i ∈ is, i ∈ vs) → wipe σ' vs = wipe σ vs) → Qv σ' H) → gw X tg v σ H Qv
def TGDs (X : Cx) (ts : List Expr) (is : List Nat) (ds : List PyData) (ρ ρ' : Ab) : Prop :=
  ∀ m HE H0 σ H, SSt X.K m HE H0 ρ σ H → ∀ vs, DVs X.K H vs ds → ∀ Qv : L2.St → Hp → Prop, (∀ σ' , SSt X.K m HE H0 ρ' σ' H → (∀ vs, (∀ i ∈ is, i ∈ vs) → wipe σ' vs = wipe σ vs) → Qv σ' H) → gws X ts vs σ H Qv
theorem wipe_set {i : Nat} {v : V} : ∀ {vs : List Nat}, i ∈ vs → wipe (σ.set i (some v)) vs = wipe σ vs
  | [], h => by cases h
  | j :: vs, h => by
    unfold wipe
    by_cases hi : i ∈ vs
    · rw [wipe_set hi]
    · have e : i = j := (List.mem_cons.mp h).resolve_right hi
      subst e
      have key : ∀ (l : L2.St) (ws : List Nat), i ∉ ws → wipe (l.set i (some v)) ws = (wipe l ws).set i (some v) := by
        intro l ws
        induction ws with
        | nil => intro _; rfl
        | cons w ws ih =>
          intro hn
          rw [List.mem_cons, not_or] at hn
          unfold wipe
          rw [ih hn.2, List.set_comm _ _ hn.1]
      rw [key σ vs hi, List.set_set]
theorem tgd_name {i : Nat} {x : Str} {d : PyData} (hN : X.N.Nodup) (hi : X.N[i]? = some x) (hx : Loc X.env.scope x) (hf : X.fn x = true ∨ X.env.scope.names.lookup x = some .local := by first | exact .inl rfl | exact .inr rfl | assumption) : TGD X (.Name x pos) [i] d ρ (ρ.set i (some (.dat d))) := by
  intro m HE H0 σ H S v dv Qv k pins s u I r
  exact (pg_name hN hi hx hf).run pins s σ H v u Qv I r (k _ (S.set Gr.refl dv True.intro) fun vs h => wipe_set (h i List.mem_cons_self))
theorem tgds_nil : TGDs X [] [] [] ρ ρ := by
  intro m HE H0 σ H S vs dv Qv k pins s us I r
  cases dv
  exact pgs_nil.run pins s σ H [] us Qv I r ⟨rfl, k σ S fun _ _ => rfl⟩
theorem tgds_cons {is js : List Nat} {d : PyData} {ds : List PyData} (h : TGD X e is d ρ ρ') (h2 : TGDs X es js ds ρ' ρ'') (hs : (assignEach (e :: es) X.env).map (·.2) = assign e X.env :: (assignEach es X.env).map (·.2) := by rfl) : TGDs X (e :: es) (is ++ js) (d :: ds) ρ ρ'' := by
  intro m HE H0 σ H S vs dv Qv k pins s us I r
  cases dv with
  | @cons v vs _ _ d1 d2 =>
    refine (pgs_cons (pg_gw X e) (pgs_gws X es) hs).run pins s σ H (v :: vs) us Qv I r ⟨v, vs, rfl, h m HE H0 σ H S v d1 _ fun σ' S' w1 => h2 m HE H0 σ' H S' vs d2 _ fun σ'' S'' w2 => k σ'' S'' fun ws hw => ?_⟩
    rw [w2 ws fun i hi => hw i (List.mem_append_right _ hi), w1 ws fun i hi => hw i (List.mem_append_left _ hi)]
theorem tgd_tup {k : Nat} {n : Nat} {is : List Nat} {ds : List PyData} (hc : X.calm = true) (h : TGDs X es is ds ρ ρ') (hl : ds.length = n)
    (hn : (assignEach es X.env).length = n := by rfl) (hst : (assignEach es X.env).findIdx? (·.1) = none := by rfl) : TGD X (.Tuple es k pos) is (.tuple ds) ρ ρ' := by
  intro m HE H0 σ H S v dv Qv kk pins s u I r
  obtain ⟨p, xs, e, h1, h2⟩ := DV.tup_eq dv
  exact (pg_tup hc (pgs_gws X es) hn hst).run pins s σ H v u Qv I r ⟨p, xs, e, h1, by rw [h2.len, hl], h m HE H0 σ H S xs h2 Qv kk⟩

/-! ### readings: statements -/
structure AE where
  nx : Ab → Prop
  rt : Bd → Prop
  bk : Ab → Prop := fun _ => False
  ct : Ab → Prop := fun _ => False
structure DE (K : PySem.W.Frag) (m : Mo) (HE H0 : Hp) (E : AE) (D : Ends) : Prop where
  nx : ∀ ρ' σ' H', SSt K m HE H0 ρ' σ' H' → E.nx ρ' → D.nx σ' H'
  rt : ∀ v b H', Gr m HE H' → hr K m HE H' v b → E.rt b → D.rt v H'
  bk : ∀ ρ' σ' H', SSt K m HE H0 ρ' σ' H' → E.bk ρ' → D.bk σ' H'
  ct : ∀ ρ' σ' H', SSt K m HE H0 ρ' σ' H' → E.ct ρ' → D.ct σ' H'
def sw1 (X : Cx) (st : Stmt) : TS := fun D σ H => ∀ pins s, Inv X pins σ H s → wpAny (model X.prog X.w) X.A (exec st X.env) (SP X pins D) X.xe s
def sws (X : Cx) (ss : List Stmt) : TS := fun D σ H => ∀ pins s, Inv X pins σ H s → wpAny (model X.prog X.w) X.A (execs ss X.env) (SP X pins D) X.xe s
theorem ps_sw (X : Cx) (st : Stmt) : PS X st (sw1 X st) := ⟨fun pins s _ _ _ I h => h pins s I⟩
theorem pss_sw (X : Cx) (ss : List Stmt) : PSs X ss (sws X ss) := ⟨fun pins s _ _ _ I h => h pins s I⟩
def S1 (X : Cx) (m : Mo) (ρ : Ab) (st : Stmt) (E : AE) : Prop := ∀ σ H HE H0, SSt X.K m HE H0 ρ σ H → ∀ D, DE X.K m HE H0 E D → sw1 X st D σ H
def SQ (X : Cx) (m : Mo) (ρ : Ab) (ss : List Stmt) (E : AE) : Prop := ∀ σ H HE H0, SSt X.K m HE H0 ρ σ H → ∀ D, DE X.K m HE H0 E D → sws X ss D σ H
variable {st : Stmt} {ss : List Stmt} {E : AE} {D : Ends}
theorem s1_of {t : TS} (h : PS X st t) (q : t D σ H) : sw1 X st D σ H := fun pins s I => h.run pins s σ H D I q
theorem sq_nil (h : E.nx ρ) : SQ X m ρ [] E := fun σ H HE H0 S D d pins s I => pss_nil.run pins s σ H D I (d.nx ρ σ H S h)
theorem sq_cons (h : S1 X m ρ st { E with nx := fun ρ' => SQ X m ρ' ss E }) : SQ X m ρ (st :: ss) E := by
  intro σ H HE H0 S D d pins s I
  refine (pss_cons (ps_sw X st) (pss_sw X ss)).run pins s σ H D I (h σ H HE H0 S _ ⟨fun ρ' σ' H' S' q => ?_, d.rt, d.bk, d.ct⟩)
  exact q σ' H' HE H0 S' D d
theorem S1.mono {E' : AE} (h : S1 X m ρ st E) (q : ∀ ρ', E.nx ρ' → E'.nx ρ') (r : ∀ b, E.rt b → E'.rt b) (b : ∀ ρ', E.bk ρ' → E'.bk ρ') (c : ∀ ρ', E.ct ρ' → E'.ct ρ') : S1 X m ρ st E' :=
  fun σ H HE H0 S D d => h σ H HE H0 S D ⟨fun ρ' σ' H' S' z => d.nx ρ' σ' H' S' (q _ z), fun v x H' g hh z => d.rt v x H' g hh (r _ z), fun ρ' σ' H' S' z => d.bk ρ' σ' H' S' (b _ z), fun ρ' σ' H' S' z => d.ct ρ' σ' H' S' (c _ z)⟩
theorem s1_set {i : Nat} {x : Str} {pos' : Pos} (hN : X.N.Nodup) (hi : X.N[i]? = some x) (hx : Loc X.env.scope x) (h : EQ X m ρ e fun b => b.fine ∧ E.nx (ρ.set i (some b))) (hs : swapsWith e (some (.Name x pos')) pos.line X.env = pure false := by rfl)
    (hf : X.fn x = true ∨ X.env.scope.names.lookup x = some .local := by first | exact .inl rfl | exact .inr rfl | assumption) : S1 X m ρ (.Assign [.Name x pos'] e pos) E := by
  intro σ H HE H0 S D d
  refine s1_of (ps_set hN hi hx (pe_ew X e) hs hf) (h σ H HE H0 S _ fun v b H' g r q => ?_)
  exact d.nx _ _ H' (S.set g r q.1) q.2
theorem s1_setD {i : Nat} {x : Str} {pos' : Pos} {d : PyData} (hN : X.N.Nodup) (hi : X.N[i]? = some x) (hx : Loc X.env.scope x) (h : ED X m ρ e d) (q : E.nx (ρ.set i (some (.dat d)))) (hs : swapsWith e (some (.Name x pos')) pos.line X.env = pure false := by rfl)
    (hf : X.fn x = true ∨ X.env.scope.names.lookup x = some .local := by first | exact .inl rfl | exact .inr rfl | assumption) : S1 X m ρ (.Assign [.Name x pos'] e pos) E :=
  s1_set hN hi hx (h.mono fun b e => by rw [e]; exact ⟨True.intro, q⟩) hs hf
/-- target = data -/
theorem s1_tgt {is : List Nat} {d : PyData} (h : ED X m ρ e d) (ht : TGD X tg is d ρ ρ') (q : E.nx ρ') (hs : swapsWithSole [tg] e pos.line X.env = pure false := by rfl) (hw : swappedStores [tg] e X.env = pure none := by rfl)
    (h1 : (assignEach [tg] X.env).map (·.2) = [assign tg X.env] := by rfl) : S1 X m ρ (.Assign [tg] e pos) E := by
  intro σ H HE H0 S D dd
  refine s1_of (ps_asg (pe_ew X e) (pg_gw X tg) hs hw h1) (ew_then h S fun v b H1 g1 S1 r1 e1 => ?_)
  subst e1
  exact ht m HE H0 σ H1 S1 v r1 _ fun σ' S' _ => dd.nx _ _ H1 S' q
/-- a, b = x, y, plain local names -/
theorem s1_par {i j : Nat} {x y : Str} {px py pt : Pos} {kt k2 pt2} (hc : X.calm = true) (hN : X.N.Nodup) (hi : X.N[i]? = some x) (hj : X.N[j]? = some y) (hij : i ≠ j) (hx : X.env.scope.names.lookup x = some .local) (hy : X.env.scope.names.lookup y = some .local)
    (h : EQ X m ρ a fun b1 => b1.fine ∧ EQ X m ρ b fun b2 => b2.fine ∧ E.nx ((ρ.set i (some b1)).set j (some b2)))
    (hw : swappedStores [.Tuple [.Name x px, .Name y py] kt pt] (.Tuple [a, b] k2 pt2) X.env = pure (some [x, y]) := by rfl)
    (hs : swapsWithSole [.Tuple [.Name x px, .Name y py] kt pt] (.Tuple [a, b] k2 pt2) pos.line X.env = pure false := by rfl)
    (h1 : starEach [a, b] X.env = (false, eval a X.env) :: starEach [b] X.env := by rfl) (h2 : starEach [b] X.env = (false, eval b X.env) :: starEach [] X.env := by rfl) :
    S1 X m ρ (.Assign [.Tuple [.Name x px, .Name y py] kt pt] (.Tuple [a, b] k2 pt2) pos) E := by
  intro σ H HE H0 S D d
  refine s1_of (ps_par hc hN hi hj hij hx hy (pa_cons (pe_ew X a) (pa_cons (pe_ew X b) pa_nil h2) h1) hw hs) (ew_then h S fun v b1 H1 g1 S1 r1 q1 => ew_then q1.2 S1 fun u b2 H2 g2 S2 r2 q2 => ?_)
  refine ⟨v, u, rfl, d.nx _ _ H2 ?_ q2.2⟩
  exact (S.set g1 r1 q1.1).set g2 (by
    exact r2) q2.1
theorem s1_ret (h : EQ X m ρ e fun b => E.rt b) : S1 X m ρ (.Return (some e) pos) E := by
  intro σ H HE H0 S D d
  exact s1_of (ps_ret (pe_ew X e)) (h σ H HE H0 S _ fun v b H' g r q => d.rt v b H' ((S.ent.trans S.gr).trans g) (hr_back r (S.ent.trans S.gr)) q)
theorem s1_retD {d : PyData} (h : ED X m ρ e d) (q : E.rt (.dat d)) : S1 X m ρ (.Return (some e) pos) E := s1_ret (h.mono fun b e => by rw [e]; exact q)
/-- an own list is handed back -/
theorem s1_retOwn {i : Nat} {x : Str} {pos' : Pos} {ds : List PyData} (hi : ρ[i]? = some (some (.lst .own ds))) (hN : X.N[i]? = some x) (hv : Vis X.env.scope x) (q : E.rt (.lst .own ds)) (hd : (x == ("__debug__" : Str)) = false := by decide) (hcd : (x == ("__classdict__" : Str)) = false := by decide) :
    S1 X m ρ (.Return (some (.Name x pos')) pos) E := by
  intro σ H HE H0 S D d
  obtain ⟨v, hv', p, vs, e, h1, h2, h3⟩ := S.slots i _ hi
  exact s1_of (ps_ret (pe_var hN hv hd hcd)) ⟨v, hv', d.rt v (.lst .own ds) H (S.ent.trans S.gr) ⟨p, vs, e, S.ent.free p h3, h1, h2⟩ q⟩
theorem s1_if {sa sb : List Stmt} {k : Bool} (h : TD X m ρ c k) (ht : k = true → SQ X m ρ sa E) (hf : k = false → SQ X m ρ sb E) : S1 X m ρ (.If c sa sb pos) E := by
  intro σ H HE H0 S D d
  refine s1_of (ps_if (pt_tw X c) (pss_sw X sa) (pss_sw X sb)) (tw_then h S fun k' H1 g1 S1 e1 => ?_)
  subst e1
  cases k' with
  | true => exact ht rfl σ H1 HE H0 S1 D d
  | false => exact hf rfl σ H1 HE H0 S1 D d
theorem s1_expr {d : PyData} (h : ED X m ρ e d) (q : E.nx ρ) (hs : swapsWith e none pos.line X.env = pure false := by rfl) : S1 X m ρ (.Expr e pos) E := by
  intro σ H HE H0 S D dd
  exact s1_of (ps_expr (pe_ew X e) hs) (ew_then h S fun v b H1 g1 S1 r1 e1 => dd.nx _ _ H1 S1 q)
/-- xs.append(e), xs an own list -/
theorem s1_append {i : Nat} {x : Str} {px apos cpos : Pos} {ds : List PyData} (hi : ρ[i]? = some (some (.lst .own ds))) (hN : X.N[i]? = some x) (hv : Vis X.env.scope x) (h : EQ X m ρ e fun b => ∃ d, b = .dat d ∧ E.nx (ρ.set i (some (.lst .own (ds ++ [d]))))) (hl : ds.length < sizeLine)
    (hd : (x == ("__debug__" : Str)) = false := by decide) (hcd : (x == ("__classdict__" : Str)) = false := by decide)
    (hbase : attributeBase (.Name x px) "append" X.env (eval (.Name x px) X.env) = eval (.Name x px) X.env := by rfl)
    (hfew : ((backTo cpos (starEach [e] X.env)).all (fun x => !x.1) && (backToKw cpos (keywordEach [] X.env)).all (fun x => x.1.isSome) && decide ([e].length + ([] : List Keyword).length + (if ([] : List Keyword).isEmpty then 0 else 1) < 30)) = true := by rfl)
    (hline : (apos.endLine == cpos.line) = true := by rfl) (hs : starEach [e] X.env = (false, eval e X.env) :: starEach [] X.env := by rfl) (hplain : (backTo cpos (starEach [] X.env)).any (·.1) = false := by rfl)
    (hsw : swapsWith (.Call (.Attribute (.Name x px) "append" apos) [e] [] cpos) none pos.line X.env = pure false := by rfl) :
    S1 X m ρ (.Expr (.Call (.Attribute (.Name x px) "append" apos) [e] [] cpos) pos) E := by
  intro σ H HE H0 S D d
  refine s1_of (ps_expr (pe_bm PySem.F.plainAttrs_list PySem.F.slot_list_append PySem.F.type_list_append mt_append (pe_var hN hv hd hcd) (pa_cons (pe_ew X e) pa_nil hs) hbase hfew hline hs hplain) hsw) ?_
  obtain ⟨v, hv', p, vs, ev, h1, h2, h3⟩ := S.slots i _ hi
  subst ev
  refine ⟨_, hv', .inl ⟨rfl, _, .of h1⟩, ew_then h S fun y b H1 g1 S1 r1 q => ?_⟩
  obtain ⟨dd, eb, q⟩ := q
  subst eb
  have hp := g1.lst S.fe1 h1
  exact ⟨p, vs, y, rfl, rfl, hp, by rw [h2.len]; exact hl, d.nx _ _ _ (S1.mut hi hv' rfl hp h3 ((h2.keep (g1.tk S.fe1)).app (.cons r1 .nil))) q⟩
theorem s1_extend {i : Nat} {x : Str} {px apos cpos : Pos} {ds es' : List PyData} (hi : ρ[i]? = some (some (.lst .own ds))) (hN : X.N[i]? = some x) (hv : Vis X.env.scope x) (h : EL X m ρ e es') (q : E.nx (ρ.set i (some (.lst .own (ds ++ es'))))) (hl : ds.length + es'.length ≤ sizeLine)
    (hd : (x == ("__debug__" : Str)) = false := by decide) (hcd : (x == ("__classdict__" : Str)) = false := by decide)
    (hbase : attributeBase (.Name x px) "extend" X.env (eval (.Name x px) X.env) = eval (.Name x px) X.env := by rfl)
    (hfew : ((backTo cpos (starEach [e] X.env)).all (fun x => !x.1) && (backToKw cpos (keywordEach [] X.env)).all (fun x => x.1.isSome) && decide ([e].length + ([] : List Keyword).length + (if ([] : List Keyword).isEmpty then 0 else 1) < 30)) = true := by rfl)
    (hline : (apos.endLine == cpos.line) = true := by rfl) (hs : starEach [e] X.env = (false, eval e X.env) :: starEach [] X.env := by rfl) (hplain : (backTo cpos (starEach [] X.env)).any (·.1) = false := by rfl)
    (hsw : swapsWith (.Call (.Attribute (.Name x px) "extend" apos) [e] [] cpos) none pos.line X.env = pure false := by rfl) :
    S1 X m ρ (.Expr (.Call (.Attribute (.Name x px) "extend" apos) [e] [] cpos) pos) E := by
  intro σ H HE H0 S D d
  refine s1_of (ps_expr (pe_bm PySem.F.plainAttrs_list PySem.F.slot_list_extend PySem.F.type_list_extend mt_extend (pe_var hN hv hd hcd) (pa_cons (pe_ew X e) pa_nil hs) hbase hfew hline hs hplain) hsw) ?_
  obtain ⟨v, hv', p, vs, ev, h1, h2, h3⟩ := S.slots i _ hi
  subst ev
  refine ⟨_, hv', .inl ⟨rfl, _, .of h1⟩, ew_then h S fun y b H1 g1 S1 r1 eb => ?_⟩
  subst eb
  obtain ⟨p2, us, e2, _, k2, k3⟩ := r1
  have hp := g1.lst S.fe1 h1
  refine ⟨p, p2, vs, us, rfl, by rw [e2], hp, k2, ?_, d.nx _ _ _ (S1.mut hi hv' rfl hp h3 ((h2.keep (g1.tk S.fe1)).app k3)) q⟩
  rw [h2.len, k3.len]; exact hl
end
end W97
end
section
set_option Elab.async false
set_option linter.all false
set_option maxRecDepth 100000
set_option maxHeartbeats 1000000
namespace W97
open PySem PySem.Spec PyProof.Rows L2 PyEnc

/-! ### what is walked -/
/-- tuples and lists stay -/
def TL (H H' : Hp) : Prop := TK H H' ∧ ∀ p xs, H p = some (.lst xs) → H' p = some (.lst xs)
theorem TL.sql {K : PySem.W.Frag} {H H' : Hp} (t : TL H H') {a : Addr} {xs : List V} (h : SqL K H a xs) : SqL K H' a xs := by
  rcases h with (h | ⟨o, h⟩) | h
  · exact .inl (.inl (t.2 a xs h))
  · exact .inl (.inr ⟨o, t.1 a _ h .frz⟩)
  · exact .inr h
theorem Gr.tl {m : Mo} {H H' : Hp} (g : Gr m H H') (f : FeedAt m H) : TL H H' := ⟨g.tk f, fun p xs h => g.lst f h⟩
def YD (K : PySem.W.Frag) (ds : List PyData) : Nat → Hp → V → Hp → Prop := fun i H x H' => ∃ d, ds[i]? = some d ∧ (∀ b o, H b = some o → H' b = some o) ∧ DV K H' x d
abbrev Src (K : PySem.W.Frag) (J : It) (ds : List PyData) (H : Hp) : Prop := Walk J ds.length (TL H) (YD K ds)
section
variable {K : PySem.W.Frag} {H : Hp} {a : Addr} {xs : List V} {ds : List PyData}
theorem src_tup (h : SqT K H a xs) (d : DVs K H xs ds) : Src K (Itt K a) ds H := by
  have w := walk_tup (K := K) (a := a) (xs := xs)
  rw [d.len] at w
  refine w.mono (fun H' t => t.1.sq h) fun i H1 x H2 _ t y => ?_
  obtain ⟨e, y⟩ := y
  subst e
  obtain ⟨dd, h1, h2⟩ := (d.keep t.1).at' y
  exact ⟨dd, h1, fun _ _ h => h, h2⟩
theorem src_lst (h : SqL K H a xs) (d : DVs K H xs ds) : Src K (Itl K a) ds H := by
  have w := walk_list (K := K) (a := a) (xs := xs)
  rw [d.len] at w
  refine w.mono (fun H' t => t.sql h) fun i H1 x H2 _ t y => ?_
  obtain ⟨e, y⟩ := y
  subst e
  obtain ⟨dd, h1, h2⟩ := (d.keep t.1).at' y
  exact ⟨dd, h1, fun _ _ h => h, h2⟩
theorem src_range {lo : Int} {n : Nat} : Src K (Itr lo n) ((List.range n).map fun i => .int (lo + (i : Nat))) H := by
  have w := walk_range (lo := lo) (n := n)
  have e : ((List.range n).map fun i => PyData.int (lo + (i : Nat))).length = n := by rw [List.length_map, List.length_range]
  unfold Src
  rw [e]
  refine w.mono (fun _ _ => True.intro) fun i H1 x H2 hi _ y => ?_
  obtain ⟨e1, e2⟩ := y
  subst e1 e2
  exact ⟨.int (lo + (i : Nat)), by simp [hi], fun _ _ h => h, .int _⟩
end

section
variable {X : Cx} {m m' : Mo} {HE H0 H H1 H2 : Hp} {ρ ρ' ρ'' : Ab} {σ : L2.St} {a b c e tg iter : Expr} {es : List Expr} {pos p : Pos} {ds : List PyData}
open Classical in
/-- all but what is own -/
noncomputable def frzH (ρ : Ab) (σ : L2.St) (H : Hp) : Hp := fun b => if ∃ (i : Nat) (d : Bd), ρ[i]? = some (some d) ∧ d.own = true ∧ σ[i]? = some (some (.ref b)) then none else H b
theorem frz_none {i : Nat} {d : Bd} {b : Addr} (h : ρ[i]? = some (some d)) (ho : d.own = true) (hv : σ[i]? = some (some (.ref b))) : frzH ρ σ H b = none := by
  unfold frzH
  rw [if_pos ⟨i, d, h, ho, hv⟩]
theorem frz_some {b : Addr} {o : HO} (h : H b = some o) (n : ∀ (i : Nat) (d : Bd), ρ[i]? = some (some d) → d.own = true → σ[i]? ≠ some (some (.ref b))) : frzH ρ σ H b = some o := by
  unfold frzH
  rw [if_neg (fun ⟨i, d, h1, h2, h3⟩ => n i d h1 h2 h3)]
  exact h
theorem frz_of {b : Addr} {o : HO} (h : frzH ρ σ H b = some o) : H b = some o := by
  unfold frzH at h
  split at h
  · cases h
  · exact h
/-- what no own object is -/
def Still (b : Addr) (o : HO) : Prop := (∀ xs, o ≠ .lst xs) ∧ ∀ K wd H kvs, ¬ DObj K wd H b o kvs
theorem Still.tup {b : Addr} {xs : List V} : Still b (.tup xs) := ⟨(fun _ z => by cases z), fun _ _ _ _ x => x.loose.tup _ rfl⟩
theorem Still.frz {b : Addr} {o : Obj} {u : HO} : Still b (.frz o u) := ⟨(fun _ z => by cases z), fun _ _ _ _ x => x.loose.frz _ _ rfl⟩
theorem Still.tbl {b : Addr} {ps : Array Value} : Still b (.tbl ps) := ⟨(fun _ z => by cases z), fun _ _ _ _ x => x.loose.tbl _ rfl⟩
theorem Still.code {b : Addr} {q : Str} : Still b (LamX.CodeO b q) := ⟨(fun _ z => by unfold LamX.CodeO at z; cases z), fun _ _ _ _ x => x.loose.code _ rfl⟩
theorem Still.feed {b ca : Addr} {n r t : Int} : Still b (.dK (feedK ca n r t)) := ⟨(fun _ z => by cases z), fun _ _ _ _ x => x.nofeed rfl⟩
theorem Still.fno {b : Addr} {F : NdefX.NF} : Still b (NdefX.FnO b F) := ⟨(fun _ z => by unfold NdefX.FnO at z; cases z), fun _ _ _ _ x => x.loose.fno _ rfl⟩
theorem Still.hard {b : Addr} {o : HO} (h : Hard b o) : Still b o := by
  rcases h with ⟨_, h⟩ | ⟨_, _, h⟩ | ⟨_, h⟩ | ⟨_, h⟩ <;> rw [h]
  · exact .tup
  · exact .frz
  · exact .code
  · exact .fno
theorem frz_nl {b : Addr} {o : HO} (S : SSt X.K m HE H0 ρ σ H) (h : H b = some o) (n : Still b o) : frzH ρ σ H b = some o := frz_some h fun i d h1 h2 h3 => by
  obtain ⟨p, o1, e, h4, _, h5⟩ := own_at S h1 h2 h3
  cases e
  rw [h] at h4
  cases h4
  rcases h5 with ⟨vs, e⟩ | ⟨kvs, x⟩
  · exact n.1 vs e
  · exact n.2 _ _ _ _ x
theorem frz_old {b : Addr} {o : HO} (S : SSt X.K m HE H0 ρ σ H) (h : H b = some o) (h0 : ∃ o, H0 b = some o) : frzH ρ σ H b = some o := frz_some h fun i d h1 h2 h3 => by
  obtain ⟨p, o1, e, _, h4, _⟩ := own_at S h1 h2 h3
  cases e
  obtain ⟨o, h0⟩ := h0
  rw [h0] at h4
  cases h4
theorem frz_gr0 (S : SSt X.K m HE H0 ρ σ H) : Gr m H0 (frzH ρ σ H) :=
  ⟨fun b o h n f => frz_old S (S.gr.keep b o h n f) ⟨o, h⟩, fun T e t q hq => by
    obtain ⟨ps, h1, h2, h3⟩ := S.gr.tabs T e t q hq
    refine ⟨ps, frz_nl S h1 .tbl, h2, fun pos cv hc => ?_⟩
    obtain ⟨c, a1, a2⟩ := h3 pos cv hc
    exact ⟨c, a1, frz_nl S a2 .code⟩, fun b h => by
    (cases q : H0 b with
    | none => rfl
    | some o =>
      (have hb : H b ≠ none := fun z => by rw [S.gr.free b z] at q; cases q)
      (cases q2 : H b with
      | none => exact absurd q2 hb
      | some o2 => rw [frz_old S q2 ⟨o, q⟩] at h; cases h)), fun a e x => by
    obtain ⟨cs, n, r, t, h1, h2, h3, h4⟩ := S.gr.feed a e x
    obtain ⟨cs', n', r', t', k1, k2, _⟩ := x
    exact ⟨cs, n, r, t, frz_nl S h1 .feed, frz_old S h2 ⟨_, k2⟩, h3, h4⟩⟩
theorem frz_gr1 : Gr m (frzH ρ σ H) H := Gr.same fun b o h => frz_of h
def isFz : Option Bd → Bool
  | some (.lst .fz _) => true
  | some (.dct .fz _) => true
  | _ => false
def noFz (ρ : Ab) : Prop := ρ.any isFz = false
theorem noFz.at (h : noFz ρ) {i : Nat} {d : Option Bd} (hd : isFz d = true) : ρ[i]? ≠ some d := fun e => by
  have z : ρ.any isFz = true := List.any_eq_true.mpr ⟨_, List.mem_of_getElem? e, hd⟩
  have h : ρ.any isFz = false := h
  rw [h] at z
  cases z
theorem SSt.frz (S : SSt X.K m HE H0 ρ σ H) (g : Gr m H H1) : SSt X.K m HE (frzH ρ σ H1) ρ σ H1 := by
  have S1 := S.go g
  refine ⟨S.phi, S.ent.trans (frz_gr0 S1), frz_gr1, S.fe, S.tb, S.len, fun i b e => ?_, S.apart⟩
  obtain ⟨v, hv, hh⟩ := S1.slots i b e
  refine ⟨v, hv, ?_⟩
  cases b with
  | dat d => exact hh
  | lst k ds =>
    cases k with
    | own =>
      obtain ⟨p, vs, ev, h1, h2, h3⟩ := hh
      exact ⟨p, vs, ev, h1, h2, frz_none e rfl (by rw [hv, ev])⟩
    | par => exact hh
    | fz => exact IsL.go hh (frz_gr0 S1) S.fe0
  | feed => exact hh
  | val x => exact hh
  | any => exact True.intro
  | pr P k => exact hh
  | dct k kvs =>
    cases k with
    | own =>
      obtain ⟨p, o, ev, h1, h2, h3⟩ := hh
      exact ⟨p, o, ev, h1, h2, frz_none e rfl (by rw [hv, ev])⟩
    | par => exact hh
    | fz => exact IsD.go hh (frz_gr0 S1) S.fe0
theorem SSt.unfrz {H0' : Hp} (S : SSt X.K m HE H0' ρ σ H) (g : Gr m H0 H0') (ent : Gr m HE H0) (n : noFz ρ) : SSt X.K m HE H0 ρ σ H := by
  refine ⟨S.phi, ent, g.trans S.gr, S.fe, S.tb, S.len, fun i b e => ?_, S.apart⟩
  obtain ⟨v, hv, hh⟩ := S.slots i b e
  refine ⟨v, hv, ?_⟩
  cases b with
  | dat d => exact hh
  | lst k ds =>
    cases k with
    | own =>
      obtain ⟨p, vs, ev, h1, h2, h3⟩ := hh
      exact ⟨p, vs, ev, h1, h2, g.free p h3⟩
    | par => exact hh
    | fz => exact absurd e (n.at rfl)
  | feed => exact hh
  | val x => exact hh
  | any => exact True.intro
  | pr P k => exact hh
  | dct k kvs =>
    cases k with
    | own =>
      obtain ⟨p, o, ev, h1, h2, h3⟩ := hh
      exact ⟨p, o, ev, h1, h2, g.free p h3⟩
    | par => exact hh
    | fz => exact absurd e (n.at rfl)
theorem sqt_frz {K : PySem.W.Frag} {a : Addr} {xs : List V} (S : SSt X.K m HE H0 ρ σ H) (h : SqT K H a xs) : SqT K (frzH ρ σ H) a xs := by
  rcases h with (h | ⟨o, h⟩) | h
  · exact .inl (.inl (frz_nl S h .tup))
  · exact .inl (.inr ⟨o, frz_nl S h .frz⟩)
  · exact .inr h
theorem tk_frz (S : SSt X.K m HE H0 ρ σ H) : TK H (frzH ρ σ H) := fun b o h k => frz_nl S h (.hard k)
/-- iter walks ds; by what stands (loops), in the heap as it is (comprehensions) -/
def ITL (X : Cx) (m : Mo) (ρ : Ab) (tg iter : Expr) (ds : List PyData) : Prop := ∃ wi : TI, PI X tg iter wi ∧ ∀ σ H HE H0, SSt X.K m HE H0 ρ σ H → ∀ R : It → Hp → Prop, (∀ J H1, Gr m H H1 → Src X.K J ds (frzH ρ σ H1) → R J H1) → wi σ H R
def ITC (X : Cx) (m : Mo) (ρ : Ab) (tg iter : Expr) (ds : List PyData) : Prop := ∃ wi : TI, PI X tg iter wi ∧ ∀ σ H HE H0, SSt X.K m HE H0 ρ σ H → ∀ R : It → Hp → Prop, (∀ J H1, Gr m H H1 → Src X.K J ds H1 → R J H1) → wi σ H R
/-- a list that stands in a slot and is not changed any more -/
def ITS (X : Cx) (m : Mo) (ρ : Ab) (tg iter : Expr) (ds : List PyData) : Prop := ∃ wi : TI, PI X tg iter wi ∧ ∀ σ H HE H0, SSt X.K m HE H0 ρ σ H → ∀ R : It → Hp → Prop, (∀ J H1, Gr m H H1 → Src X.K J ds H0 → R J H1) → wi σ H R
theorem itl_tup (h : ED X m ρ e (.tuple ds)) : ITL X m ρ tg e ds := ⟨_, pi_tup (pe_ew X e), fun σ H HE H0 S R k => ew_then h S fun v b H1 g1 S1 r1 e1 => by
  subst e1
  obtain ⟨p, xs, ev, h1, h2⟩ := DV.tup_eq r1
  exact ⟨p, ev, ⟨xs, h1⟩, k _ H1 g1 (src_tup (sqt_frz S1 h1) (h2.keep (tk_frz S1)))⟩⟩
theorem itc_tup (h : ED X m ρ e (.tuple ds)) : ITC X m ρ tg e ds := ⟨_, pi_tup (pe_ew X e), fun σ H HE H0 S R k => ew_then h S fun v b H1 g1 S1 r1 e1 => by
  subst e1
  obtain ⟨p, xs, ev, h1, h2⟩ := DV.tup_eq r1
  exact ⟨p, ev, ⟨xs, h1⟩, k _ H1 g1 (src_tup h1 h2)⟩⟩
theorem itc_lst {k : LK} (h : EQ X m ρ e (· = .lst k ds)) : ITC X m ρ tg e ds := ⟨_, pi_list (pe_ew X e), fun σ H HE H0 S R kk => ew_then h S fun v b H1 g1 S1 r1 e1 => by
  subst e1
  obtain ⟨p, xs, ev, h1, h2⟩ := hr_lst r1
  exact ⟨p, ev, ⟨xs, h1⟩, kk _ H1 g1 (src_lst h1 h2)⟩⟩
/-- a new list -/
theorem itl_lst (h : EL X m ρ e ds) : ITL X m ρ tg e ds := ⟨_, pi_list (pe_ew X e), fun σ H HE H0 S R k => ew_then h S fun v b H1 g1 S1 r1 e1 => by
  subst e1
  obtain ⟨p, xs, ev, h0, h1, h2⟩ := r1
  refine ⟨p, ev, ⟨xs, .of h1⟩, k _ H1 g1 (src_lst (.of (frz_some h1 fun i ds' hi ho hv => ?_)) (h2.keep (tk_frz S1)))⟩
  obtain ⟨q, vs, eq, hq, _⟩ := own_at S hi ho hv
  cases eq
  rw [h0] at hq
  cases hq⟩
theorem its_var {i : Nat} {x : Str} {k : LK} (hk : k ≠ .own) (hi : ρ[i]? = some (some (.lst k ds))) (hN : X.N[i]? = some x) (hv : Vis X.env.scope x) (hd : (x == ("__debug__" : Str)) = false := by decide) (hcd : (x == ("__classdict__" : Str)) = false := by decide) : ITS X m ρ tg (.Name x p) ds :=
  ⟨_, pi_list (pe_var hN hv hd hcd), fun σ H HE H0 S R kk => by
    obtain ⟨v, hv', hh⟩ := S.slots i _ hi
    have hl : IsL X.K H0 v ds := by
      cases k with
      | own => exact absurd rfl hk
      | par => exact IsL.go hh S.ent S.fe
      | fz => exact hh
    obtain ⟨p, xs, ev, h1, h2⟩ := hl
    obtain ⟨p2, xs2, ev2, h3, h4⟩ := IsL.go ⟨p, xs, ev, h1, h2⟩ S.gr S.fe0
    rw [ev] at ev2
    cases ev2
    exact ⟨v, hv', p, ev, ⟨xs2, h3⟩, kk _ H Gr.refl (src_lst h1 h2)⟩⟩
theorem itl_rg1 {n : Nat} (hg : Gl X "range") (hm : X.mg "range" = none) (h : ED X m ρ a (.int n)) (hn : n ≤ 1000) (hs : starEach [a] X.env = [(false, eval a X.env)] := by rfl) : ITL X m ρ tg (.Call (.Name "range" p) [a] [] pos) ((List.range n).map enc) :=
  ⟨_, pi_range1 hg hm (pa_cons (pe_ew X a) pa_nil (by rw [hs]; rfl)) hs, fun σ H HE H0 S R k => ew_then h S fun v b H1 g1 S1 r1 e1 => by
    subst e1
    have e2 : (List.range n).map (enc : Nat → PyData) = (List.range n).map fun i => PyData.int (0 + (i : Nat)) := List.map_congr_left fun i _ => by
      show PyData.int i = PyData.int (0 + (i : Nat))
      rw [Int.zero_add]
    refine ⟨n, by rw [DV.int_eq r1], by omega, by omega, k _ H1 g1 ?_⟩
    rw [e2]
    exact src_range⟩
theorem itc_rg1 {n : Nat} (hg : Gl X "range") (hm : X.mg "range" = none) (h : ED X m ρ a (.int n)) (hn : n ≤ 1000) (hs : starEach [a] X.env = [(false, eval a X.env)] := by rfl) : ITC X m ρ tg (.Call (.Name "range" p) [a] [] pos) ((List.range n).map enc) :=
  ⟨_, pi_range1 hg hm (pa_cons (pe_ew X a) pa_nil (by rw [hs]; rfl)) hs, fun σ H HE H0 S R k => ew_then h S fun v b H1 g1 S1 r1 e1 => by
    subst e1
    have e2 : (List.range n).map (enc : Nat → PyData) = (List.range n).map fun i => PyData.int (0 + (i : Nat)) := List.map_congr_left fun i _ => by
      show PyData.int i = PyData.int (0 + (i : Nat))
      rw [Int.zero_add]
    refine ⟨n, by rw [DV.int_eq r1], by omega, by omega, k _ H1 g1 ?_⟩
    rw [e2]
    exact src_range⟩

/-! ### for, while -/
theorem for_core {body : List Stmt} {E : AE} {D : Ends} {J : It} {H0' : Hp} {I : Nat → Ab → Prop} (S : SSt X.K m HE H0' ρ σ H) (w : Src X.K J ds H0') (h0 : I 0 ρ)
    (hs : ∀ (i : Nat) d ρ', ds[i]? = some d → I i ρ' → ∃ is ρ'', TGD X tg is d ρ' ρ'' ∧ SQ X m ρ'' body { nx := I (i + 1), rt := E.rt, ct := I (i + 1) })
    (hn : ∀ ρ' σ' H', SSt X.K m HE H0' ρ' σ' H' → I ds.length ρ' → D.nx σ' H') (hrt : ∀ v b H', Gr m HE H' → hr X.K m HE H' v b → E.rt b → D.rt v H') :
    ∃ W : Nat → Nat → L2.St → Hp → Prop, (∃ n, W 0 n σ H) ∧ ∀ i n σ H, W i n σ H →
      (J.stop i H ∧ D.nx σ H) ∨ (J.go i H ∧ ∃ N : L2.St → Hp → Prop, (∀ σ' H', N σ' H' → ∃ n', n' < n ∧ W (i + 1) n' σ' H') ∧ ∀ x H', J.yld i H x H' → gw X tg x σ H' fun σ2 H2 => sws X body { D with nx := N, ct := N, bk := D.nx } σ2 H2) := by
  refine for_it w (fun i σ H => ∃ ρ', I i ρ' ∧ SSt X.K m HE H0' ρ' σ H) ⟨ρ, h0, S⟩ (fun i σ H _ ⟨ρ', _, S'⟩ => S'.gr.tl S'.fe0) (fun i x σ H H' hi ⟨ρ', hI, S'⟩ y => ?_) fun σ H ⟨ρ', hI, S'⟩ => hn ρ' σ H S' hI
  obtain ⟨d, hd, kp, dv⟩ := y
  obtain ⟨is, ρ'', ht, hb⟩ := hs i d ρ' hd hI
  have S2 := S'.go (H1 := H') (Gr.same kp)
  refine ht m HE H0' σ H' S2 x dv _ fun σ2 S3 _ => hb σ2 H' HE H0' S3 _ ⟨fun ρ3 σ3 H3 S4 q => ⟨ρ3, q, S4⟩, hrt, fun _ _ _ _ q => q.elim, fun ρ3 σ3 H3 S4 q => ⟨ρ3, q, S4⟩⟩
theorem s1_for {body : List Stmt} {E : AE} (hp : PassesOwn (model X.prog X.w) X.A X.env X.xe) (hc : X.calm = true) (it : ITL X m ρ tg iter ds) (I : Nat → Ab → Prop) (h0 : I 0 ρ) (nf : ∀ ρ', I ds.length ρ' → noFz ρ')
    (hs : ∀ (i : Nat) d ρ', ds[i]? = some d → I i ρ' → ∃ is ρ'', TGD X tg is d ρ' ρ'' ∧ SQ X m ρ'' body { nx := I (i + 1), rt := E.rt, ct := I (i + 1) }) (hd : ∀ ρ', I ds.length ρ' → E.nx ρ')
    (hf : ∀ x, foldedSetIterable iter X.env x = pure x := by intro _; rfl) : S1 X m ρ (.For tg iter body [] pos) E := by
  obtain ⟨wi, hi, hw⟩ := it
  intro σ H HE H0 S D d
  refine s1_of (ps_for hp hc hi (pg_gw X tg) (pss_sw X body) hf) (hw σ H HE H0 S _ fun J H1 g1 w => ?_)
  exact for_core (S.frz g1) w h0 hs (fun ρ' σ' H' S' q => d.nx ρ' σ' H' (S'.unfrz (frz_gr0 (S.go g1)) S.ent (nf ρ' q)) (hd ρ' q)) d.rt
theorem s1_forS {body : List Stmt} {E : AE} (hp : PassesOwn (model X.prog X.w) X.A X.env X.xe) (hc : X.calm = true) (it : ITS X m ρ tg iter ds) (I : Nat → Ab → Prop) (h0 : I 0 ρ)
    (hs : ∀ (i : Nat) d ρ', ds[i]? = some d → I i ρ' → ∃ is ρ'', TGD X tg is d ρ' ρ'' ∧ SQ X m ρ'' body { nx := I (i + 1), rt := E.rt, ct := I (i + 1) }) (hd : ∀ ρ', I ds.length ρ' → E.nx ρ')
    (hf : ∀ x, foldedSetIterable iter X.env x = pure x := by intro _; rfl) : S1 X m ρ (.For tg iter body [] pos) E := by
  obtain ⟨wi, hi, hw⟩ := it
  intro σ H HE H0 S D d
  refine s1_of (ps_for hp hc hi (pg_gw X tg) (pss_sw X body) hf) (hw σ H HE H0 S _ fun J H1 g1 w => ?_)
  exact for_core (S.go g1) w h0 hs (fun ρ' σ' H' S' q => d.nx ρ' σ' H' S' (hd ρ' q)) d.rt
/-- a list is not changed any more; behind the block its slot is forgotten -/
theorem sq_freeze {i : Nat} {ss : List Stmt} {E : AE} (hi : ρ[i]? = some (some (.lst .own ds))) (n0 : noFz ρ)
    (h : SQ X m (ρ.set i (some (.lst .fz ds))) ss { nx := fun ρ' => noFz (ρ'.set i none) ∧ E.nx (ρ'.set i none), rt := E.rt, bk := fun ρ' => noFz (ρ'.set i none) ∧ E.bk (ρ'.set i none), ct := fun ρ' => noFz (ρ'.set i none) ∧ E.ct (ρ'.set i none) }) : SQ X m ρ ss E := by
  intro σ H HE H0 S D d
  obtain ⟨v, hv, p, vs, ev, h1, h2, h3⟩ := S.slots i _ hi
  -- the heap that stands, with this list
  let H0' : Hp := frzH (ρ.set i none) σ H
  have Sd : SSt X.K m HE H0 (ρ.set i none) σ H := S.drop
  have g0 : Gr m H0 H0' := frz_gr0 Sd
  have S1 := Sd.frz Gr.refl
  have hp : H0' p = some (.lst vs) := frz_some h1 fun j es hj ho hw => by
    have hne : j ≠ i := fun z => by
      subst z
      rw [List.getElem?_set] at hj
      simp only [if_true] at hj
      split at hj <;> cases hj
    rw [List.getElem?_set_ne (fun z => hne z.symm)] at hj
    exact S.apart i j _ _ v (fun z => hne z.symm) hi hj rfl ho hv (by rw [hw, ev])
  have S2 : SSt X.K m HE H0' (ρ.set i (some (.lst .fz ds))) σ H := by
    refine ⟨S.phi, S1.ent, S1.gr, S.fe, S.tb, by rw [List.length_set]; exact S.len, fun j b e => ?_, fun j j' c c' u n e1 e2 o1 o2 => ?_⟩
    · rcases set_at e with ⟨rfl, rfl⟩ | ⟨n, e⟩
      · exact ⟨v, hv, p, vs, ev, .of hp, h2.keep (tk_frz Sd)⟩
      · exact S1.slots j b (by rw [List.getElem?_set_ne (fun z => n z.symm)]; exact e)
    · have old : ∀ {k : Nat} {c : Bd}, (ρ.set i (some (.lst .fz ds)))[k]? = some (some c) → c.own = true → ρ[k]? = some (some c) := fun {k c} ek hk => by
        rcases set_at ek with ⟨rfl, rfl⟩ | ⟨_, ek⟩
        · cases hk
        · exact ek
      exact S.apart j j' c c' u n (old e1 o1) (old e2 o2) o1 o2
  have back : ∀ {ρ' : Ab} {σ' : L2.St} {H' : Hp}, SSt X.K m HE H0' ρ' σ' H' → noFz (ρ'.set i none) → SSt X.K m HE H0 (ρ'.set i none) σ' H' := fun S' n => S'.drop.unfrz g0 S.ent n
  exact h σ H HE H0' S2 D ⟨fun ρ' σ' H' S' q => d.nx _ σ' H' (back S' q.1) q.2, d.rt, fun ρ' σ' H' S' q => d.bk _ σ' H' (back S' q.1) q.2, fun ρ' σ' H' S' q => d.ct _ σ' H' (back S' q.1) q.2⟩
/-- while: I by a measure -/
theorem s1_while {body : List Stmt} {E : AE} (hp : PassesOwn (model X.prog X.w) X.A X.env X.xe) (I : Nat → Ab → Prop) (h0 : ∃ n, I n ρ)
    (hs : ∀ n ρ', I n ρ' → ∃ k, TD X m ρ' c k ∧ (k = true → SQ X m ρ' body { nx := fun ρ'' => ∃ n', n' < n ∧ I n' ρ'', rt := E.rt, ct := fun ρ'' => ∃ n', n' < n ∧ I n' ρ'' }) ∧ (k = false → E.nx ρ')) : S1 X m ρ (.While c body [] pos) E := by
  intro σ H HE H0 S D d
  obtain ⟨n, hn⟩ := h0
  refine s1_of (ps_while hp (pt_tw X c) (pss_sw X body)) ⟨fun n σ H => ∃ ρ', I n ρ' ∧ SSt X.K m HE H0 ρ' σ H, ⟨n, ρ, hn, S⟩, ?_⟩
  rintro n σ H ⟨ρ', hI, S'⟩
  obtain ⟨k, hc, ht, hf⟩ := hs n ρ' hI
  refine tw_then hc S' fun k' H1 g1 S1 e1 => ?_
  subst e1
  cases k' with
  | true =>
    rw [if_pos rfl]
    refine ⟨fun σ' H' => ∃ n', n' < n ∧ ∃ ρ', I n' ρ' ∧ SSt X.K m HE H0 ρ' σ' H', fun σ' H' ⟨n', l, ρ2, q⟩ => ⟨n', l, ρ2, q⟩, ?_⟩
    exact ht rfl σ H1 HE H0 S1 _ ⟨fun ρ2 σ2 H2 S2 ⟨n', l, q⟩ => ⟨n', l, ρ2, q, S2⟩, d.rt, fun _ _ _ _ q => q.elim, fun ρ2 σ2 H2 S2 ⟨n', l, q⟩ => ⟨n', l, ρ2, q, S2⟩⟩
  | false =>
    rw [if_neg Bool.false_ne_true]
    exact d.nx ρ' σ H1 S1 (hf rfl)
end
end W97
end
section
set_option Elab.async false
set_option linter.all false
set_option maxRecDepth 100000
set_option maxHeartbeats 1000000
namespace W97
open PySem PySem.Spec PyProof.Rows L2 PyEnc

/-! ### comprehensions -/
def Bd.frz : Bd → Bd
  | .lst .own ds => .lst .fz ds
  | .dct .own kvs => .dct .fz kvs
  | b => b
def fzA (ρ : Ab) : Ab := ρ.map (Option.map Bd.frz)
def wipeA (ρ : Ab) : List Nat → Ab
  | [] => ρ
  | v :: vs => (wipeA ρ vs).set v none
theorem wipeA_len (ρ : Ab) : ∀ vs, (wipeA ρ vs).length = ρ.length
  | [] => rfl
  | v :: vs => by unfold wipeA; rw [List.length_set, wipeA_len ρ vs]
theorem wipeA_at {ρ : Ab} {j : Nat} {b : Bd} : ∀ {vs : List Nat}, (wipeA ρ vs)[j]? = some (some b) → ρ[j]? = some (some b) ∧ j ∉ vs
  | [], h => ⟨h, by simp⟩
  | v :: vs, h => by
    unfold wipeA at h
    by_cases e : v = j
    · subst e
      rw [List.getElem?_set] at h
      simp only [if_true] at h
      split at h <;> cases h
    · rw [List.getElem?_set_ne e] at h
      obtain ⟨h1, h2⟩ := wipeA_at h
      exact ⟨h1, fun z => (List.mem_cons.mp z).elim (fun q => e q.symm) h2⟩
theorem wipe_at {σ : L2.St} {j : Nat} : ∀ {vs : List Nat}, j ∉ vs → (wipe σ vs)[j]? = σ[j]?
  | [], _ => rfl
  | v :: vs, h => by
    rw [List.mem_cons, not_or] at h
    unfold wipe
    rw [List.getElem?_set_ne (fun z => h.1 z.symm)]
    exact wipe_at h.2
theorem wipe_idem (σ : L2.St) (vs : List Nat) : wipe (wipe σ vs) vs = wipe σ vs := by
  have at0 : ∀ (l : L2.St) (ws : List Nat) (j : Nat), j ∈ ws → (wipe l ws)[j]? = if j < l.length then some none else none := by
    intro l ws
    induction ws with
    | nil => intro j h; cases h
    | cons w ws ih =>
      intro j h
      unfold wipe
      by_cases e : w = j
      · subst e
        rw [List.getElem?_set]
        simp [wipe_length]
      · rw [List.getElem?_set_ne e]
        exact ih j ((List.mem_cons.mp h).resolve_left fun z => e z.symm)
  refine List.ext_getElem? fun j => ?_
  by_cases h : j ∈ vs
  · rw [at0 _ _ _ h, at0 _ _ _ h, wipe_length]
  · rw [wipe_at h]
section
variable {X : Cx} {m m' : Mo} {HE H0 H H1 H2 : Hp} {ρ ρ' ρ'' : Ab} {σ : L2.St} {a b c elt tg iter : Expr} {es : List Expr} {pos p : Pos} {ds : List PyData}
theorem fzA_at {j : Nat} {b : Bd} (h : (fzA ρ)[j]? = some (some b)) : ∃ b', ρ[j]? = some (some b') ∧ b = b'.frz := by
  unfold fzA at h
  rw [List.getElem?_map] at h
  cases e : ρ[j]? with
  | none => rw [e] at h; cases h
  | some o =>
    rw [e] at h
    cases o with
    | none => cases h
    | some b' => exact ⟨b', rfl, (Option.some.inj (Option.some.inj h)).symm⟩
theorem SSt.blk (ws : List Nat) (S : SSt X.K m HE H0 ρ σ H) : SSt X.K m HE H (wipeA (fzA ρ) ws) (wipe σ ws) H := by
  have no : ∀ {j : Nat} {b : Bd}, (wipeA (fzA ρ) ws)[j]? = some (some b) → b.own = false := fun {j b} e => by
    obtain ⟨b', _, e2⟩ := fzA_at (wipeA_at e).1
    subst e2
    cases b' with
    | lst k ds => cases k <;> rfl
    | dct k ds => cases k <;> rfl
    | _ => rfl
  refine ⟨S.phi, S.ent.trans S.gr, Gr.refl, S.fe, S.tb, ?_, fun j b e => ?_, fun j j' b b' v _ e1 e2 o1 => ?_⟩
  · rw [wipeA_len, wipe_length]
    unfold fzA
    rw [List.length_map]
    exact S.len
  · obtain ⟨e1, hn⟩ := wipeA_at e
    obtain ⟨b', e2, e3⟩ := fzA_at e1
    subst e3
    obtain ⟨v, hv, hh⟩ := S.slots j b' e2
    refine ⟨v, by rw [wipe_at hn]; exact hv, ?_⟩
    cases b' with
    | dat d => exact hh
    | lst k ds =>
      cases k with
      | own => obtain ⟨p, vs, ev, h1, h2, _⟩ := hh; exact ⟨p, vs, ev, .of h1, h2⟩
      | par => exact hh
      | fz => exact IsL.go hh S.gr S.fe0
    | feed => exact hh
    | val x => exact hh
    | any => exact True.intro
    | pr P k => exact hh
    | dct k kvs =>
      cases k with
      | own => obtain ⟨p, o, ev, h1, h2, _⟩ := hh; exact ⟨p, o, ev, h1, h2⟩
      | par => exact hh
      | fz => exact IsD.go hh S.gr S.fe0
  · rw [no e1] at o1
    cases o1
/-- for each context of a comprehension's block -/
def Blk (X : Cx) (scope : Scope) (φ : Cx → Prop) : Prop := ∀ (s : Shared) (H : Hp) (C : Addr) (cl : List (Str × Addr)) (fp : List Addr), φ (X.blk s H scope (compEnvC scope cl C X.env) fp)
def gB (X : Cx) (scope : Scope) (tg : Expr) : TG := fun v σ H Q => Blk X scope fun X' => gw X' tg v σ H Q
def eB (X : Cx) (scope : Scope) (e : Expr) : TE := fun σ H Q => Blk X scope fun X' => ew X' e σ H Q
def tBk (X : Cx) (scope : Scope) (e : Expr) : TT := fun σ H Q => Blk X scope fun X' => tw X' e σ H Q
/-- one turn: the target, the test, the element -/
def Turn1 (X : Cx) (m : Mo) (ρ : Ab) (scope : Scope) (ws : List Nat) (tg elt : Expr) (ifs : List Expr) (I : Nat → List PyData → Prop) (i : Nat) (d : PyData) (acc : List PyData) : Prop :=
  ∃ is ρ'', (∀ j ∈ is, j ∈ ws) ∧ (Blk X scope fun X' => TGD X' tg is d (wipeA (fzA ρ) ws) ρ'') ∧
    match ifs with
    | [] => Blk X scope fun X' => EQ X' m ρ'' elt fun b => ∃ d', b = .dat d' ∧ I (i + 1) (acc ++ [d'])
    | c :: _ => ∃ k, (Blk X scope fun X' => TD X' m ρ'' c k) ∧ (k = true → Blk X scope fun X' => EQ X' m ρ'' elt fun b => ∃ d', b = .dat d' ∧ I (i + 1) (acc ++ [d'])) ∧ (k = false → I (i + 1) acc)
def tIfs (X : Cx) (scope : Scope) : List Expr → TT
  | [] => tYes
  | c :: _ => tBk X scope c
theorem pts_ifs {ifs : List Expr} (h : ifs.length ≤ 1) {s : Shared} {H : Hp} {C : Addr} {cl : List (Str × Addr)} {fp : List Addr} : PTs (X.blk s H scope (compEnvC scope cl C X.env) fp) ifs (tIfs X scope ifs) := by
  match ifs, h with
  | [], _ => exact pts_nil
  | [c], _ => exact pts_one ⟨fun pins s' σ H' Q I h => h s H C cl fp pins s' I⟩
theorem lc_read {ifs : List Expr} {scope : Scope} {ws : List Nat} {wi : TI} (S : SSt X.K m HE H0 ρ σ H)
    (hw : ∀ σ H HE H0, SSt X.K m HE H0 ρ σ H → ∀ R : It → Hp → Prop, (∀ J H1, Gr m H H1 → Src X.K J ds H1 → R J H1) → wi σ H R) (hlen : ds.length < 100000)
    (I : Nat → List PyData → Prop) (h0 : I 0 []) (hs : ∀ (i : Nat) d acc, ds[i]? = some d → I i acc → Turn1 X m ρ scope ws tg elt ifs I i d acc) {Qv : VK}
    (k : ∀ D H' acc vs, Gr m H H' → H D = none → H' D = some (.lst vs) → DVs X.K H' vs acc → I ds.length acc → Qv (.ref D) H') : tLc wi (gB X scope tg) (tIfs X scope ifs) (eB X scope elt) ws σ H Qv := by
  refine hw σ H HE H0 S _ fun J H1 g1 w D hD => ?_
  have S1 := S.go g1
  have SB := S1.blk ws
  refine lc_it w (fun i H2 => Gr m H1 H2 ∧ ∃ acc vs, H2 D = some (.lst vs) ∧ DVs X.K H2 vs acc ∧ I i acc ∧ acc.length ≤ i) ⟨Gr.new hD, [], [], upd_same, .nil, h0, Nat.le_refl _⟩ (fun i H2 _ h => h.1.tl S1.fe1) (fun i x H2 H3 hi h y => ?_) fun H2 h => ?_
  · obtain ⟨g2, acc, vs, hD2, dv, hI, hle⟩ := h
    obtain ⟨d, hd, kp, dx⟩ := y
    have g3 : Gr m H1 H3 := g2.trans (Gr.same kp)
    have hD3 := kp _ _ hD2
    have dv3 := dv.keep ((Gr.same (m := {}) kp).tk fun a e => by cases e)
    obtain ⟨is, ρ'', hsub, ht, hrest⟩ := hs i d acc hd hI
    intro s' H' C cl fp
    refine ht s' H' C cl fp m HE H1 _ H3 (SB.go g3) x dx _ fun σ2 S2 hw2 => ⟨by rw [hw2 ws hsub, wipe_idem], ?_⟩
    have fin : ∀ (H4 : Hp) (S4 : SSt X.K m HE H1 ρ'' σ2 H4) (g4 : Gr m H3 H4), (Blk X scope fun X' => EQ X' m ρ'' elt fun b => ∃ d', b = .dat d' ∧ I (i + 1) (acc ++ [d'])) →
        eB X scope elt σ2 H4 fun y H5 => ∃ acc, H5 D = some (.lst acc) ∧ acc.length < sizeLine ∧ (Gr m H1 (upd H5 D (.lst (acc ++ [y]))) ∧ ∃ acc' vs, upd H5 D (.lst (acc ++ [y])) D = some (.lst vs) ∧ DVs X.K (upd H5 D (.lst (acc ++ [y]))) vs acc' ∧ I (i + 1) acc' ∧ acc'.length ≤ i + 1) := by
      intro H4 S4 g4 he s2 H2' C2 cl2 fp2
      refine he s2 H2' C2 cl2 fp2 σ2 H4 HE H1 S4 _ fun y b H5 g5 r5 q5 => ?_
      obtain ⟨d', eb, hI'⟩ := q5
      subst eb
      have g6 := g4.trans g5
      have f3 : FeedAt m H3 := S1.fe1.go g3
      have hD5 := g6.lst f3 hD3
      have tk := tk_lst (ys := vs ++ [y]) hD5
      refine ⟨vs, hD5, ?_, (g3.trans g6).mut hD hD5 .lst, acc ++ [d'], vs ++ [y], upd_same, ((dv3.keep (g6.tk f3)).app (.cons r5 .nil)).keep tk, hI', by simp; exact hle⟩
      rw [dv.len]
      exact Nat.lt_of_le_of_lt hle (Nat.lt_trans (Nat.lt_trans hi hlen) (by decide))
    match ifs, hrest with
    | [], hrest => exact fin H3 S2 Gr.refl hrest
    | c :: _, ⟨kk, hc, h1, h2⟩ =>
      intro s2 H2' C2 cl2 fp2
      refine tw_then (hc s2 H2' C2 cl2 fp2) S2 fun k' H4 g4 S4 e4 => ?_
      subst e4
      cases k' with
      | true =>
        rw [if_pos rfl]
        exact fin H4 S4 g4 (h1 rfl)
      | false =>
        rw [if_neg Bool.false_ne_true]
        have f3 : FeedAt m H3 := S1.fe1.go g3
        exact ⟨g3.trans g4, acc, vs, g4.lst f3 hD3, dv3.keep (g4.tk f3), h2 rfl, Nat.le_succ_of_le hle⟩
  · obtain ⟨g2, acc, vs, hD2, dv, hI, _⟩ := h
    exact k D H2 acc vs (g1.trans g2) (g1.free D hD) hD2 dv hI
theorem eq_lc {ifs : List Expr} {scope : Scope} {own : List (Str × Nat)} {Q : Bd → Prop} (hc : X.calm = true) (hN : X.N.Nodup) (it : ITC X m ρ tg iter ds) (ok : BlkOk X.N X.env.scope scope own) (h1 : ifs.length ≤ 1) (hlen : ds.length < 100000)
    (I : Nat → List PyData → Prop) (h0 : I 0 []) (hs : ∀ (i : Nat) d acc, ds[i]? = some d → I i acc → Turn1 X m ρ scope (own.map (·.2)) tg elt ifs I i d acc) (q : ∀ acc, I ds.length acc → Q (.lst .own acc))
    (hf : ∀ x, foldedSetIterable iter X.env x = pure x := by intro _; rfl) : EQ X m ρ (.ListComp elt [⟨tg, iter, ifs, 0⟩] scope pos) Q := by
  obtain ⟨wi, hi, hw⟩ := it
  intro σ H HE H0 S Qv k
  refine ew_of (pe_lc (wi := wi) (g := gB X scope tg) (tt := tIfs X scope ifs) (te := eB X scope elt) hc hN hi ok (fun s H C cl fp => ⟨fun pins s' σ H' v u Q I r h => h s H C cl fp pins s' u I r⟩) (fun s H C cl fp => pts_ifs h1) (fun s H C cl fp => ⟨fun pins s' σ H' Q I h => h s H C cl fp pins s' I⟩) hf)
    (lc_read S hw hlen I h0 hs fun D H' acc vs g hD hD' dv hI => k _ (.lst .own acc) H' g ⟨D, vs, rfl, hD, hD', dv⟩ (q acc hI))
theorem s1_setLc {ifs : List Expr} {scope : Scope} {own : List (Str × Nat)} {E : AE} {i : Nat} {y : Str} {py spos : Pos} (hc : X.calm = true) (hN : X.N.Nodup) (hy : X.N[i]? = some y) (hyl : X.env.scope.names.lookup y = some .local)
    (it : ITC X m ρ tg iter ds) (ok : BlkOk X.N X.env.scope scope own) (h1 : ifs.length ≤ 1) (hlen : ds.length < 100000)
    (I : Nat → List PyData → Prop) (h0 : I 0 []) (hs : ∀ (i : Nat) d acc, ds[i]? = some d → I i acc → Turn1 X m ρ scope (own.map (·.2)) tg elt ifs I i d acc) (q : ∀ acc, I ds.length acc → E.nx (ρ.set i (some (.lst .own acc))))
    (hsw : swapsWith (.ListComp elt [⟨tg, iter, ifs, 0⟩] scope pos) (some (.Name y py)) spos.line X.env = pure true) (hf : ∀ x, foldedSetIterable iter X.env x = pure x := by intro _; rfl) : S1 X m ρ (.Assign [.Name y py] (.ListComp elt [⟨tg, iter, ifs, 0⟩] scope pos) spos) E := by
  obtain ⟨wi, hi, hw⟩ := it
  intro σ H HE H0 S D d
  refine s1_of (ps_setLc (wi := wi) (g := gB X scope tg) (tt := tIfs X scope ifs) (te := eB X scope elt) hc hN hy hyl hsw hi ok (fun s H C cl fp => ⟨fun pins s' σ H' v u Q I r h => h s H C cl fp pins s' u I r⟩) (fun s H C cl fp => pts_ifs h1) (fun s H C cl fp => ⟨fun pins s' σ H' Q I h => h s H C cl fp pins s' I⟩) hf)
    (lc_read S hw hlen I h0 hs fun D' H' acc vs g hD hD' dv hI => d.nx _ _ H' (S.set (b := .lst .own acc) g ⟨D', vs, rfl, hD, hD', dv⟩ True.intro) (q acc hI))
/-- the plain forms: each item by a function; those that a test lets by -/
def I_map (ds : List PyData) (f : PyData → PyData) : Nat → List PyData → Prop := fun i acc => acc = (ds.take i).map f
def I_fil (ds : List PyData) (p : PyData → Bool) (f : PyData → PyData) : Nat → List PyData → Prop := fun i acc => acc = ((ds.take i).filter p).map f
theorem take_next {α : Type} {l : List α} {i : Nat} {x : α} (h : l[i]? = some x) : l.take (i + 1) = l.take i ++ [x] := by
  rw [List.take_add_one, h]; rfl
theorem turn_map {scope : Scope} {ws : List Nat} {f : PyData → PyData} {i : Nat} {d : PyData} {acc : List PyData} (hd : ds[i]? = some d) (hI : I_map ds f i acc)
    (h : ∃ is ρ'', (∀ j ∈ is, j ∈ ws) ∧ (Blk X scope fun X' => TGD X' tg is d (wipeA (fzA ρ) ws) ρ'') ∧ Blk X scope fun X' => ED X' m ρ'' elt (f d)) : Turn1 X m ρ scope ws tg elt [] (I_map ds f) i d acc := by
  obtain ⟨is, ρ'', h1, h2, h3⟩ := h
  refine ⟨is, ρ'', h1, h2, fun s H C cl fp => (h3 s H C cl fp).mono fun b e => ⟨f d, e, ?_⟩⟩
  have hI : acc = (ds.take i).map f := hI
  show acc ++ [f d] = (ds.take (i + 1)).map f
  rw [hI, take_next hd, List.map_append]; rfl
theorem turn_fil {scope : Scope} {ws : List Nat} {p : PyData → Bool} {f : PyData → PyData} {i : Nat} {d : PyData} {acc : List PyData} (hd : ds[i]? = some d) (hI : I_fil ds p f i acc)
    (h : ∃ is ρ'', (∀ j ∈ is, j ∈ ws) ∧ (Blk X scope fun X' => TGD X' tg is d (wipeA (fzA ρ) ws) ρ'') ∧ (Blk X scope fun X' => TD X' m ρ'' c (p d)) ∧ (p d = true → Blk X scope fun X' => ED X' m ρ'' elt (f d))) : Turn1 X m ρ scope ws tg elt [c] (I_fil ds p f) i d acc := by
  obtain ⟨is, ρ'', h1, h2, h3, h4⟩ := h
  have hI : acc = ((ds.take i).filter p).map f := hI
  refine ⟨is, ρ'', h1, h2, p d, h3, fun hp s H C cl fp => (h4 hp s H C cl fp).mono fun b e => ⟨f d, e, ?_⟩, fun hp => ?_⟩
  · show acc ++ [f d] = ((ds.take (i + 1)).filter p).map f
    rw [hI, take_next hd, List.filter_append, List.map_append]
    simp [hp]
  · show acc = ((ds.take (i + 1)).filter p).map f
    rw [hI, take_next hd, List.filter_append, List.map_append]
    simp [hp]
theorem el_map {scope : Scope} {own : List (Str × Nat)} {f : PyData → PyData} (hc : X.calm = true) (hN : X.N.Nodup) (it : ITC X m ρ tg iter ds) (ok : BlkOk X.N X.env.scope scope own) (hlen : ds.length < 100000)
    (h : ∀ d, d ∈ ds → ∃ is ρ'', (∀ j ∈ is, j ∈ own.map (·.2)) ∧ (Blk X scope fun X' => TGD X' tg is d (wipeA (fzA ρ) (own.map (·.2))) ρ'') ∧ Blk X scope fun X' => ED X' m ρ'' elt (f d))
    (hf : ∀ x, foldedSetIterable iter X.env x = pure x := by intro _; rfl) : EL X m ρ (.ListComp elt [⟨tg, iter, [], 0⟩] scope pos) (ds.map f) :=
  eq_lc hc hN it ok (Nat.zero_le _) hlen (I_map ds f) rfl (fun i d acc hd hI => turn_map hd hI (h d (List.mem_of_getElem? hd))) (fun acc hI => by
    have hI : acc = (ds.take ds.length).map f := hI
    rw [hI, List.take_length]) hf
theorem el_fil {scope : Scope} {own : List (Str × Nat)} {p : PyData → Bool} {f : PyData → PyData} (hc : X.calm = true) (hN : X.N.Nodup) (it : ITC X m ρ tg iter ds) (ok : BlkOk X.N X.env.scope scope own) (hlen : ds.length < 100000)
    (h : ∀ d, d ∈ ds → ∃ is ρ'', (∀ j ∈ is, j ∈ own.map (·.2)) ∧ (Blk X scope fun X' => TGD X' tg is d (wipeA (fzA ρ) (own.map (·.2))) ρ'') ∧ (Blk X scope fun X' => TD X' m ρ'' c (p d)) ∧ (p d = true → Blk X scope fun X' => ED X' m ρ'' elt (f d)))
    (hf : ∀ x, foldedSetIterable iter X.env x = pure x := by intro _; rfl) : EL X m ρ (.ListComp elt [⟨tg, iter, [c], 0⟩] scope pos) ((ds.filter p).map f) :=
  eq_lc hc hN it ok (Nat.le_refl _) hlen (I_fil ds p f) rfl (fun i d acc hd hI => turn_fil hd hI (h d (List.mem_of_getElem? hd))) (fun acc hI => by
    have hI : acc = ((ds.take ds.length).filter p).map f := hI
    rw [hI, List.take_length]) hf
theorem s1_setMap {scope : Scope} {own : List (Str × Nat)} {f : PyData → PyData} {E : AE} {i : Nat} {y : Str} {py spos : Pos} (hc : X.calm = true) (hN : X.N.Nodup) (hy : X.N[i]? = some y) (hyl : X.env.scope.names.lookup y = some .local) (it : ITC X m ρ tg iter ds) (ok : BlkOk X.N X.env.scope scope own) (hlen : ds.length < 100000)
    (h : ∀ d, d ∈ ds → ∃ is ρ'', (∀ j ∈ is, j ∈ own.map (·.2)) ∧ (Blk X scope fun X' => TGD X' tg is d (wipeA (fzA ρ) (own.map (·.2))) ρ'') ∧ Blk X scope fun X' => ED X' m ρ'' elt (f d)) (q : E.nx (ρ.set i (some (.lst .own (ds.map f)))))
    (hsw : swapsWith (.ListComp elt [⟨tg, iter, [], 0⟩] scope pos) (some (.Name y py)) spos.line X.env = pure true) (hf : ∀ x, foldedSetIterable iter X.env x = pure x := by intro _; rfl) : S1 X m ρ (.Assign [.Name y py] (.ListComp elt [⟨tg, iter, [], 0⟩] scope pos) spos) E :=
  s1_setLc hc hN hy hyl it ok (Nat.zero_le _) hlen (I_map ds f) rfl (fun i d acc hd hI => turn_map hd hI (h d (List.mem_of_getElem? hd))) (fun acc hI => by
    have hI : acc = (ds.take ds.length).map f := hI
    rw [hI, List.take_length]; exact q) hsw hf
theorem s1_setFil {scope : Scope} {own : List (Str × Nat)} {p : PyData → Bool} {f : PyData → PyData} {E : AE} {i : Nat} {y : Str} {py spos : Pos} (hc : X.calm = true) (hN : X.N.Nodup) (hy : X.N[i]? = some y) (hyl : X.env.scope.names.lookup y = some .local) (it : ITC X m ρ tg iter ds) (ok : BlkOk X.N X.env.scope scope own) (hlen : ds.length < 100000)
    (h : ∀ d, d ∈ ds → ∃ is ρ'', (∀ j ∈ is, j ∈ own.map (·.2)) ∧ (Blk X scope fun X' => TGD X' tg is d (wipeA (fzA ρ) (own.map (·.2))) ρ'') ∧ (Blk X scope fun X' => TD X' m ρ'' c (p d)) ∧ (p d = true → Blk X scope fun X' => ED X' m ρ'' elt (f d))) (q : E.nx (ρ.set i (some (.lst .own ((ds.filter p).map f)))))
    (hsw : swapsWith (.ListComp elt [⟨tg, iter, [c], 0⟩] scope pos) (some (.Name y py)) spos.line X.env = pure true) (hf : ∀ x, foldedSetIterable iter X.env x = pure x := by intro _; rfl) : S1 X m ρ (.Assign [.Name y py] (.ListComp elt [⟨tg, iter, [c], 0⟩] scope pos) spos) E :=
  s1_setLc hc hN hy hyl it ok (Nat.le_refl _) hlen (I_fil ds p f) rfl (fun i d acc hd hI => turn_fil hd hI (h d (List.mem_of_getElem? hd))) (fun acc hI => by
    have hI : acc = ((ds.take ds.length).filter p).map f := hI
    rw [hI, List.take_length]; exact q) hsw hf
end

/-! ### defs -/
/-- the promise of a def: Fs, which arguments it takes and what it then hands back -/
def Pr (K : PySem.W.Frag) (w : World) (tb : Option (List NdefX.NTab)) (fed : Bool) (Fs : List Bd → (Bd → Prop) → Prop) : Sp := fun vs H Qv _ => ∃ (fa : Option Addr) (ca : Addr) (bs : List Bd) (R : Bd → Prop),
  (fed = false → fa = none) ∧ FeedAt { tb := tb, fa := fa, ca := ca, wd := some w } H ∧ (∀ T, tb = some T → NdefX.TabsN T H) ∧ Fs bs R ∧ HRs K { tb := tb, fa := fa, ca := ca, wd := some w } H H vs (bs.map Bd.read) ∧
    ∀ v b H', Gr { tb := tb, fa := fa, ca := ca, wd := some w } H H' → hr K { tb := tb, fa := fa, ca := ca, wd := some w } H H' v b → R b → Qv v H'
/-- a def by its name -/
structure Fn (P : Program) (w : World) (K : PySem.W.Frag) (mg : Str → Option Value) (base : Heap) (x : Str) (k : Nat) (ps : List Str) (tb : Option (List NdefX.NTab)) (fed : Bool) (Fs : List Bd → (Bd → Prop) → Prop) : Prop where
  ex : ∃ (f : Addr) (fd : FuncData), FnOk P w K mg base CX0 k f fd ps (Pr K w tb fed Fs) ∧ mg x = some (.ref f) ∧ PySem.W.keepIn K (.ref f) = true ∧ Binds K fd ps []
section
variable {X : Cx} {m : Mo} {HE H0 H H1 : Hp} {ρ : Ab} {σ : L2.St} {e : Expr} {es : List Expr} {pos p : Pos} {Fs : List Bd → (Bd → Prop) → Prop} {tb : Option (List NdefX.NTab)} {fed : Bool}
theorem HRs.mode {K : PySem.W.Frag} {m m' : Mo} {H H' : Hp} (hw : m'.wd = m.wd) (hf : m'.fa = m.fa ∨ m'.fa = none) : ∀ {bs : List Bd} {vs : List V}, HRs K m H H' vs bs → (m'.fa = none → ∀ b ∈ bs, b ≠ .feed) → HRs K m' H H' vs bs
  | [], _, h, _ => by cases h; exact .nil
  | b :: bs, _, h, n => by
    cases h with
    | cons a t =>
      refine .cons ?_ (t.mode hw hf fun z c hc => n z c (List.mem_cons_of_mem _ hc))
      cases b with
      | feed =>
        rcases hf with z | z
        · obtain ⟨a, e1, e2⟩ := a
          exact ⟨a, by rw [z]; exact e1, e2⟩
        · exact absurd rfl (n z .feed List.mem_cons_self)
      | dat d => exact a
      | lst k ds => cases k <;> exact a
      | val x => exact a
      | any => exact True.intro
      | pr P k => exact a
      | dct k kvs =>
        cases k with
        | own => exact (show ∃ p o, _ = V.ref p ∧ H p = none ∧ H' p = some o ∧ DObj K m'.wd H' p o kvs by rw [hw]; exact a)
        | par => exact a
        | fz => exact a
theorem hr_mode {K : PySem.W.Frag} {m m' : Mo} {H H' : Hp} {v : V} {b : Bd} (hw : m'.wd = m.wd) (hf : m.fa = none ∨ m'.fa = m.fa) (h : hr K m H H' v b) : hr K m' H H' v b := by
  cases b with
  | feed =>
    obtain ⟨a, e1, e2⟩ := h
    rcases hf with z | z
    · rw [z] at e1; cases e1
    · exact ⟨a, by rw [z]; exact e1, e2⟩
  | dat d => exact h
  | lst k ds => cases k <;> exact h
  | val x => exact h
  | any => exact True.intro
  | pr P k => exact h
  | dct k kvs =>
    cases k with
    | own => exact (show ∃ p o, v = V.ref p ∧ H p = none ∧ H' p = some o ∧ DObj K m'.wd H' p o kvs by rw [hw]; exact h)
    | par => exact h
    | fz => exact h
def noFeed (bs : List Bd) : Prop := ∀ b ∈ bs, b ≠ .feed
theorem eq_call {x : Str} {k : Nat} {ps : List Str} {Q : Bd → Prop} (F : Fn X.prog X.w X.K X.mg X.base x k ps tb fed Fs) (hr' : Room k X.A) (hg : Gl X x) (hw : m.wd = some X.w) (ht : tb = none ∨ tb = m.tb)
    (ha : AQ X m ρ (e :: es) fun bs => (fed = false → noFeed bs) ∧ ∃ bs' R, bs'.map Bd.read = bs.map Bd.read ∧ Fs bs' R ∧ ∀ b, R b → Q b) (hdb : (x == ("__debug__" : Str)) = false := by decide)
    (he : starEach (e :: es) X.env = (false, eval e X.env) :: starEach es X.env := by rfl) (hpl : (backTo pos (starEach es X.env)).any (·.1) = false := by rfl) : EQ X m ρ (.Call (.Name x p) (e :: es) [] pos) Q := by
  obtain ⟨f, fd, hF, hm, hk, hb⟩ := F.ex
  intro σ H HE H0 S Qv kk
  refine ew_of (pe_call hF hr' hg hm hk hb .nil pass0 (pa_aw X (e :: es)) hdb he hpl) (ha σ H HE H0 S _ fun vs bs H1 g1 r1 q => ?_)
  obtain ⟨hn, bs', R, eb, hfs, hR⟩ := q
  have S1 := S.go g1
  rw [List.append_nil]
  show Pr X.K X.w tb fed Fs vs H1 Qv E0
  have nf : ∀ c ∈ bs.map Bd.read, fed = false → c ≠ .feed := fun c hc hfed z => by
    obtain ⟨d, hd, e⟩ := List.mem_map.mp hc
    rw [z] at e
    cases d with
    | feed => exact hn hfed _ hd rfl
    | _ => cases e
  have tabs : ∀ T, tb = some T → NdefX.TabsN T H1 := fun T e => by
    rcases ht with z | z
    · rw [z] at e; cases e
    · exact S1.tabs T (z.symm.trans e)
  cases fed with
  | false =>
    refine ⟨none, 0, bs', R, fun _ => rfl, (fun a e => by cases e), tabs, hfs, ?_, fun v b H' g r q => kk v b H' (g1.trans (g.into S1.fe1 (.inl rfl) ht)) (hr_back (hr_mode hw (.inl rfl) r) g1) (hR b q)⟩
    rw [eb]
    exact r1.read.mode hw.symm (.inr rfl) fun _ c hc => nf c hc rfl
  | true =>
    refine ⟨m.fa, m.ca, bs', R, (fun z => by cases z), S1.fe1, tabs, hfs, ?_, fun v b H' g r q => kk v b H' (g1.trans (g.into S1.fe1 (.inr ⟨rfl, rfl⟩) ht)) (hr_back (hr_mode (m := { tb := tb, fa := m.fa, ca := m.ca, wd := some X.w }) (m' := m) hw (.inr rfl) r) g1) (hR b q)⟩
    rw [eb]
    refine HRs.mode (m := m) (m' := { tb := tb, fa := m.fa, ca := m.ca, wd := some X.w }) hw.symm (.inl rfl) r1.read fun z c hc e => ?_
    obtain ⟨i, hi, ei⟩ := List.getElem_of_mem hc
    obtain ⟨v, _, hv⟩ := r1.read.at (List.getElem?_eq_getElem hi)
    rw [ei, e] at hv
    obtain ⟨a, e1, _⟩ := hv
    have z : m.fa = none := z
    rw [z] at e1
    cases e1
/-- data in, data out -/
def Fdd (f : List PyData → PyData → Prop) : List Bd → (Bd → Prop) → Prop := fun bs R => ∃ ds d, bs = ds.map Bd.dat ∧ f ds d ∧ R = (· = .dat d)
theorem read_dat (ds : List PyData) : (ds.map Bd.dat).map Bd.read = ds.map Bd.dat := by rw [List.map_map]; rfl
theorem ed_call {x : Str} {k : Nat} {ps : List Str} {f : List PyData → PyData → Prop} {ds : List PyData} {d : PyData} (F : Fn X.prog X.w X.K X.mg X.base x k ps none false (Fdd f)) (hr' : Room k X.A) (hg : Gl X x) (hw : m.wd = some X.w) (ha : AD X m ρ (e :: es) ds) (hf : f ds d) (hdb : (x == ("__debug__" : Str)) = false := by decide)
    (he : starEach (e :: es) X.env = (false, eval e X.env) :: starEach es X.env := by rfl) (hpl : (backTo pos (starEach es X.env)).any (·.1) = false := by rfl) : ED X m ρ (.Call (.Name x p) (e :: es) [] pos) d :=
  eq_call F hr' hg hw (.inl rfl) (fun σ H HE H0 S Qv k => ha σ H HE H0 S Qv fun vs bs H' g r q => k vs bs H' g r ⟨(fun _ b hb z => by
    rw [q] at hb
    obtain ⟨d, _, e⟩ := List.mem_map.mp hb
    rw [z] at e
    cases e), ds.map Bd.dat, _, by rw [q], ⟨ds, d, rfl, hf, rfl⟩, fun b h => h⟩) hdb he hpl
end
section
variable {P : Program} {w : World} {K : PySem.W.Frag} {mg : Str → Option Value} {base : Heap} {x qual : Str} {params : Arguments} {body : List Stmt} {scope : Scope} {dvs : List V} {kws : List (Str × V)} {f : Addr} {fd : FuncData} {tb : Option (List NdefX.NTab)} {fed : Bool} {Fs : List Bd → (Bd → Prop) → Prop}
/-- what the slots hold at the entry -/
def rho (N : List Str) (bs : List Bd) : Ab := bs.map some ++ List.replicate (N.length - bs.length) none
theorem fn_by {N ps : List Str} {k : Nat} (F : FunD K x qual params body scope dvs kws f fd) (S : FnScope N ps scope) (hps : ps.length ≤ N.length) (len : ∀ bs R, Fs bs R → bs.length = ps.length)
    (hb : ∀ (cdv : Value) (A : Around) (outer : List Env) (s : Shared) (H : Hp) (E : XK) (fa : Option Addr) (ca : Addr) (bs : List Bd) (R : Bd → Prop), Room k (A.deeper (envOfC qual scope s.heap.objs.size f cdv)) → (fed = false → fa = none) → Fs bs R →
      SQ (cxOf CX0 P w K mg base N qual scope f cdv A outer s H E).nox { tb := tb, fa := fa, ca := ca, wd := some w } (rho N (bs.map Bd.read)) body { nx := fun _ => R (.dat .none), rt := R }) :
    FnOk P w K mg base CX0 (k + 1) f fd ps (Pr K w tb fed Fs) := by
  refine F.ok S (fun vs H Q E h => ?_) fun cdv A outer s H vs Q E hr' h => ?_
  · obtain ⟨fa, ca, bs, R, _, _, _, h1, h2, _⟩ := h
    rw [h2.len, List.length_map]
    exact len bs R h1
  · obtain ⟨fa, ca, bs, R, h1, h2, h3, h4, h5, h6⟩ := h
    refine ⟨_, PSs.nox (pss_sw _ body), ?_⟩
    have hlen := len bs R h4
    have hvl : vs.length = bs.length := by rw [h5.len, List.length_map]
    refine hb cdv A outer s H E fa ca bs R hr' h1 h4 (L2.start N vs) H H H ⟨True.intro, Gr.refl, Gr.refl, h2, h3, ?_, fun i b e => ?_, fun i j b b' v _ e1 _ o1 => ?_⟩ _ ⟨fun ρ' σ' H' S' q => ?_, fun v b H' g r q => h6 v b H' g r q, fun _ _ _ _ q => q.elim, fun _ _ _ _ q => q.elim⟩
    · unfold rho L2.start
      simp only [List.length_append, List.length_map, List.length_replicate]
      omega
    · have hi : i < bs.length := by
        rcases Nat.lt_or_ge i bs.length with z | z
        · exact z
        · unfold rho at e
          rw [List.getElem?_append_right (by simpa using z), List.getElem?_replicate] at e
          split at e <;> cases e
      unfold rho at e
      rw [List.getElem?_append_left (by simpa using hi), List.getElem?_map] at e
      cases eb : (bs.map Bd.read)[i]? with
      | none => rw [eb] at e; cases e
      | some c =>
        rw [eb] at e
        have e := Option.some.inj (Option.some.inj e)
        subst e
        obtain ⟨v, hv, hh⟩ := h5.at eb
        refine ⟨v, ?_, ?_⟩
        · unfold L2.start
          rw [List.getElem?_append_left (by rw [List.length_map]; omega), List.getElem?_map, hv]; rfl
        · rw [List.getElem?_map] at eb
          cases ec : bs[i]? with
          | none => rw [ec] at eb; cases eb
          | some c0 =>
            rw [ec] at eb
            have eb := Option.some.inj eb
            subst eb
            cases c0 with
            | dat d => exact hh
            | lst k ds => exact hh
            | feed => exact hh
            | val x => exact hh
            | any => exact True.intro
            | pr P k => exact hh
            | dct k kvs => exact True.intro
    · exfalso
      unfold rho at e1
      have hi : i < bs.length := by
        rcases Nat.lt_or_ge i bs.length with z | z
        · exact z
        · rw [List.getElem?_append_right (by simpa using z), List.getElem?_replicate] at e1
          split at e1 <;> cases e1
      rw [List.getElem?_append_left (by simpa using hi), List.getElem?_map, List.getElem?_map] at e1
      cases ec : bs[i]? with
      | none => rw [ec] at e1; cases e1
      | some c0 =>
        rw [ec] at e1
        have e1 := Option.some.inj (Option.some.inj e1)
        subst e1
        cases c0 <;> cases o1
    · exact h6 .non (.dat .none) H' (S'.ent.trans S'.gr) .non q
end
end W97
end
section
set_option Elab.async false
set_option linter.all false
set_option maxRecDepth 100000
set_option maxHeartbeats 1000000
namespace W97
open PySem PySem.Spec PyProof.Rows L2

/-- what the module's names are -/
structure En (K : PySem.W.Frag) (mg : Str → Option Value) : Prop where
  says : He.SaysD fa fn K
  heap : ∃ h : Heap, K.In h ∧ h.Ns mainGlobals mg
section
variable {P : Program} {w : World} {K : PySem.W.Frag} {mg : Str → Option Value} {base : Heap}
theorem En.glo (E : En K mg) (i : Nat) {x : Str} (h : fa[i]? = some (.glo x) := by rfl) : mg x = some (.ref (He.ga K x)) := by
  obtain ⟨h', X, G⟩ := E.heap
  exact He.glo_ok X G (E.says.fact i h)
theorem En.free (E : En K mg) (i : Nat) {x : Str} (h : fa[i]? = some (.free x) := by rfl) : mg x = none := by
  obtain ⟨h', X, G⟩ := E.heap
  exact He.free_ok X G (E.says.fact i h)
theorem En.str (E : En K mg) (i : Nat) {x z : Str} (h : fa[i]? = some (.str x z) := by rfl) : ∃ t, mg x = some (.str z t) := by
  obtain ⟨h', X, G⟩ := E.heap
  exact He.str_ok X G (E.says.fact i h)
theorem En.def (E : En K mg) (i : Nat) {x : Str} {j : Nat} {dfl kwd} (h : fn[i]? = some (dAt x j dfl kwd) := by rfl) : ∃ fd, FunD K x x (defArgs (topS j)) (defBody (topS j)) (defScope (topS j)) (dfl.map (He.Dv.v K)) (kwd.map fun q => (q.1, q.2.v K)) (He.ga K x) fd :=
  E.says.def_ i h
end
section
variable {K : PySem.W.Frag} {mg : Str → Option Value}
theorem En.tuple_ (E : En K mg) : mg "tuple" = none := E.free 74
theorem En.sorted_ (E : En K mg) : mg "sorted" = none := E.free 75
theorem En.set_ (E : En K mg) : mg "set" = none := E.free 76
theorem En.range_ (E : En K mg) : mg "range" = none := E.free 77
theorem En.len_ (E : En K mg) : mg "len" = none := E.free 78
theorem En.min_ (E : En K mg) : mg "min" = none := E.free 79
theorem En.all_ (E : En K mg) : mg "all" = none := E.free 80
theorem En.any_ (E : En K mg) : mg "any" = none := E.free 81
theorem En.isinstance_ (E : En K mg) : mg "isinstance" = none := E.free 82
theorem En.int_ (E : En K mg) : mg "int" = none := E.free 83
theorem En.str_ (E : En K mg) : mg "str" = none := E.free 84
theorem En.bool_ (E : En K mg) : mg "bool" = none := E.free 85
theorem En.list_ (E : En K mg) : mg "list" = none := E.free 86
theorem En.enumerate_ (E : En K mg) : mg "enumerate" = none := E.free 87
end
end W97
end
section
set_option Elab.async false
set_option linter.all false
set_option maxRecDepth 100000
set_option maxHeartbeats 1000000
namespace W97
open PySem PySem.Spec PyProof.Rows L2 PyEnc

/-! ### defs by name -/
section
variable {P : Program} {w : World} {K : PySem.W.Frag} {mg : Str → Option Value} {base : Heap} {tb : Option (List NdefX.NTab)} {fed : Bool} {Fs : List Bd → (Bd → Prop) → Prop}
/-- the contexts that a def's body runs in -/
def cxB (P : Program) (w : World) (K : PySem.W.Frag) (mg : Str → Option Value) (base : Heap) (N : List Str) (x : Str) (j : Nat) (f : Addr) (cdv : Value) (A : Around) (outer : List Env) (s : Shared) (H : Hp) (E : XK) : Cx :=
  (cxOf CX0 P w K mg base N x (defScope (topS j)) f cdv A outer s H E).nox
/-- a def with no defaults -/
theorem mkFn (En : En K mg) (i : Nat) {x : Str} {j k : Nat} {N ps : List Str} (S : FnScope N ps (defScope (topS j))) (hps : ps.length ≤ N.length) (len : ∀ bs R, Fs bs R → bs.length = ps.length)
    (bnd : ∀ (kV doc pm : Value) (an : Option Addr) (cdv ct : Value) (us : List Value), us.length = ps.length → bindArgs (PySem.W.fnOf x x (defArgs (topS j)) (defBody (topS j)) (defScope (topS j)) .none kV doc pm an cdv ct) ⟨us, []⟩ = pure (ps.zip us))
    (hb : ∀ (f : Addr) (cdv : Value) (A : Around) (outer : List Env) (s : Shared) (H : Hp) (E : XK) (fa : Option Addr) (ca : Addr) (bs : List Bd) (R : Bd → Prop), Room k (cxB P w K mg base N x j f cdv A outer s H E).A → (fed = false → fa = none) → Fs bs R →
      SQ (cxB P w K mg base N x j f cdv A outer s H E) { tb := tb, fa := fa, ca := ca, wd := some w } (rho N (bs.map Bd.read)) (defBody (topS j)) { nx := fun _ => R (.dat .none), rt := R })
    (h : fn[i]? = some (dAt x j [] []) := by rfl) (h2 : fa[i]? = some (.glo x) := by rfl) : Fn P w K mg base x (k + 1) ps tb fed Fs := by
  obtain ⟨fd, F⟩ := En.def i h
  exact ⟨_, fd, fn_by F S hps len fun cdv A outer s H E fa ca bs R hr hf hq => hb _ cdv A outer s H E fa ca bs R hr hf hq, En.glo i h2, F.kp, F.bindsN bnd⟩
end

section
variable {X : Cx} {m : Mo} {ρ ρ' : Ab} {σ : L2.St} {a b c e : Expr} {es : List Expr} {pos p : Pos} {α β : Type} [DecidableEq α] [PyEnc α] [DecidableEq β] [PyEnc β]
/-! ### names -/
theorem v (i : Nat) {x : Str} {d : PyData} (hi : ρ[i]? = some (some (.dat d)) := by rfl) (hN : X.N[i]? = some x := by rfl) (hv : Vis X.env.scope x := by first | exact .inl rfl | exact .inr (.inl rfl) | exact .inr (.inr rfl))
    (hd : (x == ("__debug__" : Str)) = false := by decide) (hcd : (x == ("__classdict__" : Str)) = false := by decide) : ED X m ρ (.Name x pos) d := ed_var hi hN hv hd hcd
theorem vl (i : Nat) {x : Str} {k : LK} {ds : List PyData} (hi : ρ[i]? = some (some (.lst k ds)) := by rfl) (hN : X.N[i]? = some x := by rfl) (hv : Vis X.env.scope x := by first | exact .inl rfl | exact .inr (.inl rfl) | exact .inr (.inr rfl))
    (hd : (x == ("__debug__" : Str)) = false := by decide) (hcd : (x == ("__classdict__" : Str)) = false := by decide) : EQ X m ρ (.Name x pos) (· = .lst .par ds) := eq_var hi hN hv rfl hd hcd
/-! ### by kinds -/
theorem lenE {l : List α} (hg : Gl X "len") (hm : X.mg "len" = none) (h : ED X m ρ a (enc l)) (hs : starEach [a] X.env = (false, eval a X.env) :: starEach [] X.env := by rfl) (hpl : (backTo pos (starEach [] X.env)).any (·.1) = false := by rfl) : ED X m ρ (.Call (.Name "len" p) [a] [] pos) (.int l.length) := by
  have q := ed_lenT (ds := l.map enc) (p := p) (pos := pos) hg hm h hs hpl
  rwa [List.length_map] at q
theorem lenL {l : List α} {k : LK} (hg : Gl X "len") (hm : X.mg "len" = none) (h : EQ X m ρ a (· = .lst k (l.map enc))) (hs : starEach [a] X.env = (false, eval a X.env) :: starEach [] X.env := by rfl) (hpl : (backTo pos (starEach [] X.env)).any (·.1) = false := by rfl) : ED X m ρ (.Call (.Name "len" p) [a] [] pos) (.int l.length) := by
  have q := ed_lenL (p := p) (pos := pos) hg hm h hs hpl
  rwa [List.length_map] at q
end
end W97
end
section
set_option Elab.async false
set_option linter.all false
set_option maxRecDepth 100000
set_option maxHeartbeats 1000000
/-! Sets of nested tuples: what is put in is a member, all members were put in. Tables up to 2048 slots. -/
namespace W97
open PySem PySem.Spec PyProof.Rows L2

/-! ### the masks: each slot is met -/
def MaskK (m : Nat) : Prop := m = 7 ∨ m = 31 ∨ m = 127 ∨ m = 511 ∨ m = 2047
def metBits (m : Nat) : Nat → Nat → Nat → Nat
  | 0, _, acc => acc
  | k + 1, x, acc => metBits m k ((x * 5 + 1) % (m + 1)) (acc ||| 2 ^ x)
theorem lcgI_next (m x : Nat) : ∀ b, lcgI m ((x * 5 + 1) % (m + 1)) b = lcgI m x (b + 1)
  | 0 => rfl
  | b + 1 => by
    show (lcgI m ((x * 5 + 1) % (m + 1)) b * 5 + 1) % (m + 1) = (lcgI m x (b + 1) * 5 + 1) % (m + 1)
    rw [lcgI_next m x b]
theorem met_bit (m j : Nat) : ∀ k x acc, (metBits m k x acc).testBit j = true → acc.testBit j = true ∨ ∃ b, b < k ∧ lcgI m x b = j
  | 0, _, _, h => .inl h
  | k + 1, x, acc, h => by
    rcases met_bit m j k _ _ h with z | ⟨b, hb, e⟩
    · rw [Nat.testBit_or, Bool.or_eq_true] at z
      rcases z with z | z
      · exact .inl z
      · rw [Nat.testBit_two_pow, decide_eq_true_eq] at z
        exact .inr ⟨0, Nat.succ_pos k, z⟩
    · exact .inr ⟨b + 1, Nat.succ_lt_succ hb, by rw [← lcgI_next]; exact e⟩
theorem met7 : metBits 7 8 0 0 = 2 ^ 8 - 1 := by decide +kernel
theorem met31 : metBits 31 32 0 0 = 2 ^ 32 - 1 := by decide +kernel
theorem met127 : metBits 127 128 0 0 = 2 ^ 128 - 1 := by decide +kernel
theorem met511 : metBits 511 512 0 0 = 2 ^ 512 - 1 := by decide +kernel
theorem met2047 : metBits 2047 2048 0 0 = 2 ^ 2048 - 1 := by decide +kernel
theorem met_all {m j : Nat} (hm : MaskK m) (hj : j ≤ m) : ∃ b, b ≤ m ∧ lcgN m b = j := by
  have key : metBits m (m + 1) 0 0 = 2 ^ (m + 1) - 1 := by
    rcases hm with e | e | e | e | e <;> subst e
    · exact met7
    · exact met31
    · exact met127
    · exact met511
    · exact met2047
  have hb : (metBits m (m + 1) 0 0).testBit j = true := by
    rw [key, Nat.testBit_two_pow_sub_one, decide_eq_true_eq]
    omega
  rcases met_bit m j _ _ _ hb with z | ⟨b, h1, h2⟩
  · simp at z
  · refine ⟨b, by omega, ?_⟩
    have e := lcgN_add m 0 b
    rw [Nat.zero_add] at e
    rw [← e]
    exact h2
theorem met_round {m : Nat} (hm : MaskK m) : lcgN m (m + 1) = 0 := by
  rcases hm with e | e | e | e | e <;> subst e <;> decide +kernel
theorem met_mod {m : Nat} (hm : MaskK m) : ∀ k, lcgN m (m + 1 + k) = lcgN m k
  | 0 => met_round hm
  | k + 1 => by
    show (lcgN m (m + 1 + k) * 5 + 1) % (m + 1) = _
    rw [met_mod hm k]; rfl
theorem met_from {m i j : Nat} (hm : MaskK m) (hi : i ≤ m) (hj : j ≤ m) : ∃ k, k ≤ m ∧ lcgI m i k = j := by
  obtain ⟨x, hx, ex⟩ := met_all hm hi
  obtain ⟨y, hy, ey⟩ := met_all hm hj
  subst ex ey
  by_cases c : y < x
  · exact ⟨m + 1 + y - x, by omega, by rw [lcgN_add, show x + (m + 1 + y - x) = m + 1 + y by omega, met_mod hm]⟩
  · exact ⟨y - x, by omega, by rw [lcgN_add, show x + (y - x) = y by omega]⟩
theorem met_run {m j : Nat} (hm : MaskK m) (h : Int) (hj : j ≤ m) : ∃ n, n ≤ m + 12 ∧ runI m (SetTable.bits h) n = j := by
  obtain ⟨k, hk, e⟩ := met_from hm (runI_le m (SetTable.bits h) 12) hj
  exact ⟨12 + k, by omega, (runI_tail (bits_lt h) k).trans e⟩
theorem met_way {m j : Nat} (hm : MaskK m) (h : Int) (hj : j ≤ m) : ∃ k, k < 10 * SetTable.turns m ∧ way m h k = j := by
  obtain ⟨n, hn, e⟩ := met_run hm h hj
  obtain ⟨k, hk, e2⟩ := run_nth m (SetTable.bits h) n
  refine ⟨k, ?_, ?_⟩
  · show k < 10 * (m + 15)
    omega
  · show (nth m _ k).j = j
    rw [e2]; exact e
/-- the first place on the way that is not taken -/
theorem first_free {l : List Nat} {m : Nat} (hm : MaskK m) (hl : l.length ≤ m) (h : Int) : ∃ K, K < 10 * SetTable.turns m ∧ way m h K ∉ l ∧ ∀ k, k < K → way m h k ∈ l := by
  obtain ⟨j, hj, hn⟩ := st_missing l (m + 1) (by omega)
  obtain ⟨k, hk, e⟩ := met_way hm h (Nat.le_of_lt_succ hj)
  obtain ⟨K, h1, h2, h3⟩ := st_least (p := fun k => way m h k ∉ l) k (by rw [e]; exact hn)
  exact ⟨K, by omega, h2, fun c hc => Classical.not_not.mp (h3 c hc)⟩
theorem way_in {m : Nat} {h : Int} {k : Nat} : way m h k ≤ m := by
  have hi : SetTable.bits h % (m + 1) ≤ m := Nat.le_of_lt_succ (Nat.mod_lt _ (Nat.succ_pos _))
  have r := runEnd_bd hi
  have q := nth_in (m := m) k (runAt m (SetTable.bits h % (m + 1)) (SetTable.bits h)) (show SetTable.bits h % (m + 1) + (SetTable.runEnd m (SetTable.bits h % (m + 1)) - SetTable.bits h % (m + 1)) ≤ m by omega)
  show (nth m _ k).j ≤ m
  omega

/-! ### a table laid anew -/
/-- k are laid, each at one slot -/
structure Laid (m k : Nat) (owner : Array (Option Nat)) : Prop where
  sz : owner.size = m + 1
  lt : ∀ j i, j ≤ m → oAt owner j = some i → i < k
  all : ∀ i, i < k → ∃ j, j ≤ m ∧ oAt owner j = some i
  few : ∃ ps : List Nat, ps.length = k ∧ ∀ j, j ≤ m → oAt owner j ≠ none → j ∈ ps
theorem Laid.init (m : Nat) : Laid m 0 (Array.replicate (m + 1) none) :=
  ⟨Array.size_replicate, fun j i hj e => by (rw [oAt_init hj] at e; cases e), fun i hi => absurd hi (Nat.not_lt_zero i), ⟨[], rfl, fun j hj e => absurd (oAt_init hj) e⟩⟩
theorem Laid.step {m k : Nat} (hm : MaskK m) {owner : Array (Option Nat)} (W : Laid m k owner) (hl : k ≤ m) (h : Int) :
    ∃ j, SetTable.layClean.free m owner (SetTable.turns m) (SetTable.bits h % (m + 1)) (SetTable.bits h) = some j ∧ Laid m (k + 1) (owner.setIfInBounds j (some k)) := by
  obtain ⟨ps, hps, hin⟩ := W.few
  obtain ⟨j0, h0, hn0⟩ := st_missing ps (m + 1) (by omega)
  have hf : oAt owner j0 = none := Classical.not_not.mp fun z => hn0 (hin j0 (Nat.le_of_lt_succ h0) z)
  obtain ⟨n, hn, e⟩ := met_run hm h (Nat.le_of_lt_succ h0)
  have hw : way m h (off m (SetTable.bits h % (m + 1)) (SetTable.bits h) n) = j0 := by
    show (nth m _ _).j = j0
    rw [nth_off, itL_run]; exact e
  obtain ⟨K, k1, k2, k3⟩ := st_least (p := fun c => oAt owner (way m h c) = none) _ (show oAt owner (way m h (off m (SetTable.bits h % (m + 1)) (SetTable.bits h) n)) = none by rw [hw]; exact hf)
  have hfree := free_spec m owner (SetTable.turns m) n (SetTable.bits h % (m + 1)) (SetTable.bits h) K (show n < m + 15 by omega) k1
    (fun c hc => by
      cases z : oAt owner (way m h c) with
      | none => exact absurd z (k3 c hc)
      | some _ => rfl)
    (show (oAt owner (way m h K)).isNone = true by rw [k2]; rfl)
  have hjs : way m h K < owner.size := by rw [W.sz]; exact Nat.lt_succ_of_le way_in
  have self := oAt_set_self (some k) hjs
  refine ⟨way m h K, hfree, by rw [Array.size_setIfInBounds]; exact W.sz, fun j i hj e => ?_, fun i hi => ?_, way m h K :: ps, by rw [List.length_cons, hps], fun j hj e => ?_⟩
  · by_cases c : j = way m h K
    · rw [c, self] at e
      rw [← Option.some.inj e]; exact Nat.lt_succ_self k
    · rw [oAt_set_ne _ c] at e
      exact Nat.lt_succ_of_lt (W.lt j i hj e)
  · by_cases c : i < k
    · obtain ⟨j, hj, e⟩ := W.all i c
      exact ⟨j, hj, by rw [oAt_set_ne _ (fun z => by rw [z, k2] at e; cases e)]; exact e⟩
    · exact ⟨way m h K, way_in, by rw [show i = k by omega]; exact self⟩
  · by_cases c : j = way m h K
    · rw [c]; exact List.mem_cons_self
    · rw [oAt_set_ne _ c] at e
      exact List.mem_cons_of_mem _ (hin j hj e)
theorem laid_fold {m : Nat} (hm : MaskK m) : ∀ (rest : List Int) (k : Nat) (owner : Array (Option Nat)), Laid m k owner → k + rest.length ≤ m → ∃ o2, rest.foldl (stepF m) (some (owner, k)) = some (o2, k + rest.length) ∧ Laid m (k + rest.length) o2
  | [], k, owner, W, _ => ⟨owner, rfl, W⟩
  | h :: rest, k, owner, W, hl => by
    rw [List.length_cons] at hl
    obtain ⟨j, e, W2⟩ := W.step hm (by omega) h
    obtain ⟨o2, f, W3⟩ := laid_fold hm rest (k + 1) _ W2 (by omega)
    rw [show k + 1 + rest.length = k + (h :: rest).length by rw [List.length_cons]; omega] at f W3
    exact ⟨o2, by rw [List.foldl_cons, stepF_some e]; exact f, W3⟩
theorem relaid_n (t : SetTable) {hs : Array Int} {wanted M : Nat} (hw : SetTable.sizeAbove wanted - 1 = M) (hM : MaskK M) (hn : hs.size ≤ M) :
    ∃ t2 order, t.relaid hs wanted = some (t2, order) ∧ order.toList.Perm (List.range hs.size) ∧ Ris t2.place.toList ∧ t2.place.size = hs.size ∧ t2.mask = M ∧ t2.led = t.led ∧ t2.plain = t.plain ∧ t2.dummies = #[] := by
  obtain ⟨owner, f, W⟩ := laid_fold hM hs.toList 0 _ (Laid.init M) (by rw [Array.length_toList]; omega)
  rw [Array.length_toList, Nat.zero_add] at f W
  have ris := ris_live (fun j => owner.getD j none) (List.range (M + 1)) (by unfold Ris; exact List.pairwise_lt_range)
  have r1 : Ris ((liveOf M owner).map (·.1)) := ris.1
  have nd : ((liveOf M owner).map (·.1)).Nodup := List.Pairwise.imp (fun h => Nat.ne_of_lt h) r1
  have hlen : (liveOf M owner).length = hs.size := by
    obtain ⟨ps, p1, p2⟩ := W.few
    have up := nat_nodup_len _ ps nd fun x hx => by
      obtain ⟨⟨y, i⟩, hq, e⟩ := List.mem_map.mp hx
      subst e
      obtain ⟨b1, b2⟩ := (mem_live W.sz).1 hq
      exact p2 y b1 (by rw [b2]; exact fun z => nomatch z)
    have down := nat_nodup_len (List.range hs.size) ((liveOf M owner).map (·.2)) List.nodup_range fun i hi => by
      obtain ⟨j, b1, b2⟩ := W.all i (List.mem_range.mp hi)
      exact List.mem_map.mpr ⟨(j, i), (mem_live W.sz).2 ⟨b1, b2⟩, rfl⟩
    rw [List.length_map] at up down
    rw [List.length_range] at down
    omega
  refine ⟨tabOf t M owner, ((liveOf M owner).map (·.2)).toArray, ?_, ?_, r1, ?_, rfl, rfl, rfl, rfl⟩
  · rw [relaid_eq, hw, layClean_eq, f]; rfl
  · refine perm_range hs.size ((liveOf M owner).map (·.2)) (by rw [List.length_map]; exact hlen) fun i hi => ?_
    obtain ⟨j, b1, b2⟩ := W.all i hi
    exact List.mem_map.mpr ⟨(j, i), (mem_live W.sz).2 ⟨b1, b2⟩, rfl⟩
  · show ((liveOf M owner).map (·.1)).toArray.size = hs.size
    rw [List.size_toArray, List.length_map, hlen]
end W97
end
section
set_option Elab.async false
set_option linter.all false
set_option maxRecDepth 100000
set_option maxHeartbeats 2000000
namespace W97
open PySem PySem.Spec PyProof.Rows L2

abbrev NV : Type := Addr × NestedKey
def NI (h : Heap) (p : NV) : Prop := NestedIs h p.2 (.ref p.1) ∧ p.2.depth ≤ 8
def nrows (w : World) (L : List NV) : List (Int × Value) := L.map fun p => (p.2.hash w, .ref p.1)
structure NSet (w : World) (h : Heap) (a : Addr) (L : List NV) (es : Array (Int × Value)) (ep : Nat) (t : SetTable) : Prop where
  ob : ∃ o, h.get? a = some o ∧ o.ExactSet ∧ o.data = .set es ep t
  rows : es.toList = nrows w L
  ris : Ris t.place.toList
  dm : t.dummies = #[]
  sz : t.place.size = L.length
  mok : MaskK t.mask
  nest : ∀ p ∈ L, NI h p
  led : w.params.followText "set-order" = true ∨ t.led = true
  room : L.length * 5 < t.mask * 3
  few : L.length ≤ 1200
section
variable {P : Program} {w : World} {A : Around} {E : Value → Shared → Prop} {s : Shared} {a : Addr} {L : List NV} {es : Array (Int × Value)} {ep : Nat} {t : SetTable}
theorem NSet.size {h : Heap} (R : NSet w h a L es ep t) : es.size = L.length := by
  rw [← Array.length_toList, R.rows]
  exact List.length_map ..
theorem NSet.fits {h : Heap} (R : NSet w h a L es ep t) : t.fits es.size = true := by
  have h1 := R.sz
  have h2 := R.size
  have h3 := R.room
  have hd : t.dummies.size = 0 := by rw [R.dm]; rfl
  simp only [SetTable.fits, SetTable.fill, Bool.and_eq_true, beq_iff_eq, decide_eq_true_eq, hd]
  omega
theorem NSet.entry {h : Heap} (R : NSet w h a L es ep t) {i : Nat} {p : NV} (e : L[i]? = some p) : es[i]? = some (p.2.hash w, .ref p.1) := by
  have q : es.toList[i]? = some (p.2.hash w, .ref p.1) := by
    rw [R.rows]
    show (L.map _)[i]? = _
    rw [List.getElem?_map, e]; rfl
  rwa [Array.getElem?_toList] at q
theorem mask_k_odd {m : Nat} (h : MaskK m) : m % 2 = 1 := by rcases h with e | e | e | e | e <;> subst e <;> rfl
theorem NSet.stays {h : Heap} (R : NSet w h a L es ep t) : t.gaveWay = false := by
  have := mask_k_odd R.mok
  simp [SetTable.gaveWay, this]

/-! ### questions asked of nested tuples -/
mutual
theorem n_class : ∀ (k : NestedKey) (v : Value) (n : Nat) (s : Shared) (Q : Bool → Shared → Prop), NestedIs s.heap k v → k.depth ≤ n → Q false s → wpAny (model P w) A (ofAClassStatement n v) Q E s
  | .none, _, n, s, Q, x, _, q => by cases x; cases n <;> exact wpAny_pure q
  | .num i, _, n, s, Q, x, _, q => by cases x <;> cases n <;> exact wpAny_pure q
  | .text y, _, n, s, Q, x, _, q => by cases x; cases n <;> exact wpAny_pure q
  | .tup ks, _, n, s, Q, x, hn, q => by
    cases x with
    | @tup b o vs m _ hg hc hd hk =>
      have hT : s.TypeIs (.ref b) "tuple" := ⟨_, hg, hc⟩
      simp only [NestedKey.depth] at hn
      cases n with
      | zero => omega
      | succ n =>
        unfold ofAClassStatement
        refine wpAny_bind (wpAny_typeOf hT ?_)
        simp only [show (("tuple" : String) == "tuple") = true by decide, if_true, Bool.not_true, Bool.false_eq_true, if_false]
        show wpAny _ _ (seqItems? (.ref b) >>= _) _ _ s
        refine wpAny_bind (wpAny_seqItems hg hd ?_)
        refine wpAny_bind ?_
        show wpAny _ _ (forIn vs _ _) _ _ s
        rw [← Array.forIn_toList]
        exact n_classes ks vs.toList n s _ _ hk (by omega) rfl fun r hr => by
          rw [hr]
          exact wpAny_pure q
theorem n_classes : ∀ (ks : List NestedKey) (vs : List Value) (n : Nat) (s : Shared) (r0 : Option Bool × PUnit) (Q : Option Bool × PUnit → Shared → Prop), NestedAll s.heap ks vs → NestedKey.depthAll ks ≤ n → r0.1 = none → (∀ r, r.1 = none → Q r s) →
    wpAny (model P w) A (forIn vs r0 fun y r => do if ← ofAClassStatement n y then (pure (ForInStep.done (some true, PUnit.unit))) else do pure PUnit.unit; pure (ForInStep.yield (none, PUnit.unit))) Q E s
  | [], _, n, s, r0, Q, x, _, h0, q => by
    cases x
    exact wpAny_pure (q r0 h0)
  | k :: ks, _, n, s, r0, Q, x, hn, h0, q => by
    cases x with
    | cons x1 x2 =>
      simp only [NestedKey.depthAll] at hn
      rw [List.forIn_cons]
      refine wpAny_bind (wpAny_bind (n_class k _ n s _ x1 (by omega) ?_))
      simp only [Bool.false_eq_true, if_false]
      exact wpAny_pure (n_classes ks _ n s _ Q x2 (by omega) rfl q)
end
mutual
theorem n_hash : ∀ (n : Nat) (v : Value) (k : NestedKey) (s : Shared) (Q : Bool → Shared → Prop), NestedIs s.heap k v → (∀ b, Q b s) → wpAny (model P w) A (hashByValue n v) Q E s
  | n, _, .none, s, Q, x, q => by cases x; cases n <;> exact wpAny_pure (q _)
  | n, _, .num i, s, Q, x, q => by cases x <;> cases n <;> exact wpAny_pure (q _)
  | n, _, .text y, s, Q, x, q => by cases x; cases n <;> exact wpAny_pure (q _)
  | 0, _, .tup ks, s, Q, x, q => by cases x; exact wpAny_pure (q _)
  | n + 1, _, .tup ks, s, Q, x, q => by
    cases x with
    | @tup b o vs m _ hg hc hd hk =>
      have hT : s.TypeIs (.ref b) "tuple" := ⟨_, hg, hc⟩
      unfold hashByValue
      refine wpAny_bind (wpAny_specialOf hT F.slot_tuple_hash.lookup ?_)
      show wpAny _ _ (seqItems? (.ref b) >>= _) _ _ s
      refine wpAny_bind (wpAny_seqItems hg hd ?_)
      refine wpAny_bind ?_
      show wpAny _ _ (forIn vs _ _) _ _ s
      rw [← Array.forIn_toList]
      exact n_hashes n vs.toList ks s _ _ hk fun r => by
        obtain ⟨r1, r2⟩ := r
        cases r1 <;> exact wpAny_pure (q _)
theorem n_hashes : ∀ (n : Nat) (vs : List Value) (ks : List NestedKey) (s : Shared) (r0 : Option Bool × PUnit) (Q : Option Bool × PUnit → Shared → Prop), NestedAll s.heap ks vs → (∀ r, Q r s) →
    wpAny (model P w) A (forIn vs r0 fun y r => do if !(← hashByValue n y) then (pure (ForInStep.done (some false, PUnit.unit))) else do pure PUnit.unit; pure (ForInStep.yield (none, PUnit.unit))) Q E s
  | n, _, [], s, r0, Q, x, q => by
    cases x
    exact wpAny_pure (q r0)
  | n, _, k :: ks, s, r0, Q, x, q => by
    cases x with
    | cons x1 x2 =>
      rw [List.forIn_cons]
      refine wpAny_bind (wpAny_bind (n_hash n _ k s _ x1 fun b => ?_))
      cases b with
      | true => exact wpAny_pure (n_hashes n _ ks s _ Q x2 q)
      | false => exact wpAny_pure (wpAny_pure (q _))
end
/-- a search among nested tuples shows nothing -/
theorem n_seen {p : NV} (hp : NI s.heap p) {ys : List Value} (hy : ∀ y ∈ ys, ∃ b k, y = Value.ref b ∧ NI s.heap (b, k)) {Q : Bool → Shared → Prop} (q : Q false s) : wpAny (model P w) A (searchCouldBeSeen (.ref p.1) ys) Q E s := by
  unfold searchCouldBeSeen
  refine wpAny_bind ?_
  refine wpAny_forIn_list _ (fun rest r s' => r.1 = none ∧ s' = s ∧ ∀ y ∈ rest, ∃ b k, y = Value.ref b ∧ NI s.heap (b, k)) _ ?_ ?_ _ _ ⟨rfl, rfl, hy⟩
  · rintro y rest r s' ⟨hr, rfl, hall⟩
    obtain ⟨b, k, rfl, hk⟩ := hall y List.mem_cons_self
    have more : ∀ y ∈ rest, ∃ b k, y = Value.ref b ∧ NI s'.heap (b, k) := fun u hu => hall u (List.mem_cons_of_mem _ hu)
    dsimp only
    · split
      · exact wpAny_pure ⟨rfl, rfl, more⟩
      · refine wpAny_bind (quiet_key p.2 _ 8 s' hp.1 hp.2 A E _ ?_)
        simp only [Bool.not_true, Bool.false_eq_true, if_false]
        refine wpAny_bind (quiet_key k _ 8 s' hk.1 hk.2 A E _ ?_)
        simp only [Bool.not_true, Bool.false_eq_true, if_false]
        refine wpAny_bind (n_class p.2 _ 8 s' _ hp.1 hp.2 ?_)
        simp only [Bool.false_eq_true, if_false]
        refine wpAny_bind (n_class k _ 8 s' _ hk.1 hk.2 ?_)
        simp only [Bool.false_eq_true, if_false]
        exact wpAny_pure ⟨rfl, rfl, more⟩
  · rintro ⟨r1, r2⟩ s' ⟨hr, rfl, _⟩
    have hr : r1 = none := hr
    subst hr
    exact wpAny_pure q

/-! ### the search -/
theorem nth_dummy (m : Nat) : ∀ (n : Nat) (p : SetTable.Probe), p.dummy = none → (nth m p n).dummy = none
  | 0, _, h => h
  | n + 1, p, h => nth_dummy m n (adv m p) (by unfold adv; split <;> exact h)
abbrev startOf (m : Nat) (h : Int) : SetTable.Probe := runAt m (SetTable.bits h % (m + 1)) (SetTable.bits h)
/-- from the c-th place of the way on: an equal one stands there, or the first free place -/
theorem n_search (R : NSet w s.heap a L es ep t) {x : NV} (hx : NI s.heap x) (hu : A.units + 8 < cLine) {K : Nat} (hKf : K < 10 * SetTable.turns t.mask)
    (hK : way t.mask (x.2.hash w) K ∉ t.place.toList) (hb : ∀ c, c < K → way t.mask (x.2.hash w) c ∈ t.place.toList) {Q : SetFound → Shared → Prop}
    (hin : x.2 ∈ L.map (·.2) → Q (.there none) s) (hout : Q (.free (way t.mask (x.2.hash w) K) false) s) :
    ∀ (f c : Nat) (stand : Option SetTable.Probe), stand.getD (t.probeStart (x.2.hash w)) = nth t.mask (startOf t.mask (x.2.hash w)) c → c ≤ K → K - c < f → wpAny (model P w) A (setSearchFrom a (.ref x.1) (x.2.hash w) true f stand) Q E s
  | 0, c, stand, _, _, hf => absurd hf (Nat.not_lt_zero _)
  | f + 1, c, stand, hst, hc, hf => by
    obtain ⟨o, ho, hex, hd⟩ := R.ob
    rw [setSearchFrom_succ]
    refine wpAny_bind (wpAny_setState_of ho hd R.fits ?_)
    dsimp only
    refine wp_if_neg (by rw [R.stays]; exact Bool.false_ne_true) ?_
    generalize hh : x.2.hash w = h at hst hK hb hin hout ⊢
    have at_ : ∀ q, nth t.mask (nth t.mask (startOf t.mask h) c) q = nth t.mask (startOf t.mask h) (c + q) := fun q => (nth_add t.mask c _ q).symm
    have atj : ∀ q, (nth t.mask (nth t.mask (startOf t.mask h) c) q).j = way t.mask h (c + q) := fun q => by rw [at_ q]
    have spec := go_spec t R.ris R.dm (fun i => (es[i]?.map (·.1)).getD 0) h (10 * SetTable.turns t.mask) (K - c) _ (nth_dummy t.mask c _ rfl) (by omega)
      (fun q hq => by rw [atj]; exact hb (c + q) (by omega)) (by rw [atj, show c + (K - c) = K by omega]; exact hK)
    rcases spec with ⟨q, i, hq, hi, _, _, hpr⟩ | ⟨_, hpr⟩
    · have pr : t.probe (fun i => (es[i]?.map (·.1)).getD 0) h (stand.getD (t.probeStart h)) = some (.candidate (way t.mask h (c + q)) i (nth t.mask (startOf t.mask h) (c + (q + 1)))) := by
        rw [hst, ← atj, ← at_]; exact hpr
      rw [pr]
      dsimp only
      rw [atj] at hi
      have hil : i < L.length := by
        have h1 := (List.getElem?_eq_some_iff.mp hi).1
        rw [Array.length_toList, R.sz] at h1
        exact h1
      obtain ⟨p, hp⟩ : ∃ p, L[i]? = some p := ⟨_, List.getElem?_eq_getElem hil⟩
      have hm : p ∈ L := List.mem_of_getElem? hp
      have hpn := R.nest p hm
      have rest : wpAny (model P w) A (searchRest a (.ref x.1) h true f es t (way t.mask h (c + q)) i (nth t.mask (startOf t.mask h) (c + (q + 1)))) Q E s := by
        unfold searchRest
        rw [R.entry hp]
        dsimp only
        refine wpAny_bind (wpAny_holding (eqAt_key p.2 x.2 A s _ _ hpn.1 hx.1 (by have := hpn.2; omega) _ _ _ _ ?_))
        refine wpAny_bind (wpAny_setState_of ho hd R.fits ?_)
        dsimp only
        cases e : NestedKey.beq p.2 x.2 with
        | true =>
          refine wp_if_pos rfl ?_
          exact wpAny_pure (hin (List.mem_map.mpr ⟨p, hm, NestedKey.eq_of_beq _ _ e⟩))
        | false =>
          refine wp_if_neg Bool.false_ne_true ?_
          rw [sameMem]
          dsimp only
          simp only [if_true, slot_live R.ris hi, R.entry hp]
          refine wpAny_bind (wpAny_isSame_ref_self (wpAny_bind (wpAny_pure ?_)))
          simp only [Bool.false_eq_true, if_false, if_true]
          have again := n_search R hx hu hKf (by rw [hh]; exact hK) (by rw [hh]; exact hb) hin (by rw [hh]; exact hout) f (c + (q + 1)) (some (nth t.mask (startOf t.mask h) (c + (q + 1)))) (by rw [hh]; rfl) (by omega) (by omega)
          rw [hh] at again
          exact again
      by_cases hl : t.led = true
      · rw [if_neg (by simp [hl])]
        exact rest
      · rw [if_pos (by simp [hl])]
        refine wpAny_bind (n_seen hx (fun y hy => ?_) ?_)
        · obtain ⟨z, hz, ez⟩ := List.mem_map.mp hy
          have hz2 : z ∈ es.toList := by
            have q1 : z ∈ es ∧ z.1 = h := by simpa using hz
            simpa using q1.1
          rw [R.rows] at hz2
          obtain ⟨p2, hp2, e2⟩ := List.mem_map.mp hz2
          exact ⟨p2.1, p2.2, by rw [← ez, ← e2], R.nest p2 hp2⟩
        · exact rest
    · have pr : t.probe (fun i => (es[i]?.map (·.1)).getD 0) h (stand.getD (t.probeStart h)) = some (.empty (way t.mask h K) none) := by
        have e2 : way t.mask h K = (nth t.mask (nth t.mask (startOf t.mask h) c) (K - c)).j := by rw [atj, show c + (K - c) = K by omega]
        rw [hst, e2]; exact hpr
      rw [pr]
      exact wpAny_pure hout
end
end W97
end
section
set_option Elab.async false
set_option linter.all false
set_option maxRecDepth 100000
set_option maxHeartbeats 2000000
namespace W97
open PySem PySem.Spec PyProof.Rows L2
theorem all_of_range {α : Type} : ∀ l : List α, (List.range l.length).filterMap (fun i => l[i]?) = l
  | [] => rfl
  | x :: l => by
    rw [List.length_cons, List.range_succ_eq_map, List.filterMap_cons_some (f := fun i => (x :: l)[i]?) (b := x) rfl, List.filterMap_map]
    have e : (fun i => (x :: l)[i]?) ∘ Nat.succ = fun i => l[i]? := by funext i; simp
    rw [e, all_of_range l]
theorem NI.same {h h' : Heap} {p : NV} {a : Addr} {o : Obj} {es : Array (Int × Value)} {ep : Nat} {t : SetTable} (x : NI h p) (ho : h.get? a = some o) (hd : o.data = .set es ep t) (hs : Heap.SameBut a h h') : NI h' p :=
  ⟨NestedIs.at (fun b ob vs n hb hc => (hs.2 b fun e => by rw [e, ho] at hb; cases hb; rw [hd] at hc; cases hc).trans hb) _ _ x.1, x.2⟩
theorem NI.keep {h h' : Heap} {p : NV} (x : NI h p) (hk : ∀ b o, h.get? b = some o → h'.get? b = some o) : NI h' p :=
  ⟨NestedIs.at (fun b ob vs n hb _ => hk b ob hb) _ _ x.1, x.2⟩
section
variable {P : Program} {w : World} {A : Around} {E : Value → Shared → Prop} {s : Shared} {a : Addr} {L : List NV} {es : Array (Int × Value)} {ep : Nat} {t : SetTable}
theorem n_order {order : Array Nat} (hr : es.toList = nrows w L) (hp : order.toList.Perm (List.range L.length)) : ∃ L2, (order.filterMap (es[·]?)).toList = nrows w L2 ∧ L2.Perm L := by
  refine ⟨order.toList.filterMap fun i => L[i]?, ?_, ?_⟩
  · have e : (fun i : Nat => es[i]?) = fun i : Nat => (L[i]?).map fun p : NV => (p.2.hash w, Value.ref p.1) := by
      funext i
      rw [← Array.getElem?_toList, hr]
      exact List.getElem?_map ..
    rw [Array.toList_filterMap, e]
    exact (List.map_filterMap ..).symm
  · have z := hp.filterMap fun i => L[i]?
    rwa [all_of_range] at z
theorem n_found (R : NSet w s.heap a L es ep t) {x : NV} (hx : NI s.heap x) (hu : A.units + 8 < cLine) {Q : SetFound → Shared → Prop} (hin : x.2 ∈ L.map (·.2) → Q (.there none) s)
    (hout : ∀ K, way t.mask (x.2.hash w) K ∉ t.place.toList → Q (.free (way t.mask (x.2.hash w) K) false) s) : wpAny (model P w) A (setSearch a (.ref x.1) (x.2.hash w) true) Q E s := by
  have hr := R.room
  obtain ⟨K, h1, h2, h3⟩ := first_free R.mok (l := t.place.toList) (by rw [Array.length_toList, R.sz]; omega) (x.2.hash w)
  have big : K < 100000 := by
    have z : 10 * SetTable.turns t.mask ≤ 30000 := by
      show 10 * (t.mask + 15) ≤ 30000
      rcases R.mok with e | e | e | e | e <;> omega
    omega
  unfold setSearch
  exact n_search R hx hu h1 h2 h3 hin (hout K h2) 100000 0 none rfl (Nat.zero_le _) (by omega)
/-- the table laid anew -/
theorem n_relay {o : Obj} (ho : s.heap.get? a = some o) (hex : o.ExactSet) (hd : o.data = .set es ep t) (hr : es.toList = nrows w L) (hsz : t.place.size = L.length) (hdm : t.dummies = #[]) (hfl : L.length ≤ t.mask)
    (nest : ∀ p ∈ L, NI s.heap p) (ld : w.params.followText "set-order" = true ∨ t.led = true) (few : L.length ≤ 1200) {wanted M : Nat} (hw : SetTable.sizeAbove wanted - 1 = M) (hM : MaskK M) (hw2 : SetTable.sizeAbove wanted ≤ 2048) (hn : L.length * 5 < M * 3) {Q : Unit → Shared → Prop}
    (hQ : ∀ h' L2 es2 ep2 t2, Heap.SameBut a s.heap h' → NSet w h' a L2 es2 ep2 t2 → L2.Perm L → Q () { s with heap := h' }) : wpAny (model P w) A (setRelay a wanted) Q E s := by
  have hes : es.size = L.length := by
    rw [← Array.length_toList, hr]
    exact List.length_map ..
  have fits : t.fits es.size = true := by
    have z : t.dummies.size = 0 := by rw [hdm]; rfl
    simp only [SetTable.fits, SetTable.fill, Bool.and_eq_true, beq_iff_eq, decide_eq_true_eq, z]
    omega
  obtain ⟨t2, order, e, hp, h1, h2, h3, h4, h5, h6⟩ := relaid_n t (hs := es.map (·.1)) hw hM (by rw [Array.size_map, hes]; omega)
  rw [Array.size_map, hes] at hp h2
  obtain ⟨L2, r1, r2⟩ := n_order hr hp
  have hs2 : (order.filterMap (es[·]?)).size = L.length := by
    rw [← Array.length_toList, r1, ← r2.length_eq]
    exact List.length_map ..
  rw [setRelay_eq]
  refine wpAny_bind (wpAny_setState_of ho hd fits ?_)
  dsimp only
  refine wp_if_neg (by rw [sizeLine_eq]; omega) ?_
  rw [e]
  dsimp only
  refine wpAny_bind (wp_if_neg (by rw [hs2, hes]; simp) (wpAny_pure ?_))
  dsimp only
  refine wpAny_storeSet_of ho hd ?_ (by rw [hs2, sizeLine_eq]; omega)
  have sb : Heap.SameBut a s.heap (s.heap.update a (Obj.putSet (order.filterMap (es[·]?)) t2)) := Heap.SameBut.update ..
  exact hQ _ L2 _ (ep + 1) t2 sb ⟨⟨_, store_at ho hd, ⟨hex.1, hex.2.1, hex.2.2⟩, rfl⟩, r1, h1, h6, by rw [h2, r2.length_eq], by rw [h3]; exact hM, fun p hm => (nest p (r2.mem_iff.mp hm)).same ho hd sb, by rw [h4]; exact ld, by rw [r2.length_eq, h3]; exact hn, by rw [r2.length_eq]; exact few⟩ r2
theorem big_5 : SetTable.sizeAbove (SetTable.grown 5) = 32 := by decide +kernel
theorem big_19 : SetTable.sizeAbove (SetTable.grown 19) = 128 := by decide +kernel
theorem big_77 : SetTable.sizeAbove (SetTable.grown 77) = 512 := by decide +kernel
theorem big_307 : SetTable.sizeAbove (SetTable.grown 307) = 2048 := by decide +kernel
/-- one is put in -/
theorem n_add (R : NSet w s.heap a L es ep t) {x : NV} (hx : NI s.heap x) (hu : A.units + 8 < cLine) (hfew : L.length + 1 ≤ 1200) {Q : Bool → Shared → Prop}
    (hQ : ∀ b h' L2 es2 ep2 t2, Heap.SameBut a s.heap h' → NSet w h' a L2 es2 ep2 t2 → (∀ p ∈ L2, p = x ∨ p ∈ L) → (∀ p ∈ L, p ∈ L2) → x.2 ∈ L2.map (·.2) → L2.length ≤ L.length + 1 → Q b { s with heap := h' }) :
    wpAny (model P w) A (setAddHashed a (.ref x.1) (x.2.hash w)) Q E s := by
  obtain ⟨o, ho, hex, hd⟩ := R.ob
  have hroom := R.room
  unfold setAddHashed
  refine wpAny_holding ?_
  rw [show (100000 : Nat) = 99999 + 1 from rfl, setAddHashedIn_succ]
  refine wpAny_bind (wpAny_setState_of ho hd R.fits ?_)
  dsimp only
  refine wp_if_neg (by simp [byScan, Value.scannable]) ?_
  refine wpAny_bind (n_found R hx hu (fun hm => ?_) fun K hK => ?_)
  · exact wpAny_pure (hQ false s.heap L es ep t (Heap.SameBut.refl a s.heap) R (fun p hp => .inr hp) (fun p hp => hp) hm (Nat.le_succ _))
  · dsimp only
    refine wpAny_bind (wpAny_setState_of ho hd R.fits ?_)
    dsimp only
    generalize hj : way t.mask (x.2.hash w) K = j at hK ⊢
    obtain ⟨c1, _, _⟩ := below_cut R.ris j
    have hnp : t.place[SetTable.below t.place j]? ≠ some j := fun e => hK (List.mem_of_getElem? (by rw [Array.getElem?_toList]; exact e))
    have pp := put_place t j
    have pd := put_dm R.dm j
    have pr : Ris (t.put j).1.place.toList := ris_insert R.ris hnp
    have hpl : SetTable.below t.place j ≤ L.length := by rw [← R.sz]; exact c1
    have psz : (t.put j).1.place.size = L.length + 1 := by
      rw [← Array.length_toList, pp, len_ins _ (by rw [Array.length_toList]; exact c1), Array.length_toList, R.sz]
    have pm : (t.put j).1.mask = t.mask := rfl
    have pl : (t.put j).1.led = t.led := rfl
    have p2 : (t.put j).2 = SetTable.below t.place j := rfl
    -- what is stored
    have stored : ∀ t2 : SetTable, t2.place = (t.put j).1.place → t2.mask = t.mask → t2.dummies = #[] → t2.led = t.led →
        wpAny (model P w) A (do
          storeSet a (SetTable.insertAt es (SetTable.below t.place j) (x.2.hash w, .ref x.1)) t2
          if (!false && t2.tooFull) = true then do
            setRelay a (SetTable.grown (es.size + 1))
            pure true
          else pure true) Q E s := fun t2 q1 q2 q3 q4 => by
      have hin : (SetTable.insertAt es (SetTable.below t.place j) (x.2.hash w, Value.ref x.1)).toList = nrows w (L.take (SetTable.below t.place j) ++ x :: L.drop (SetTable.below t.place j)) := by
        rw [SetTable.toList_insertAt, R.rows]
        unfold nrows
        rw [List.map_append, List.map_cons, List.map_take, List.map_drop]
      have hlen := len_ins L hpl x
      have mem : ∀ p, p ∈ L.take (SetTable.below t.place j) ++ x :: L.drop (SetTable.below t.place j) ↔ p = x ∨ p ∈ L := fun p => mem_ins
      generalize L.take (SetTable.below t.place j) ++ x :: L.drop (SetTable.below t.place j) = L1 at hin hlen mem
      generalize SetTable.insertAt es (SetTable.below t.place j) (x.2.hash w, Value.ref x.1) = es1 at hin ⊢
      have hes : es1.size = L.length + 1 := by
        rw [← Array.length_toList, hin, ← hlen]
        exact List.length_map ..
      refine wpAny_bind (wpAny_storeSet_of ho hd ?_ (by rw [hes, sizeLine_eq]; omega))
      have sb : Heap.SameBut a s.heap (s.heap.update a (Obj.putSet es1 t2)) := Heap.SameBut.update ..
      have ho1 := store_at (es' := es1) (t' := t2) ho hd
      generalize s.heap.update a (Obj.putSet es1 t2) = h1 at sb ho1 ⊢
      have nest1 : ∀ p ∈ L1, NI h1 p := fun p hp => by
        rcases (mem p).1 hp with e | e
        · rw [e]; exact hx.same ho hd sb
        · exact (R.nest p e).same ho hd sb
      have ld : w.params.followText "set-order" = true ∨ t2.led = true := by rw [q4]; exact R.led
      have sz2 : t2.place.size = L1.length := by rw [q1, psz, hlen]
      have ris2 : Ris t2.place.toList := by rw [q1]; exact pr
      have full : t2.tooFull = decide ((L.length + 1) * 5 ≥ t.mask * 3) := by
        have z : t2.dummies.size = 0 := by rw [q3]; rfl
        simp only [SetTable.tooFull, SetTable.fill, z, sz2, hlen, q2, Nat.add_zero]
      rw [full]
      have done : ∀ h' L2 es2 ep2 t3, Heap.SameBut a h1 h' → NSet w h' a L2 es2 ep2 t3 → L2.Perm L1 → Q true { s with heap := h' } := fun h' L2 es2 ep2 t3 sb2 R2 pm =>
        hQ true h' L2 es2 ep2 t3 (sb.trans sb2) R2 (fun p hp => (mem p).1 (pm.mem_iff.mp hp)) (fun p hp => pm.mem_iff.mpr ((mem p).2 (.inr hp))) (List.mem_map.mpr ⟨x, pm.mem_iff.mpr ((mem x).2 (.inl rfl)), rfl⟩) (by rw [pm.length_eq, hlen]; exact Nat.le_refl _)
      have ex1 : Obj.ExactSet { o with data := .set es1 (ep + 1) t2 } := ⟨hex.1, hex.2.1, hex.2.2⟩
      by_cases c : (L.length + 1) * 5 ≥ t.mask * 3
      · rw [if_pos (by simp [c])]
        have go : ∀ M, SetTable.sizeAbove (SetTable.grown (es.size + 1)) - 1 = M → MaskK M → SetTable.sizeAbove (SetTable.grown (es.size + 1)) ≤ 2048 → (L.length + 1) * 5 < M * 3 →
            wpAny (model P w) A (do setRelay a (SetTable.grown (es.size + 1)); pure true) Q E { s with heap := h1 } := fun M g1 g2 g3 g4 =>
          wpAny_bind (n_relay (s := { s with heap := h1 }) ho1 ex1 rfl hin sz2 q3 (by rw [hlen, q2]; rcases R.mok with e | e | e | e | e <;> omega) nest1 ld (by rw [hlen]; exact hfew) g1 g2 g3 (by rw [hlen]; exact g4) fun h2 L2 es2 ep2 t3 sb2 R2 pm2 => wpAny_pure (done h2 L2 es2 ep2 t3 sb2 R2 pm2))
        rw [R.size] at go ⊢
        have hm := R.mok
        rcases hm with e | e | e | e | e <;> rw [e] at c hroom
        · rw [show L.length + 1 = 5 by omega] at go ⊢
          exact go 31 (by rw [big_5]) (.inr (.inl rfl)) (by rw [big_5]; decide) (by decide)
        · rw [show L.length + 1 = 19 by omega] at go ⊢
          exact go 127 (by rw [big_19]) (.inr (.inr (.inl rfl))) (by rw [big_19]; decide) (by decide)
        · rw [show L.length + 1 = 77 by omega] at go ⊢
          exact go 511 (by rw [big_77]) (.inr (.inr (.inr (.inl rfl)))) (by rw [big_77]; decide) (by decide)
        · rw [show L.length + 1 = 307 by omega] at go ⊢
          exact go 2047 (by rw [big_307]) (.inr (.inr (.inr (.inr rfl)))) (by rw [big_307]; decide) (by decide)
        · omega
      · rw [if_neg (by simp [c])]
        exact wpAny_pure (done h1 L1 es1 (ep + 1) t2 (Heap.SameBut.refl a h1) ⟨⟨_, ho1, ex1, rfl⟩, hin, ris2, q3, sz2, by rw [q2]; exact R.mok, nest1, ld, by rw [hlen, q2]; omega, by rw [hlen]; exact hfew⟩ (List.Perm.refl _))
    rw [p2]
    split
    · refine wpAny_bind (n_hash 8 _ x.2 s _ hx.1 fun b => ?_)
      cases b
      · exact stored _ rfl rfl pd rfl
      · exact stored _ rfl rfl pd rfl
    · exact wpAny_bind (wpAny_pure (stored _ rfl rfl pd rfl))
end
end W97
end
section
set_option Elab.async false
set_option linter.all false
set_option maxRecDepth 100000
set_option maxHeartbeats 4000000
namespace W97
open PySem PySem.Spec PyProof.Rows L2
/-- what the set has of the first i -/
structure Has (ks : List NV) (i : Nat) (L : List NV) : Prop where
  sub : ∀ p ∈ L, p ∈ ks.take i
  all : ∀ p ∈ ks.take i, p.2 ∈ L.map (·.2)
  len : L.length ≤ i
theorem Has.zero (ks : List NV) : Has ks 0 [] := ⟨(fun _ h => by cases h), (fun _ h => by cases h), Nat.le_refl 0⟩
theorem Has.next {ks L L2 : List NV} {i : Nat} {x : NV} (g : Has ks i L) (hx : ks[i]? = some x) (h1 : ∀ p ∈ L2, p = x ∨ p ∈ L) (h2 : ∀ p ∈ L, p ∈ L2) (h3 : x.2 ∈ L2.map (·.2)) (h4 : L2.length ≤ L.length + 1) : Has ks (i + 1) L2 := by
  have e : ks.take (i + 1) = ks.take i ++ [x] := by rw [List.take_add_one, hx]; rfl
  refine ⟨fun p hp => ?_, fun p hp => ?_, Nat.le_trans h4 (Nat.succ_le_succ g.len)⟩
  · rw [e, List.mem_append]
    rcases h1 p hp with z | z
    · exact .inr (by rw [z]; exact List.mem_singleton.mpr rfl)
    · exact .inl (g.sub p z)
  · rw [e, List.mem_append] at hp
    rcases hp with z | z
    · obtain ⟨y, hy, ey⟩ := List.mem_map.mp (g.all p z)
      exact List.mem_map.mpr ⟨y, h2 y hy, ey⟩
    · rw [List.mem_singleton.mp z]; exact h3
section
variable {P : Program} {w : World} {A : Around} {E : Value → Shared → Prop} {s : Shared}
theorem NSet.keep {h h' : Heap} {a : Addr} {L : List NV} {es : Array (Int × Value)} {ep : Nat} {t : SetTable} (R : NSet w h a L es ep t) (ha : ∀ o, h.get? a = some o → h'.get? a = some o) (hn : ∀ p ∈ L, NI h' p) : NSet w h' a L es ep t :=
  { R with ob := (let ⟨o, ho, r⟩ := R.ob; ⟨o, ha o ho, r⟩), nest := hn }
abbrev newSet (w : World) : Obj := { cls := .type "set", dict := none, data := .set #[] 0 (.fresh 0 0 (!w.params.followText "set-order")) }
theorem nset_new {h : Heap} {a : Addr} (ho : h.get? a = some (newSet w)) : NSet w h a [] #[] 0 (.fresh 0 0 (!w.params.followText "set-order")) :=
  ⟨⟨_, ho, ⟨rfl, rfl, rfl⟩, rfl⟩, rfl, List.Pairwise.nil, rfl, rfl, .inl rfl, (fun _ h => nomatch h), by
    cases e : w.params.followText "set-order"
    · exact .inr rfl
    · exact .inl rfl, (show 0 * 5 < 7 * 3 by decide), Nat.zero_le _⟩
/-- the loop that puts in -/
theorem n_update {I : Addr} {fp wr : List Addr} {G : Array GenState → Array GenState → Prop} {n : Nat} {Pv : Nat → Value → Prop} {St : Nat → Shared → Prop} {R : Result → Shared → Prop}
    (W : WalksS P w A.in1 I fp wr G n Pv St) (S : Addr) (hSf : S ∉ fp) (ks : List NV) (hn : n = ks.length) (hfew : ks.length ≤ 1200) (hval : ∀ i v, Pv i v → ∃ p, ks[i]? = some p ∧ v = .ref p.1)
    (h0 : Heap) (hk : ∀ p ∈ ks, NI h0 p) (hS0 : h0.get? S = none) (hw0 : ∀ b ∈ wr, h0.get? b = none) (hu : A.in1.units + 8 < cLine) :
    ∀ (k i : Nat) (s : Shared), n - i = k → i ≤ n → St i s → (∀ b o, h0.get? b = some o → s.heap.get? b = some o) → (∃ L es ep t, NSet w s.heap S L es ep t ∧ Has ks i L) →
      (∀ s' L es ep t, Moved (S :: wr) G s s' → NSet w s'.heap S L es ep t → Has ks n L → (∀ b o, h0.get? b = some o → s'.heap.get? b = some o) → R (.ok (.ret .none)) s') → codeAny (model P w) A (.builtin "set.update.loop" ⟨[.ref S, .ref I], []⟩) R s := by
  have outS : S ∉ wr := fun z => hSf (W.sub _ z)
  have wide : ∀ b ∈ wr, b ∈ S :: wr := fun b hb => List.mem_cons_of_mem _ hb
  have kept : ∀ {s s' : Shared}, Moved wr G s s' → (∀ b o, h0.get? b = some o → s.heap.get? b = some o) → ∀ b o, h0.get? b = some o → s'.heap.get? b = some o := fun hm q b o e =>
    hm.heap b o (fun z => by rw [hw0 b z] at e; cases e) (q b o e)
  intro k
  induction k with
  | zero =>
    intro i s e1 hi hst q ⟨L, es, ep, t, hS, g⟩ hR
    obtain rfl : i = n := by omega
    refine codeAny_builtin F.entry_set_update_loop ?_
    rw [Around.under_plainId F.plain_set_update_loop _]
    show wpAny _ A.in1 (pyNext (.ref I) >>= _) _ _ s
    refine wpAny_bind (W.done s _ _ hst fun s2 hm => ?_)
    have q2 := kept hm q
    exact wpAny_pure (hR s2 L es ep t (hm.mono wide) (hS.keep (fun o e => hm.heap S o outS e) fun p hp => (hk p (List.mem_of_mem_take (g.sub p hp))).keep q2) g q2)
  | succ k ih =>
    intro i s e1 hi hst q ⟨L, es, ep, t, hS, g⟩ hR
    refine codeAny_builtin F.entry_set_update_loop ?_
    rw [Around.under_plainId F.plain_set_update_loop _]
    show wpAny _ A.in1 (pyNext (.ref I) >>= _) _ _ s
    refine wpAny_bind (W.item i s _ _ (by omega) hst fun v s2 hP hst2 hm => ?_)
    obtain ⟨p, hp, rfl⟩ := hval i v hP
    have q2 := kept hm q
    have hS2 : NSet w s2.heap S L es ep t := hS.keep (fun o e => hm.heap S o outS e) fun y hy => (hk y (List.mem_of_mem_take (g.sub y hy))).keep q2
    have hx : NI s2.heap p := (hk p (List.mem_of_getElem? hp)).keep q2
    show wpAny _ A.in1 (holding [Value.ref p.1] (setAdd S (.ref p.1)) >>= _) _ _ s2
    refine wpAny_bind (wpAny_holding ?_)
    unfold setAdd
    refine wpAny_holding (wpAny_bind (pyHash_key p.2 (.ref p.1) A.in1 s2 _ hx.1 (by have := hx.2; omega) ?_))
    refine n_add (s := { s2 with toks := s2.toks + p.2.draws }) hS2 hx hu (by have := g.len; omega) fun b h' L2 es2 ep2 t2 sb R2 c1 c2 c3 c4 => ?_
    have q3 : ∀ b o, h0.get? b = some o → h'.get? b = some o := fun b o e => (sb.2 b fun z => by rw [z, hS0] at e; cases e).trans (q2 b o e)
    refine wpAny_pure ⟨plainId_quiet F.plain_set_update_loop _, ih (i + 1) _ (by omega) (by omega) (W.frame _ s2 _ _ hst2 (Nat.le_add_right _ _) fun b hb o e => ?_) q3 ⟨L2, es2, ep2, t2, R2, g.next hp c1 c2 c3 c4⟩ fun s3 L3 es3 ep3 t3 hm3 R3 g3 q4 => ?_⟩
    · exact (sb.2 b fun z => hSf (z ▸ hb)).trans e
    · refine hR s3 L3 es3 ep3 t3 (Moved.trans W.gtrans ((hm.mono wide).then_heap (Nat.le_add_right _ _) fun b o hb e => ?_) hm3) R3 g3 q4
      exact (sb.2 b fun z => hb (z ▸ List.mem_cons_self)).trans e
end
end W97
end
section
set_option Elab.async false
set_option linter.all false
set_option maxRecDepth 100000
set_option maxHeartbeats 4000000
namespace W97
open PySem PySem.Spec PyProof.Rows L2
section
variable {P : Program} {w : World} {A : Around} {E : Value → Shared → Prop} {s : Shared}
/-- set(xs), by what its loop does -/
theorem set_list {l : Addr} {items : Array Value} {Q : Value → Shared → Prop} (Φ : Shared → Prop) (hh : A.handled = none) (hl : s.heap.IsList l items)
    (hloop : ∀ A1 : Around, A1.handled = none → A1.units ≤ A.units + 2 → ∀ R : Result → Shared → Prop, (∀ s2, Φ s2 → R (.ok (.ret .none)) s2) →
      codeAny (model P w) A1 (.builtin "set.update.loop" ⟨[.ref s.heap.objs.size, .ref (s.heap.push (newSet w)).objs.size], []⟩) R { s with heap := (s.heap.push (newSet w)).push { cls := .type "list_iterator", data := .fields #[.ref l, .int 0 0] } })
    (h : ∀ s2, Φ s2 → Q (.ref s.heap.objs.size) s2) : wpAny (model P w) A (call (.type "set") [.ref l]) Q E s := by
  obtain ⟨c, tl, hmro⟩ := F.called_set.mro
  have hmade := F.called_set.made
  have hsub := F.called_set.sub
  refine wpAny_call (codeAny_of_tree (show wpAny _ _ (callAny (.type "set") _) _ _ _ from ?_))
  refine wpAny_pure ⟨Code.quiet_builtin _ (by decide +kernel), codeAny_builtin F.entry_type_call ?_⟩
  rw [Around.under_plain (weight_type_call_type "set" [.ref l] []) rfl]
  have h1 := F.called_set.notType
  have h2 := F.called_set.canCreate
  have hct := F.typeCall_set_1 (.ref l)
  repeat any_goals first | assumption | wp_step
  refine codeAny_mono (code_set_led1 (.ref l) (E := E) (Q₁ := fun ob s1 => ob = .ref s.heap.objs.size ∧ s1 = { s with heap := s.heap.push (newSet w) }) ⟨rfl, rfl⟩) fun r s1 hr => ?_
  cases r with
  | error e => exact hr
  | ok fl =>
    cases fl with
    | ret ob =>
      obtain ⟨rfl, rfl⟩ := hr
      have hS : (s.heap.push (newSet w)).get? s.heap.objs.size = some (newSet w) := Heap.get?_push_size _ rfl
      have hT : Shared.TypeIs { s with heap := s.heap.push (newSet w) } (.ref s.heap.objs.size) "set" := ⟨_, hS, rfl⟩
      have hli := F.called_set.init.lookup
      have hbi := F.called_set.init.bind (.ref s.heap.objs.size)
      repeat any_goals first | assumption | wp_step
      refine codeAny_mono (codeAny_call_builtin (R := wants (fun r s2 => r = .none ∧ Φ s2) E)
        F.called_set.init.plain F.entry_set_init (check_set_init_1 hT ?_)) fun r2 s2 hr2 => ?_
      · obtain ⟨⟨ocl, odi, oda, osl⟩, hol, hcl, nl, hdl⟩ := hl
        dsimp only at hcl hdl
        subst hcl hdl
        have hol1 : (s.heap.push (newSet w)).get? l = some { cls := .type "list", dict := odi, data := .seq items nl, slots := osl } := Heap.get?_push_of_some _ hol
        have hsls := F.sub_list_set
        have hslf := F.sub_list_frozenset
        have hne : (Value.type "list" == Value.type "dict") = false := by decide
        have hl1 : (s.heap.push (newSet w)).IsList l items := ⟨_, hol1, rfl, nl, rfl⟩
        unfold Builtin.«set.__init__» noKeywords Builtin.Frozenset.updateFrom
        generalize hPI : pyIter = PI
        wp_walk
        subst hPI
        refine wpAny_pyIter_list hl1 (wpAny_bind (wpAny_runValue ?_))
        refine hloop _ (by simp [hh]) (by simp only [Around.in1_units]; omega) _ fun s3 hs => ?_
        show wpAny _ _ _ _ _ _
        refine wpAny_pure (show wpAny _ _ (ret Value.none) _ _ _ from ?_)
        exact wpAny_pure ⟨rfl, hs⟩
      · cases r2 with
        | error e => exact hr2
        | ok fl2 =>
          cases fl2 with
          | ret r =>
            obtain ⟨rfl, hs⟩ := hr2
            repeat any_goals first | assumption | wp_step
            exact h _ hs
          | _ => exact hr2.elim
    | _ => exact hr.elim
end
end W97
end
section
set_option Elab.async false
set_option linter.all false
set_option maxRecDepth 100000
set_option maxHeartbeats 4000000
namespace W97
open PySem PySem.Spec PyProof.Rows L2
section
variable {P : Program} {w : World} {A : Around} {E : Value → Shared → Prop} {s : Shared}
theorem none_above {h : Heap} {b : Addr} (hb : h.objs.size ≤ b) : h.get? b = none := by
  cases q : h.get? b with
  | none => rfl
  | some o => exact absurd (Heap.lt_size q) (Nat.not_lt.mpr hb)
theorem item_at {α : Type} {f : α → Value} {ks : List α} {items : Array Value} (hit : items.toList = ks.map f) (i : Nat) (v : Value) (hv : items[i]? = some v) : ∃ p, ks[i]? = some p ∧ v = f p := by
  rw [← Array.getElem?_toList, hit, List.getElem?_map] at hv
  obtain ⟨p, hp, e⟩ := Option.map_eq_some_iff.mp hv
  exact ⟨p, hp, e.symm⟩
/-- what stands behind set(xs) -/
def NSetDone (w : World) (s : Shared) (ks : List NV) (s2 : Shared) : Prop := ∃ h' tk L es ep t, s2 = { s with heap := h', toks := tk } ∧ NSet w h' s.heap.objs.size L es ep t ∧ Has ks ks.length L ∧ ∀ b o, s.heap.get? b = some o → h'.get? b = some o
theorem n_set {l : Addr} {items : Array Value} (ks : List NV) {Q : Value → Shared → Prop} (hh : A.handled = none) (hl : s.heap.IsList l items) (hit : items.toList = ks.map fun p => Value.ref p.1) (hk : ∀ p ∈ ks, NI s.heap p) (hfew : ks.length ≤ 1200) (hu : A.units + 11 < cLine)
    (h : ∀ s2, NSetDone w s ks s2 → Q (.ref s.heap.objs.size) s2) : wpAny (model P w) A (call (.type "set") [.ref l]) Q E s := by
  refine set_list (NSetDone w s ks) hh hl (fun A1 h1 h2 R hR => ?_) h
  have isz : items.size = ks.length := by rw [← Array.length_toList, hit, List.length_map]
  have zs : (s.heap.push (newSet w)).objs.size = s.heap.objs.size + 1 := Heap.size_push ..
  have hlS : l < s.heap.objs.size := by
    obtain ⟨o, ho, _⟩ := hl
    exact Heap.lt_size ho
  have hS : (s.heap.push (newSet w)).get? s.heap.objs.size = some (newSet w) := Heap.get?_push_size _ rfl
  have hl1 : (s.heap.push (newSet w)).IsList l items := hl.push _
  refine n_update (A := A1) ((Walks.list (A := A1.in1) (by simp [h1]) (s.heap.push (newSet w)).objs.size l (by rw [zs]; exact Nat.ne_of_lt (Nat.lt_succ_of_lt hlS)) items).toS) s.heap.objs.size (by rw [zs]; simp only [List.mem_cons, List.not_mem_nil, or_false, not_or]; exact ⟨Nat.ne_of_lt (Nat.lt_succ_self _), Nat.ne_of_gt hlS⟩)
    ks isz hfew (item_at hit) s.heap hk (none_above (Nat.le_refl _)) (fun b hb => none_above (by rw [List.mem_singleton.mp hb, zs]; exact Nat.le_succ _)) (by simp only [Around.in1_units]; omega) (items.size - 0) 0 _ (by omega) (Nat.zero_le _)
    ⟨⟨_, Heap.get?_push_size _ rfl, rfl, rfl⟩, (hl1.push _)⟩ (fun b o e => Heap.get?_push_of_some _ (Heap.get?_push_of_some _ e)) ⟨[], #[], 0, _, nset_new (Heap.get?_push_of_some _ hS), Has.zero ks⟩ ?_
  intro s3 L es ep t hm R3 g3 hkp
  obtain ⟨h3, g2, d3, tk3, os3⟩ := s3
  have eg : g2 = s.gens := hm.gens
  have ed : d3 = s.drawn := hm.drawn
  have eo : os3 = s.os := hm.os
  subst eg ed eo
  rw [isz] at g3
  exact hR _ ⟨h3, tk3, L, es, ep, t, rfl, R3, g3, hkp⟩
end
end W97
end
section
set_option Elab.async false
set_option linter.all false
set_option maxRecDepth 100000
set_option maxHeartbeats 4000000
namespace W97
open PySem PySem.Spec PyProof.Rows L2 PySem.W
/-- an item: where it stands, what it is -/
abbrev AD1 : Type := Addr × PyData
def nvOf (z : AD1) : NV := (z.1, keyD z.2)
theorem map_back {α β : Type} {f : α → β} {zs : List α} : ∀ {L : List β}, (∀ p ∈ L, ∃ z ∈ zs, p = f z) → ∃ bs : List α, L = bs.map f ∧ ∀ z ∈ bs, z ∈ zs
  | [], _ => ⟨[], rfl, fun _ h => by cases h⟩
  | p :: L, h => by
    obtain ⟨z, hz, e⟩ := h p List.mem_cons_self
    obtain ⟨bs, e1, h1⟩ := map_back (L := L) fun q hq => h q (List.mem_cons_of_mem _ hq)
    refine ⟨z :: bs, by rw [List.map_cons, ← e, ← e1], fun y hy => ?_⟩
    rcases List.mem_cons.mp hy with e2 | e2
    · rw [e2]; exact hz
    · exact h1 y e2
theorem eachIs_map {α β : Type} {R : α → β → Prop} {f : β → α} : ∀ {bs : List β}, (∀ b ∈ bs, R (f b) b) → EachIs R (bs.map f) bs
  | [], _ => .nil
  | b :: bs, h => .cons (h b List.mem_cons_self) (eachIs_map fun c hc => h c (List.mem_cons_of_mem _ hc))
theorem eachIs_eq {α β : Type} {f : β → α} {as : List α} {bs : List β} (h : EachIs (fun a b => a = f b) as bs) : as = bs.map f := by
  induction h with
  | nil => rfl
  | cons h1 _ ih => rw [List.map_cons, ← h1, ← ih]
section
variable {P : Program} {w : World} {A : Around} {E : Value → Shared → Prop} {s : Shared}
/-- sorted(xs), xs a set of such items -/
theorem n_sorted {a : Addr} {L : List NV} {es : Array (Int × Value)} {ep : Nat} {t : SetTable} {zs bs : List AD1} {Q : Value → Shared → Prop} (R : NSet w s.heap a L es ep t) (hh : A.handled = none) (eL : L = bs.map nvOf) (hb : ∀ z ∈ bs, z ∈ zs)
    (hz : ∀ z ∈ zs, Reads s.heap (.ref z.1) z.2 [] ∧ z.2.depth ≤ 8) (hal : AllAlike (zs.map (·.2))) (hs : ∀ z ∈ zs, ∃ x r, z.2 = .tuple (x :: r)) (hu : A.units + 12 < cLine)
    (hQ : ∀ s' p (out : Array Value) (c : Nat) (ys : List AD1), (∀ b o, s.heap.get? b = some o → s'.heap.get? b = some o) → s'.gens = s.gens → s'.os = s.os → s.heap.objs.size ≤ p → s'.heap.get? p = some (seqObj "list" out c) → out.toList = ys.map (fun z => Value.ref z.1) →
      (∀ z ∈ ys, z ∈ zs) → (∀ z ∈ bs, z.2 ∈ ys.map (·.2)) → ys.length = L.length → ys.Pairwise (fun x y => dataLe false (fun z : AD1 => z.2) x y = true) → Q (.ref p) s') : wpAny (model P w) A (call (.builtin "sorted") [.ref a]) Q E s := by
  obtain ⟨o, ho, hex, hd⟩ := R.ob
  refine Calls.call_function_entry kind_sorted plain_sorted entry_sorted (args_sorted1 _) ?_
  unfold Builtin.«sorted»
  refine wpAny_bind (m := checkCount "sorted" 1 1 _) (wpAny_pure ?_)
  refine wpAny_bind (collect_set (A := A.in1) hh ⟨o, ho, hex.1, hd⟩ R.fits (by rw [R.size]; have := R.few; unfold scanBound; omega) R.ris R.led fun s1 vs k1 hz1 g1 o1 pm => ?_)
  have ees : es.toList.map (·.2) = bs.map fun z => Value.ref z.1 := by
    rw [R.rows, eL]
    unfold nrows
    rw [List.map_map, List.map_map]; rfl
  rw [ees] at pm
  obtain ⟨cs, ec, hc⟩ := map_back (f := fun z : AD1 => Value.ref z.1) (zs := bs) (L := vs) fun v hv => by
    obtain ⟨z, h1, h2⟩ := List.mem_map.mp (pm.mem_iff.mp hv)
    exact ⟨z, h1, h2.symm⟩
  have hcz : ∀ z ∈ cs, z ∈ zs := fun z h => hb z (hc z h)
  have lc : cs.length = L.length := by
    have q := pm.length_eq
    rw [ec, List.length_map, List.length_map] at q
    rw [q, eL, List.length_map]
  have cov : ∀ z ∈ bs, z.2 ∈ cs.map (·.2) := fun z h => by
    have q : Value.ref z.1 ∈ vs := pm.mem_iff.mpr (List.mem_map.mpr ⟨z, h, rfl⟩)
    rw [ec] at q
    obtain ⟨y, hy, e⟩ := List.mem_map.mp q
    injection e with e
    refine List.mem_map.mpr ⟨y, hy, ?_⟩
    have r1 := (hz y (hcz y hy)).1
    have r2 := (hz z (hb z h)).1
    rw [e] at r1
    exact alike_unique _ _ _ _ _ (hal _ (List.mem_map.mpr ⟨y, hcz y hy, rfl⟩) _ (List.mem_map.mpr ⟨z, hb z h, rfl⟩)) r1 r2
  have few := R.few
  refine wpAny_bind (wpAny_newList ?_ (by rw [sizeLine_eq, ec, List.length_map]; omega))
  have hoL : (s1.heap.push (seqObj "list" vs.toArray 0)).get? s1.heap.objs.size = some (seqObj "list" vs.toArray 0) := Heap.get?_push_size _ rfl
  have kp : ∀ b u, s.heap.get? b = some u → (s1.heap.push (seqObj "list" vs.toArray 0)).get? b = some u := fun b u e => Heap.get?_push_of_some _ (k1 b u e)
  have er : ∀ us : List Value, us = cs.map (fun z => Value.ref z.1) → EachIs (fun v (z : AD1) => ∃ as, Reads (s1.heap.push (seqObj "list" vs.toArray 0)) v z.2 as ∧ s1.heap.objs.size ∉ as) us cs := fun us e => by
    rw [e]
    exact eachIs_map fun z h => ⟨[], PyProof.Rows.Reads.keeps kp (hz z (hcz z h)).1, fun q => by cases q⟩
  refine wpAny_bind (wpAny_holding (list_sort_data (s := { s1 with heap := s1.heap.push (seqObj "list" vs.toArray 0) }) (bs := cs) (enc := fun z : AD1 => z.2) (R := fun v z => v = Value.ref z.1) hoL (by rw [ec]; exact eachIs_map fun z _ => rfl)
    (er vs ec)
    (fun d hd d' hd' => by
      obtain ⟨z, h1, rfl⟩ := List.mem_map.mp hd
      obtain ⟨y, h2, rfl⟩ := List.mem_map.mp hd'
      exact hal _ (List.mem_map.mpr ⟨z, hcz z h1, rfl⟩) _ (List.mem_map.mpr ⟨y, hcz y h2, rfl⟩))
    (.inl fun d hd => by
      obtain ⟨z, h1, rfl⟩ := List.mem_map.mp hd
      exact hs z (hcz z h1)) (by rw [lc, sizeLine_eq]; omega) (fun z h => by
      have := (hz z (hcz z h)).2
      simp only [Around.in1_units]
      omega) fun out l1 e1 => ?_))
  have eo := eachIs_eq e1
  obtain ⟨c, hc2⟩ := sortedHeap_at (vs := vs) (out := out.toArray) hoL
  have pmS := List.mergeSort_perm cs (dataLe false fun z : AD1 => z.2)
  refine wpAny_pure ⟨_, rfl, hQ _ s1.heap.objs.size out.toArray c _ (fun b u e => ?_) g1 o1 hz1 hc2 (by rw [← eo]) (fun z h => hcz z (pmS.mem_iff.mp h)) (fun z h => (pmS.map (·.2)).mem_iff.mpr (cov z h)) (by rw [pmS.length_eq, lc]) (sort_pairwise (sortLe_total _ _ _) cs)⟩
  have q := k1 b u e
  have hlt := Heap.lt_size q
  show (sortedHeap (s1.heap.push (seqObj "list" vs.toArray 0)) s1.heap.objs.size vs out.toArray).get? b = some u
  rw [sortedHeap_old (Nat.ne_of_lt hlt) (by rw [size_push']; exact Nat.lt_succ_of_lt hlt)]
  exact Heap.get?_push_of_some _ q
end
end W97
end
section
set_option Elab.async false
set_option linter.all false
set_option maxRecDepth 100000
set_option maxHeartbeats 4000000
namespace W97
open PySem PySem.Spec PyProof.Rows L2 PySem.W
section
variable {P : Program} {w : World} {A : Around} {E : Value → Shared → Prop} {s : Shared}
/-! ### ints -/
def ISetDone (w : World) (s : Shared) (ns : List Int) (s2 : Shared) : Prop := ∃ h' tk c, s2 = { s with heap := h', toks := tk } ∧ c ≤ ns.length ∧ SetR w h' s.heap.objs.size (fun j => decide (j ∈ ns)) c ∧ ∀ b o, s.heap.get? b = some o → h'.get? b = some o
theorem i_set {l : Addr} {items : Array Value} (ns : List Int) {Q : Value → Shared → Prop} (hh : A.handled = none) (hl : s.heap.IsList l items) (hit : IntsAre items.toList ns) (hfew : ns.length ≤ 1200)
    (h : ∀ s2, ISetDone w s ns s2 → Q (.ref s.heap.objs.size) s2) : wpAny (model P w) A (call (.type "set") [.ref l]) Q E s := by
  refine set_list (ISetDone w s ns) hh hl (fun A1 h1 h2 R hR => ?_) h
  have isz : items.size = ns.length := by rw [← Array.length_toList]; exact IntsAre.length hit
  have zs : (s.heap.push (newSet w)).objs.size = s.heap.objs.size + 1 := Heap.size_push ..
  have hlS : l < s.heap.objs.size := by
    obtain ⟨o, ho, _⟩ := hl
    exact Heap.lt_size ho
  have hS : (s.heap.push (newSet w)).get? s.heap.objs.size = some (newSet w) := Heap.get?_push_size _ rfl
  have hl1 : (s.heap.push (newSet w)).IsList l items := hl.push _
  refine set_update_ints (A := A1) ((Walks.list (A := A1.in1) (by simp [h1]) (s.heap.push (newSet w)).objs.size l (by rw [zs]; exact Nat.ne_of_lt (Nat.lt_succ_of_lt hlS)) items).toS) s.heap.objs.size (by rw [zs]; simp only [List.mem_cons, List.not_mem_nil, or_false, not_or]; exact ⟨Nat.ne_of_lt (Nat.lt_succ_self _), Nat.ne_of_gt hlS⟩)
    ns isz (by unfold scanBound; omega) (fun i v hv => ?_) (items.size - 0) 0 _ (by omega) (Nat.zero_le _)
    ⟨⟨_, Heap.get?_push_size _ rfl, rfl, rfl⟩, (hl1.push _)⟩ ⟨0, Nat.le_refl 0, setR_new_at (Heap.get?_push_of_some _ hS)⟩ ?_
  · rw [← Array.getElem?_toList] at hv
    obtain ⟨t, e⟩ := IntsAre.int_at hit i v hv
    refine ⟨_, t, ?_, e⟩
    have hi : i < ns.length := by
      have q := (List.getElem?_eq_some_iff.mp hv).1
      rwa [IntsAre.length hit] at q
    rw [List.getD_eq_getElem?_getD, List.getElem?_eq_getElem hi]; rfl
  intro s3 c hm hc R3
  obtain ⟨h3, g2, d3, tk3, os3⟩ := s3
  have eg : g2 = s.gens := hm.gens
  have ed : d3 = s.drawn := hm.drawn
  have eo : os3 = s.os := hm.os
  have hk := hm.heap
  subst eg ed eo
  rw [isz] at hc
  refine hR _ ⟨h3, tk3, c, rfl, hc, R3, fun b o e => hk b o (fun z => ?_) (Heap.get?_push_of_some _ (Heap.get?_push_of_some _ e))⟩
  have hlt := Heap.lt_size e
  rcases List.mem_cons.mp z with z | z
  · exact Nat.ne_of_lt hlt z
  · rw [List.mem_singleton.mp z, zs] at hlt
    exact absurd hlt (Nat.not_lt.mpr (Nat.le_succ _))
end

/-! ### sorted(set(xs)) -/
theorem refs_of {K : PySem.W.Frag} {H : Hp} : ∀ {ds : List PyData} {vs : List V}, DVs K H vs ds → (∀ d ∈ ds, ∃ xs, d = .tuple xs) → ∃ zs : List AD1, vs = zs.map (fun z => V.ref z.1) ∧ ds = zs.map (·.2) ∧ ∀ z ∈ zs, DV K H (.ref z.1) z.2
  | [], _, h, _ => by
    cases h
    exact ⟨[], rfl, rfl, fun _ h => by cases h⟩
  | d :: ds, _, h, q => by
    cases h with
    | cons h1 h2 =>
      obtain ⟨xs, e⟩ := q d List.mem_cons_self
      subst e
      obtain ⟨p, us, e, _⟩ := DV.tup_eq h1
      subst e
      obtain ⟨zs, e1, e2, e3⟩ := refs_of h2 fun x hx => q x (List.mem_cons_of_mem _ hx)
      refine ⟨(p, .tuple xs) :: zs, by rw [e1]; rfl, by rw [e2]; rfl, fun z hz => ?_⟩
      rcases List.mem_cons.mp hz with e | e
      · rw [e]; exact h1
      · exact e3 z e
theorem vals_refs : ∀ {zs : List AD1} {us : List Value}, Vals (zs.map fun z => V.ref z.1) us → us = zs.map fun z => Value.ref z.1
  | [], _, .nil => rfl
  | z :: zs, _, .cons r t => by
    cases r
    rw [vals_refs t]; rfl
theorem vals_refs2 : ∀ zs : List AD1, Vals (zs.map fun z => V.ref z.1) (zs.map fun z => Value.ref z.1)
  | [] => .nil
  | z :: zs => .cons rfl (vals_refs2 zs)
/-- what can be an item of a set that is sorted -/
def SItem (d : PyData) : Prop := nest d = true ∧ d.depth ≤ 8 ∧ ∃ x r, d = .tuple (x :: r)
/-- the items, each once or more, in order -/
structure SOut (ds out : List PyData) : Prop where
  sub : ∀ d ∈ out, d ∈ ds
  all : ∀ d ∈ ds, d ∈ out
  len : out.length ≤ ds.length
  ord : out.Pairwise fun x y => dataLe false (fun z : PyData => z) x y = true
def tSS (K : PySem.W.Frag) (ta : TE) : TE := fun σ H Q => ta σ H fun x H1 =>
  (∃ (l : Addr) (ns : List Int), x = .ref l ∧ (SqL K H1 l (ns.map V.int) ∨ SqT K H1 l (ns.map V.int)) ∧ ns.length < 64 ∧ ∀ (ms : List Int) (p : Addr), ms.Pairwise (· < ·) → (∀ k, k ∈ ms ↔ k ∈ ns) → H1 p = none → Q (.ref p) (upd H1 p (.lst (ms.map V.int)))) ∨
  ∃ (l : Addr) (vs : List V) (ds : List PyData), x = .ref l ∧ SqL K H1 l vs ∧ DVs K H1 vs ds ∧ ds.length ≤ 1200 ∧ (∀ d ∈ ds, SItem d) ∧ AllAlike ds ∧ ∀ (us : List V) (out : List PyData) (p : Addr), DVs K H1 us out → SOut ds out → H1 p = none → Q (.ref p) (upd H1 p (.lst us))
section
variable {X : Cx}
theorem sorted_inv {pins : List (Addr × Obj)} {σ : L2.St} {H : Hp} {s s2 s3 : Shared} {p : Addr} {out : Array Value} {c : Nat} {vs : List V} (I : Inv X pins σ H s) (k : ∀ b o, s.heap.get? b = some o → s3.heap.get? b = some o) (g : s3.gens = s.gens) (o : s3.os = s.os) (hp : s.heap.objs.size ≤ p)
    (hg : s3.heap.get? p = some (seqObj "list" out c)) (hv : Vals vs out.toList) (hl : vs.length ≤ sizeLine) : Inv X pins σ (upd H p (.lst vs)) s3 :=
  I.call' (ch := []) o (Un.laid k hp (I.hok.fresh hp)) (I.hok.laid k hp ⟨hl, out.toList, c, hv, hg⟩) (by rw [g]; exact I.bare) (fun _ z => by cases z)
theorem pe_sset {a : Expr} {ta : TE} {p p2 q pos : Pos} (hc : X.calm = true) (hu : X.A.units + 64 < cLine) (hg : Gl X "sorted") (hm : X.mg "sorted" = none) (hg2 : Gl X "set") (hm2 : X.mg "set" = none) (ha : PE X a ta)
    (na : starEach [a] X.env = (false, eval a X.env) :: starEach [] X.env := by rfl) (nb : starEach [.Call (.Name "set" p2) [a] [] q] X.env = (false, eval (.Call (.Name "set" p2) [a] [] q) X.env) :: starEach [] X.env := by rfl) :
    PE X (.Call (.Name "sorted" p) [.Call (.Name "set" p2) [a] [] q] [] pos) (tSS X.K ta) := by
  refine ⟨fun pins s σ H Q I h => ?_⟩
  refine Call_ (ld_blt I hg hm PyProof.Rows.boot_sorted ?_)
  refine PyProof.Rows.callWith_builtin1 (PyProof.Rows.args_cons ?_ nb) nb rfl
  refine Call_ (ld_blt I hg2 hm2 PyProof.Rows.boot_set ?_)
  refine PyProof.Rows.callWith_type1 (PyProof.Rows.args_cons (thn (ha.run pins s σ H _ I h) fun v s1 ⟨x, H1, I1, r1, q1⟩ => PyProof.Rows.args_nil ?_) na) na rfl
  rcases q1 with ⟨l, ns, rfl, hq, h64, q1⟩ | ⟨l, vs, ds, rfl, hq, dv, hlen, hit, hal, q1⟩
  · cases r1
    -- behind the set
    have go : ∀ s2, ISetDone X.w s1 ns s2 → wpAny (model X.prog X.w) X.A (call (.builtin "sorted") [.ref s1.heap.objs.size]) (EP X pins σ Q) X.xe s2 := fun s2 hd => by
      obtain ⟨h', tk, c, e, hcl, R, k⟩ := hd
      subst e
      refine sorted_set R (I1.ok.hd hc) (by omega) fun s3 pp out cc ms k3 g3 o3 hp3 hg3 hi3 hs3 hm3 hl3 => ?_
      have I2 : Inv X pins σ H1 { s1 with heap := h', toks := tk } := I1.kept k
      refine ⟨.ref pp, _, sorted_inv (s2 := s1) I2 k3 g3 o3 hp3 hg3 (vals_of_ints hi3) (by rw [List.length_map, hl3, sizeLine_eq]; omega), rfl, q1 ms pp hs3 (fun j => (hm3 j).trans decide_eq_true_iff) (I2.hok.fresh hp3)⟩
    rcases hq with hq | hq
    · obtain ⟨its, r, pl, hz⟩ := I1.list hq
      exact i_set ns (I1.ok.hd hc) pl.isList (by simpa using r.ints) (by omega) fun s2 hd => PyProof.Rows.args_nil (go s2 hd)
    · obtain ⟨its, r, pl, hz⟩ := I1.tuple hq
      exact call_set_tupI ns (I1.ok.hd hc) pl (by simpa using r.ints) (by unfold scanBound; omega) fun h' tk c R hcl k => PyProof.Rows.args_nil (go _ ⟨h', tk, c, rfl, hcl, R, k⟩)
  · cases r1
    obtain ⟨zs, ev, ed, hz⟩ := refs_of dv fun d hd => by
      obtain ⟨_, _, x, r, e⟩ := hit d hd
      exact ⟨_, e⟩
    subst ev ed
    obtain ⟨its, r, pl, hzz⟩ := I1.list hq
    have ei := vals_refs r
    have mem : ∀ z ∈ zs, z.2 ∈ zs.map (·.2) := fun z h => List.mem_map.mpr ⟨z, h, rfl⟩
    have rd : ∀ z ∈ zs, Reads s1.heap (.ref z.1) z.2 [] := fun z h => by
      obtain ⟨as, q⟩ := Dp.reads I1 z.2 (.ref z.1) (.ref z.1) (DV.dp (hz z h)) rfl
      obtain ⟨e, _⟩ := reads_nest _ _ _ q (hit _ (mem z h)).1
      rwa [e] at q
    rw [List.length_map] at hlen
    refine n_set (zs.map nvOf) (I1.ok.hd hc) pl.isList (by rw [List.map_map]; exact ei) (fun y hy => ?_) (by rw [List.length_map]; exact hlen) (by omega) fun s2 hd => PyProof.Rows.args_nil ?_
    · obtain ⟨z, h, e⟩ := List.mem_map.mp hy
      subst e
      have i := hit _ (mem z h)
      exact ⟨(reads_nest _ _ _ (rd z h) i.1).2, Nat.le_trans (keyD_depth _) i.2.1⟩
    · obtain ⟨h', tk, L, es, ep, t, e, R, g, k⟩ := hd
      subst e
      have I2 : Inv X pins σ H1 { s1 with heap := h', toks := tk } := I1.kept k
      have take : (zs.map nvOf).take (zs.map nvOf).length = zs.map nvOf := List.take_length
      obtain ⟨bs, eL, hb⟩ := map_back (f := nvOf) (zs := zs) (L := L) fun y hy => by
        have q := g.sub y hy
        rw [take] at q
        obtain ⟨z, h, e⟩ := List.mem_map.mp q
        exact ⟨z, h, e.symm⟩
      have cov : ∀ z ∈ zs, z.2 ∈ bs.map (·.2) := fun z h => by
        have q := g.all (nvOf z) (by rw [take]; exact List.mem_map.mpr ⟨z, h, rfl⟩)
        rw [eL, List.map_map] at q
        obtain ⟨y, hy, e⟩ := List.mem_map.mp q
        refine List.mem_map.mpr ⟨y, hy, keyD_inj _ _ (hit _ (mem y (hb y hy))).1 (hit _ (mem z h)).1 e⟩
      refine n_sorted (s := { s1 with heap := h', toks := tk }) R (I1.ok.hd hc) eL hb (fun z h => ⟨PyProof.Rows.Reads.keeps k (rd z h), (hit _ (mem z h)).2.1⟩) hal (fun z h => (hit _ (mem z h)).2.2) (by omega) fun s3 pp out cc ys k3 g3 o3 hp3 hg3 e3 h1 h2 h3 h4 => ?_
      have lys : ys.length ≤ zs.length := by
        have q := g.len
        rw [List.length_map] at q
        omega
      refine ⟨.ref pp, _, sorted_inv (s2 := s1) (vs := ys.map fun z => V.ref z.1) I2 k3 g3 o3 hp3 hg3 (by rw [e3]; exact vals_refs2 ys) (by rw [List.length_map, sizeLine_eq]; omega), rfl, q1 _ (ys.map (·.2)) pp ?_ ⟨fun d hd => ?_, fun d hd => ?_, by rw [List.length_map, List.length_map]; exact lys, ?_⟩ (I2.hok.fresh hp3)⟩
      · have key : ∀ l : List AD1, (∀ z ∈ l, z ∈ zs) → DVs X.K H1 (l.map fun z => V.ref z.1) (l.map (·.2)) := by
          intro l
          induction l with
          | nil => intro _; exact .nil
          | cons z l ih => intro h; exact .cons (hz z (h z List.mem_cons_self)) (ih fun y hy => h y (List.mem_cons_of_mem _ hy))
        exact key ys h1
      · obtain ⟨z, h, e⟩ := List.mem_map.mp hd
        rw [← e]
        exact mem z (h1 z h)
      · obtain ⟨z, h, e⟩ := List.mem_map.mp hd
        rw [← e]
        obtain ⟨y, hy, e2⟩ := List.mem_map.mp (cov z h)
        rw [← e2]
        exact h2 y hy
      · rw [List.pairwise_map]
        exact h4
end
end W97
end
section
set_option Elab.async false
set_option linter.all false
set_option maxRecDepth 100000
set_option maxHeartbeats 2000000
namespace W97
open PySem PySem.Spec PyProof.Rows L2 PyEnc
section
variable {X : Cx} {m : Mo} {HE H0 H H1 : Hp} {ρ : Ab} {σ : L2.St} {a b c e : Expr} {pos p q0 : Pos} {d d1 d2 : PyData} {ds es' : List PyData}
/-! ### one of two -/
theorem eq_if {k : Bool} {Q : Bd → Prop} (h : TD X m ρ c k) (h1 : k = true → EQ X m ρ a Q) (h2 : k = false → EQ X m ρ b Q) : EQ X m ρ (.IfExp c a b pos) Q := by
  intro σ H HE H0 S Qv kk
  refine ew_of (pe_ifExp (pt_tw X c) (pe_ew X a) (pe_ew X b)) (tw_then h S fun k' H1 g1 S1 e1 => ?_)
  subst e1
  have fin : ∀ (v : V) (bd : Bd) (H2 : Hp), Gr m H1 H2 → hr X.K m H1 H2 v bd → Q bd → Qv v H2 := fun v bd H2 g r q => kk v bd H2 (g1.trans g) (hr_back r g1) q
  cases k' with
  | true => exact h1 rfl σ H1 HE H0 S1 Qv fin
  | false => exact h2 rfl σ H1 HE H0 S1 Qv fin
theorem ed_if {k : Bool} {d : Bool → PyData} (h : TD X m ρ c k) (h1 : k = true → ED X m ρ a (d true)) (h2 : k = false → ED X m ρ b (d false)) : ED X m ρ (.IfExp c a b pos) (d k) :=
  eq_if h (fun e => by subst e; exact h1 rfl) (fun e => by subst e; exact h2 rfl)
/-! ### isinstance -/
def tyD : PyData → String
  | .none => "NoneType"
  | .bool _ => "bool"
  | .int _ => "int"
  | .str _ => "str"
  | .tuple _ => "tuple"
  | .list _ => "list"
  | .dict _ => "dict"
theorem tyx_of {K : PySem.W.Frag} {v : V} {bd : Bd} (h : AsD d bd) (r : hr K m H1 H v bd) : TyX K H v (.type (tyD d)) := by
  cases bd with
  | dat x =>
    have h : x = d := h
    subst h
    have r : DV K H v x := r
    cases r with
    | non => exact .base .non
    | bl b => exact .base (.bl b)
    | int i => exact .base (.int i)
    | str x => exact .base (.str x)
    | tup hs _ =>
      rcases hs with (hs | ⟨o, hs⟩) | hs
      · exact .base (.tup hs)
      · exact .fTuple hs
      · obtain ⟨o, _, _, e, hc, _⟩ := hs
        exact .kTuple e hc
  | lst k xs =>
    have h : PyData.list xs = d := h
    subst h
    obtain ⟨p, vs, e, hs, _⟩ := hr_lst r
    subst e
    rcases hs with (hs | ⟨o, hs⟩) | hs
    · exact .base (.lst hs)
    · exact .base (.frz hs)
    · obtain ⟨o, _, _, e, hc, _⟩ := hs
      exact .kList e hc
  | feed => exact h.elim
  | val x => exact h.elim
  | any => exact h.elim
  | pr P k => exact h.elim
  | dct k kvs => exact h.elim
theorem ed_isi {T : Str} {T0 : String} {r : Bool} (hg : Gl X "isinstance") (hm : X.mg "isinstance" = none) (hg2 : Gl X T) (hm2 : X.mg T = none) (hb : bootBuiltins T = some (.type T0)) (h : EQ X m ρ a (AsD d)) (hk : kitB (tyD d) T0 = some r)
    (hn : T ≠ "__name__" := by decide) (hd : (T == ("__debug__" : Str)) = false := by decide) (hs : starEach [a, .Name T q0] X.env = (false, eval a X.env) :: starEach [.Name T q0] X.env := by rfl) (hs2 : starEach [.Name T q0] X.env = (false, eval (.Name T q0) X.env) :: starEach [] X.env := by rfl)
    (hpl : (backTo pos (starEach [.Name T q0] X.env)).any (·.1) = false := by rfl) : ED X m ρ (.Call (.Name "isinstance" p) [a, .Name T q0] [] pos) (.bool r) := by
  intro σ H HE H0 S Qv kk
  refine ew_of (pe_callB call_isi hg hm PyProof.Rows.boot_isinstance (pa_cons (pe_ew X a) (pa_cons (pe_bltn (v := .ty T0) hg2 hm2 hb rfl hn hd) pa_nil hs2) hs) (he := hs) (hpl := hpl)) (ew_then h S fun v bd H1 g1 S1 r1 e1 => ?_)
  exact ⟨v, .ty T0, .type (tyD d), .type T0, r, rfl, .ty T0, tyx_of e1 r1, kit_ty hk, kk _ (.dat (.bool r)) H1 g1 (.bl r) rfl⟩
/-! ### slices from a place on -/
theorem dvs_drop {K : PySem.W.Frag} {H : Hp} : ∀ {ds : List PyData} {vs : List V} (n : Nat), DVs K H vs ds → DVs K H (vs.drop n) (ds.drop n)
  | _, _, 0, h => h
  | [], _, n + 1, h => by cases h; exact .nil
  | d :: ds, _, n + 1, h => by
    cases h with
    | cons _ h2 => exact dvs_drop n h2
theorem dvs_take {K : PySem.W.Frag} {H : Hp} : ∀ {ds : List PyData} {vs : List V} (n : Nat), DVs K H vs ds → DVs K H (vs.take n) (ds.take n)
  | _, _, 0, _ => .nil
  | [], _, n + 1, h => by cases h; exact .nil
  | d :: ds, _, n + 1, h => by
    cases h with
    | cons h1 h2 => exact .cons h1 (dvs_take n h2)
theorem cut_from (xs : List V) (n : Nat) : cutV xs (some (n : Int)) none = xs.drop n := by
  unfold cutV
  rw [HT.sIx_none, HT.sIx_nat]
  rcases Nat.le_total n xs.length with h | h
  · rw [Nat.min_eq_left h]
    exact List.take_of_length_le (by rw [List.length_drop]; omega)
  · rw [Nat.min_eq_right h, List.drop_length, List.drop_of_length_le h, List.take_nil]
theorem cut_to (xs : List V) (n : Nat) : cutV xs none (some (n : Int)) = xs.take n := by
  unfold cutV
  rw [HT.sIx_none, HT.sIx_nat, List.drop_zero, Nat.sub_zero]
  rcases Nat.le_total n xs.length with h | h
  · rw [Nat.min_eq_left h]
  · rw [Nat.min_eq_right h, List.take_length, List.take_of_length_le h]
theorem ed_slT {n : Nat} {p2 : Pos} (h1 : ED X m ρ a (.tuple ds)) (h2 : ED X m ρ b (.int (n : Int))) : ED X m ρ (.Subscript a (.Slice (some b) none none p2) pos) (.tuple (ds.drop n)) := by
  intro σ H HE H0 S Qv kk
  refine ew_of (pe_slice sl_tupA (pe_ew X a) (po_some (pe_ew X b)) po_none) (ew_then h1 S fun v bd H1 g1 S1 r1 e1 => ew_then h2 S1 fun u bd2 H2 g2 S2 r2 e2 => ?_)
  subst e1 e2
  obtain ⟨t, xs, e, hs, dv⟩ := DV.tup_eq (DV.keep (g2.tk S1.fe1) r1)
  refine ⟨n, DV.int_eq r2, t, xs, e, hs, fun z => ?_, fun _ l hl => ?_⟩
  · have z1 := z.1
    rw [HT.sIx_nat] at z1
    refine kk _ (.dat (.tuple (ds.drop n))) H2 (g1.trans g2) ?_ rfl
    have hd : ds.drop n = ds := by
      rcases Nat.eq_zero_or_pos n with hn | hn
      · rw [hn]; rfl
      · have hx : xs.length = 0 := by omega
        have : ds.length = 0 := by rw [← dv.len]; exact hx
        rw [List.eq_nil_of_length_eq_zero this]; exact List.drop_nil
    show DV X.K H2 (.ref t) (.tuple (ds.drop n))
    rw [hd]
    exact .tup hs dv
  · rw [cut_from]
    exact kk _ (.dat (.tuple (ds.drop n))) _ ((g1.trans g2).trans (Gr.new hl)) (.tup (.of upd_same) ((dvs_drop n dv).keep ((Gr.new (m := m) hl).tk S2.fe1))) rfl
theorem el_slL {n : Nat} {p2 : Pos} {o : LK} (h1 : EQ X m ρ a (· = .lst o ds)) (h2 : ED X m ρ b (.int (n : Int))) : EL X m ρ (.Subscript a (.Slice (some b) none none p2) pos) (ds.drop n) := by
  intro σ H HE H0 S Qv kk
  refine ew_of (pe_slice sl_list (pe_ew X a) (po_some (pe_ew X b)) po_none) (ew_then h1 S fun v bd H1 g1 S1 r1 e1 => ew_then h2 S1 fun u bd2 H2 g2 S2 r2 e2 => ?_)
  subst e1 e2
  obtain ⟨t, xs, e, hs, dv⟩ := IsL.go (hr_lst r1) g2 S1.fe1
  refine ⟨n, DV.int_eq r2, t, xs, e, hs, fun l hl => ?_⟩
  rw [cut_from]
  exact kk _ (.lst .own (ds.drop n)) _ ((g1.trans g2).trans (Gr.new hl)) ⟨l, _, rfl, (g1.trans g2).free l hl, upd_same, (dvs_drop n dv).keep ((Gr.new (m := m) hl).tk S2.fe1)⟩ rfl
theorem el_slTo {n : Nat} {p2 : Pos} {o : LK} (h1 : EQ X m ρ a (· = .lst o ds)) (h2 : ED X m ρ b (.int (n : Int))) : EL X m ρ (.Subscript a (.Slice none (some b) none p2) pos) (ds.take n) := by
  intro σ H HE H0 S Qv kk
  refine ew_of (pe_slice sl_list (pe_ew X a) po_none (po_some (pe_ew X b))) (ew_then h1 S fun v bd H1 g1 S1 r1 e1 => ew_then h2 S1 fun u bd2 H2 g2 S2 r2 e2 => ?_)
  subst e1 e2
  obtain ⟨t, xs, e, hs, dv⟩ := IsL.go (hr_lst r1) g2 S1.fe1
  refine ⟨n, DV.int_eq r2, t, xs, e, hs, fun l hl => ?_⟩
  rw [cut_to]
  exact kk _ (.lst .own (ds.take n)) _ ((g1.trans g2).trans (Gr.new hl)) ⟨l, _, rfl, (g1.trans g2).free l hl, upd_same, (dvs_take n dv).keep ((Gr.new (m := m) hl).tk S2.fe1)⟩ rfl
/-! ### tuples put together -/
theorem ed_catT (h1 : ED X m ρ a (.tuple ds)) (h2 : ED X m ρ b (.tuple es')) (hl : ds.length + es'.length ≤ sizeLine) : ED X m ρ (.BinOp a .Add b pos) (.tuple (ds ++ es')) :=
  eq_bop op_catA (two h1 h2 fun Ha Hb H x y f r1 r2 Qv k => by
    obtain ⟨t1, xs, e1, s1, d1⟩ := DV.tup_eq r1
    obtain ⟨t2, ys, e2, s2, d2⟩ := DV.tup_eq r2
    subst e1 e2
    refine ⟨t1, t2, xs, ys, rfl, rfl, s1, s2, by rw [d1.len, d2.len]; exact hl, fun hx => ?_, fun _ hy => ?_, fun _ _ l hl' => ?_⟩
    · subst hx
      cases d1
      exact k _ (.dat (.tuple es')) H Gr.refl (.tup s2 d2) rfl
    · subst hy
      cases d2
      exact k _ (.dat (.tuple (ds ++ []))) H Gr.refl (by rw [List.append_nil]; exact .tup s1 d1) rfl
    · exact k _ (.dat (.tuple (ds ++ es'))) _ (Gr.new hl') (.tup (.of upd_same) ((d1.app d2).keep ((Gr.new (m := m) hl').tk f))) rfl)
/-! ### min of a list of ints -/
theorem ints_data {K : PySem.W.Frag} {H : Hp} {ns : List Int} {vs : List V} (h : DVs K H vs (ns.map PyData.int)) : vs = ns.map V.int := DVs.of_ints h
theorem eq_min {o : LK} {ns : List Int} (hc : X.calm = true) (hg : Gl X "min") (hm : X.mg "min" = none) (h : EQ X m ρ a (· = .lst o (ns.map PyData.int))) (hn : 0 < ns.length) (hs : starEach [a] X.env = (false, eval a X.env) :: starEach [] X.env := by rfl) (hpl : (backTo pos (starEach [] X.env)).any (·.1) = false := by rfl) :
    EQ X m ρ (.Call (.Name "min" p) [a] [] pos) fun b => ∃ i, b = .dat (.int i) ∧ i ∈ ns ∧ ∀ y ∈ ns, i ≤ y :=
  eq_cb (pe_callB (cr_min hc) hg hm (by decide +kernel) (pa_aw X [a]) (he := hs) (hpl := hpl)) (aq_cons (h.mono fun b e => aq_nil (by
    subst e
    intro Ha H vs f r Qv k
    cases r with
    | cons r1 r2 =>
      cases r2
      obtain ⟨t, xs, e, hs, dv⟩ := hr_lst r1
      exact ⟨t, ns, by rw [e], by rw [← ints_data dv]; exact hs, hn, fun i h1 h2 => k _ (.dat (.int i)) H Gr.refl (.int i) ⟨i, rfl, h1, h2⟩⟩)) hs)
/-- tuple(x), x any list or tuple that the expression may give -/
theorem eq_tuple {Q : Bd → Prop} (hg : Gl X "tuple") (hm : X.mg "tuple" = none) (h : EQ X m ρ a fun bd => ∃ ds, Items ds bd ∧ Q (.dat (.tuple ds))) (hs : starEach [a] X.env = (false, eval a X.env) :: starEach [] X.env := by rfl) (hpl : (backTo pos (starEach [] X.env)).any (·.1) = false := by rfl) :
    EQ X m ρ (.Call (.Name "tuple" p) [a] [] pos) Q :=
  eq_cb (pe_callTy call_tuple_of hg hm (by decide +kernel) (pa_aw X [a]) (he := hs) (hpl := hpl)) (aq_cons (h.mono fun bd hb => aq_nil (by
    obtain ⟨ds, hb, hq⟩ := hb
    intro Ha H vs f r Qv k
    cases r with
    | cons r1 r2 =>
      cases r2
      obtain ⟨t, xs, e, h1, h2⟩ := hb.get r1
      refine ⟨t, xs, by rw [e], ?_⟩
      rcases h1 with h1 | h1
      · exact .inr ⟨h1, k _ (.dat (.tuple ds)) H Gr.refl (.tup h1 h2) hq⟩
      · exact .inl ⟨h1, fun l hl => k _ (.dat (.tuple ds)) _ (Gr.new hl) (.tup (.of upd_same) (h2.keep ((Gr.new (m := m) hl).tk f))) hq⟩)) hs)
/-! ### sorted(set(x)) -/
def SIn (ns : List Int) : Bd → Prop
  | .dat d => d = .tuple (ns.map .int)
  | .lst _ ds => ds = ns.map .int
  | _ => False
theorem eq_ssetI {ns : List Int} {k : Nat} (r : Room k X.A) (hc : X.calm = true) (hg : Gl X "sorted") (hm : X.mg "sorted" = none) (hg2 : Gl X "set") (hm2 : X.mg "set" = none) (h : EQ X m ρ a (SIn ns)) (hn : ns.length < 64)
    (na : starEach [a] X.env = (false, eval a X.env) :: starEach [] X.env := by rfl) (nb : starEach [.Call (.Name "set" q0) [a] [] p] X.env = (false, eval (.Call (.Name "set" q0) [a] [] p) X.env) :: starEach [] X.env := by rfl) {p3 : Pos} :
    EQ X m ρ (.Call (.Name "sorted" p3) [.Call (.Name "set" q0) [a] [] p] [] pos) fun b => ∃ ms : List Int, b = .lst .own (ms.map .int) ∧ ms.Pairwise (· < ·) ∧ ∀ j, j ∈ ms ↔ j ∈ ns := by
  intro σ H HE H0 S Qv kk
  refine ew_of (pe_sset hc r.units hg hm hg2 hm2 (pe_ew X a) na nb) (ew_then h S fun v bd H1 g1 S1 r1 e1 => .inl ?_)
  have fin : ∀ (l : Addr), (SqL X.K H1 l (ns.map V.int) ∨ SqT X.K H1 l (ns.map V.int)) → v = .ref l → ∃ (l : Addr) (ns : List Int), v = .ref l ∧ (SqL X.K H1 l (ns.map V.int) ∨ SqT X.K H1 l (ns.map V.int)) ∧ ns.length < 64 ∧ ∀ (ms : List Int) (p : Addr), ms.Pairwise (· < ·) → (∀ k, k ∈ ms ↔ k ∈ ns) → H1 p = none → Qv (.ref p) (upd H1 p (.lst (ms.map V.int))) := fun l hs e =>
    ⟨l, ns, e, hs, hn, fun ms t h1 h2 ht => kk _ (.lst .own (ms.map .int)) _ (g1.trans (Gr.new ht)) ⟨t, _, rfl, g1.free t ht, upd_same, DVs.ints ms⟩ ⟨ms, rfl, h1, h2⟩⟩
  cases bd with
  | dat x =>
    have e1 : x = .tuple (ns.map .int) := e1
    subst e1
    obtain ⟨t, xs, e, hs, dv⟩ := DV.tup_eq r1
    rw [ints_data dv] at hs
    exact fin t (.inr hs) e
  | lst o ds =>
    have e1 : ds = ns.map .int := e1
    subst e1
    obtain ⟨t, xs, e, hs, dv⟩ := hr_lst r1
    rw [ints_data dv] at hs
    exact fin t (.inl hs) e
  | feed => exact e1.elim
  | val x => exact e1.elim
  | any => exact e1.elim
  | pr P k => exact e1.elim
  | dct o kvs => exact e1.elim
theorem eq_ssetD {k : Nat} {o : LK} (r : Room k X.A) (hc : X.calm = true) (hg : Gl X "sorted") (hm : X.mg "sorted" = none) (hg2 : Gl X "set") (hm2 : X.mg "set" = none) (h : EQ X m ρ a (· = .lst o ds)) (hn : ds.length ≤ 1200) (hi : ∀ d ∈ ds, SItem d) (hal : PySem.W.AllAlike ds)
    (na : starEach [a] X.env = (false, eval a X.env) :: starEach [] X.env := by rfl) (nb : starEach [.Call (.Name "set" q0) [a] [] p] X.env = (false, eval (.Call (.Name "set" q0) [a] [] p) X.env) :: starEach [] X.env := by rfl) {p3 : Pos} :
    EQ X m ρ (.Call (.Name "sorted" p3) [.Call (.Name "set" q0) [a] [] p] [] pos) fun b => ∃ out, b = .lst .own out ∧ SOut ds out := by
  intro σ H HE H0 S Qv kk
  refine ew_of (pe_sset hc r.units hg hm hg2 hm2 (pe_ew X a) na nb) (ew_then h S fun v bd H1 g1 S1 r1 e1 => .inr ?_)
  subst e1
  obtain ⟨t, xs, e, hs, dv⟩ := hr_lst r1
  exact ⟨t, xs, ds, e, hs, dv, hn, hi, hal, fun us out l hu ho hl => kk _ (.lst .own out) _ (g1.trans (Gr.new hl)) ⟨l, us, rfl, g1.free l hl, upd_same, hu.keep ((Gr.new (m := m) hl).tk S1.fe1)⟩ ⟨out, rfl, ho⟩⟩
end
end W97
end
section
set_option Elab.async false
set_option linter.all false
set_option maxRecDepth 100000
set_option maxHeartbeats 2000000
namespace W97
open PySem PySem.Spec PyProof.Rows L2 PyEnc PySem.AutoSeq1
abbrev tupIt (t : Addr) : Obj := { cls := .type "tuple_iterator", data := .fields #[.ref t, .int 0 0] }
theorem enum_newT (t : Addr) (items : Array Value) : Meets (Builtin.«enumerate.__new__» ⟨[.type "enumerate", .ref t], []⟩) (fun _ R s => s.heap.IsTuple t items ∧
    R (.ok (.ret (.ref (s.heap.push (tupIt t)).objs.size))) { s with heap := (s.heap.push (tupIt t)).push { cls := .type "enumerate", data := .fields #[.none, .bool false, .ref s.heap.objs.size, rawInt 0, .none, .none] } }) :=
  .of_wp fun prog w A R s h => by
    obtain ⟨hp, g, d, tk, os⟩ := s
    obtain ⟨hT, h⟩ := h
    have hsub := sub_enumerate
    have q1 : ∀ {A2 : Around} {E Q : Value → Shared → Prop}, Q (.ref hp.objs.size) ⟨hp.push (tupIt t), g, d, tk, os⟩ → wpAny (model prog w) A2 (pyIter (.ref t)) Q E ⟨hp, g, d, tk, os⟩ := fun q => wpAny_pyIter_tuple (s := ⟨hp, g, d, tk, os⟩) hT q
    wp_walk using q1
    refine wpAny_stack_any fun st => wpAny_pure ?_
    split
    · rename_i c _ _ _ _ _
      cases (c == Value.type "enumerate") <;> (wp_walk using q1; exact ⟨_, rfl, h⟩)
    · wp_walk using q1
      exact ⟨_, rfl, h⟩
end W97
end
section
set_option Elab.async false
set_option linter.all false
set_option maxRecDepth 100000
set_option maxHeartbeats 2000000
namespace W97
open PySem PySem.Spec PyProof.Rows L2 PyEnc
section
variable {prog : Program} {w : World} {A : Around} {E : Value → Shared → Prop} {s : Shared}
theorem call_enumT {t : Addr} {items : Array Value} {Q : Value → Shared → Prop} (hT : s.heap.IsTuple t items)
    (h : ∀ h2, IsEnum h2 (s.heap.objs.size + 1) s.heap.objs.size 0 .none → h2.IsTupleIter s.heap.objs.size t 0 → (∀ b o, s.heap.get? b = some o → h2.get? b = some o) → Q (.ref (s.heap.objs.size + 1)) { s with heap := h2 }) :
    wpAny (model prog w) A (call (.type "enumerate") [.ref t]) Q E s := by
  refine callType_new F.called_enumerate (by decide) (F.typeCall_enumerate_1 _) (F.newCall_enumerate_1 _) (fun ob => F.args_object_init_2 ob _) F.entry_enumerate_new (enum_newT t items) ⟨hT, ?_⟩
  have zs : (s.heap.push (tupIt t)).objs.size = s.heap.objs.size + 1 := Heap.size_push ..
  have top := Heap.get?_push_size (s.heap.push (tupIt t)) (o := { cls := .type "enumerate", data := .fields #[.none, .bool false, .ref s.heap.objs.size, rawInt 0, .none, .none] }) rfl
  show _ ∧ _
  rw [zs] at top ⊢
  exact ⟨⟨_, top, rfl⟩, h _ top ⟨_, Heap.get?_push_of_some _ (Heap.get?_push_size _ rfl), rfl, rfl⟩ fun b o e => Heap.get?_push_of_some _ (Heap.get?_push_of_some _ e)⟩
end
/-- a tuple as it stands at each turn, each item in a new pair -/
def Iten (K : PySem.W.Frag) (a : Addr) : It :=
  ⟨fun i H => ∃ (xs : List V) (x : V), SqT K H a xs ∧ xs[i]? = some x, fun i H v H2 => ∃ T x, v = .ref T ∧ H T = none ∧ H2 = upd H T (.tup [.int (i : Nat), x]) ∧ ∀ xs, SqT K H a xs → xs[i]? = some x, fun i H => ∃ xs : List V, SqT K H a xs ∧ xs.length ≤ i⟩
theorem turn_enumT {P : Program} {w : World} {K : PySem.W.Frag} {elts : List Expr} {kk : Nat} {tpos : Pos} (a e it : Addr) :
    Turn P w K (.Tuple elts kk tpos) (Iten K a) [e, it] e (fun i h => (∃ old, IsEnum h e it ((i : Nat) : Int) old) ∧ h.IsTupleIter it a i ∧ e ≠ it) where
  mem := List.mem_cons_self
  obj := fun i h st b hb => by
    obtain ⟨⟨old, he⟩, ⟨o, ho, hc, hd⟩, _⟩ := st
    rcases List.mem_cons.mp hb with z | z
    · subst z
      exact ⟨_, he, fun v q => by cases q⟩
    · exact ⟨o, List.mem_singleton.mp z ▸ ho, fun v q => by rw [hd] at q; cases q⟩
  keep := fun i h h2 st k => let ⟨⟨old, he⟩, hi, hne⟩ := st; ⟨⟨old, k e List.mem_cons_self _ he⟩, hi.at fun o q => k it (List.mem_cons_of_mem _ List.mem_cons_self) o q, hne⟩
  item := by
    intro X hP hw hK hc i pins s σ H E I hf st hg
    subst hP hw hK
    obtain ⟨⟨old, he⟩, hit, hne⟩ := st
    obtain ⟨xs, x, hq, hx⟩ := hg
    obtain ⟨its, rv, hT, hz⟩ := I.tuple hq
    obtain ⟨u, hu, ru⟩ := rv.get hx
    have hel : e < s.heap.objs.size := Heap.lt_size he
    have hil : it < s.heap.objs.size := let ⟨_, q, _⟩ := hit; Heap.lt_size q
    have hti : a ≠ it := by
      obtain ⟨o1, q1, c1, _⟩ := hit
      obtain ⟨o2, q2, c2, _⟩ := (show s.heap.IsTuple a its.toArray from hT)
      rintro rfl
      rw [q1] at q2
      cases q2
      rw [c1] at c2
      exact absurd c2 (by decide)
    have hte : e ≠ a := by
      obtain ⟨o2, q2, c2, _⟩ := (show s.heap.IsTuple a its.toArray from hT)
      rintro rfl
      have he' : s.heap.get? e = some _ := he
      rw [he'] at q2
      cases q2
      have c3 : Value.type "enumerate" = Value.type "tuple" := c2
      exact absurd c3 (by decide)
    have hlt : i < its.toArray.size := by
      rw [List.size_toArray]
      exact (List.getElem?_eq_some_iff.mp hu).1
    refine wpAny_pyNext_enum_itemD (fp := [it, a]) (Draws.tuple (A := X.A.in1) (by simp [I.ok.hd hc]) it a hti its.toArray) he ⟨hit, hT⟩ hlt hne (by simp only [List.mem_cons, List.not_mem_nil, or_false, not_or]; exact ⟨hne, hte⟩) fun u2 h2 tk hP2 ho hst hT2 hsz hk => ?_
    obtain rfl : u = u2 := by
      have q : its[i]? = some u2 := by simpa using hP2
      rw [hu] at q
      exact Option.some.inj q
    refine ⟨_, rfl, wpAny_letOwnedTupleGo_enum (s := { s with heap := h2, toks := tk + 1 }) ho fun h3 he3 sb => ?_⟩
    have hT3 : h3.get? s.heap.objs.size = some { cls := .type "tuple", data := .seq #[.int i tk, u] } := (sb.2 _ (Nat.ne_of_gt hel)).trans hT2
    have new : ObjOk X.prog X.w (upd H s.heap.objs.size (.tup [.int (i : Nat), x])) h3 s.heap.objs.size (.tup [.int (i : Nat), x]) :=
      ⟨(by decide : 2 ≤ sizeLine), [.int i tk, u], .cons ⟨_, rfl⟩ (.cons ru .nil), ⟨_, hT3, rfl, _, rfl⟩⟩
    have I2 : Inv X pins σ (upd H s.heap.objs.size (.tup [.int (i : Nat), x])) { s with heap := h3, toks := tk + 1 } :=
      I.turnedNew (ch := [e, it]) (fun b ob hb q => (sb.2 b (fun z => hb (by simp [z]))).trans (hk b ob (fun z => hb (by simp [z])) (fun z => hb (by simp [z])) q)) hf (Nat.le_refl _) new
    refine ⟨.ref s.heap.objs.size, _, I2, rfl, ⟨_, x, rfl, I.hok.fresh (Nat.le_refl _), rfl, fun ys hy => by rw [I.tuple_inj hy hq]; exact hx⟩, ⟨⟨u, ?_⟩, hst.1.at fun o q => (sb.2 it (Ne.symm hne)).trans q, hne⟩, fun b hb => ?_⟩
    · rw [show ((i + 1 : Nat) : Int) = (i : Int) + 1 by omega]
      exact he3
    · have lt : b < s.heap.objs.size := (List.mem_cons.mp hb).elim (fun z => z ▸ hel) fun z => List.mem_singleton.mp z ▸ hil
      rw [upd_ne (Nat.ne_of_lt lt)]
      exact (hf b hb).1
  done := by
    intro X hP hw hK hc i pins s σ H E I hf st hg
    subst hP hw hK
    obtain ⟨⟨old, he⟩, hit, hne⟩ := st
    obtain ⟨xs, hq, hx⟩ := hg
    obtain ⟨its, rv, hT, hz⟩ := I.tuple hq
    have hti : a ≠ it := by
      obtain ⟨o1, q1, c1, _⟩ := hit
      obtain ⟨o2, q2, c2, _⟩ := (show s.heap.IsTuple a its.toArray from hT)
      rintro rfl
      rw [q1] at q2
      cases q2
      rw [c1] at c2
      exact absurd c2 (by decide)
    obtain ⟨f0, f1, f2, f3, f4, f5⟩ := hf it (List.mem_cons_of_mem _ List.mem_cons_self)
    have hT1 : s.TypeIs (.ref e) "enumerate" := ⟨_, he, rfl⟩
    have hlen := rv.length
    unfold pyNext
    refine wpAny_bind (wpAny_attempt (wpAny_callSpecial?_slot (name := Str.ofString "__next__") hT1 F.slot_enumerate_next (wpAny_call_entry F.slot_enumerate_next hT1 F.entry_enumerate_next ?_ (F.args_enumerate_next_1 _))))
    show wpAny _ _ (field (.ref e) 2 >>= _) _ _ _
    refine wpAny_bind (wpAny_field he rfl (x := .ref it) rfl (wpAny_bind (wpAny_nextOf_tuple_end (by simp [I.ok.hd hc]) hit (show s.heap.IsTuple a its.toArray from hT) (by simp; omega) fun h2 x eb hx2 => ?_)))
    obtain ⟨o, ho, hcl⟩ := hx2
    refine wpAny_bind (wpAny_isInstance (T := "StopIteration") (b := true) ⟨o, ho, hcl⟩ isSubtype_stop (wpAny_pure ⟨rfl, I.turned (t' := s.toks) (fun b o hb q => eb b o hb q) f0 f1 f3 f4 f5⟩))
  self := fun A i s Q E st h => let ⟨⟨_, he⟩, _⟩ := st; wpAny_pyIter_enum he h
def iEnumT (K : PySem.W.Frag) (ta : TA) : TI := fun σ H R => ta σ H fun vs H1 => ∃ a xs, vs = [.ref a] ∧ SqT K H1 a xs ∧ R (Iten K a) H1
theorem pi_enumT {X : Cx} {e : Expr} {ta : TA} {p pos tpos : Pos} {elts : List Expr} {kk : Nat} (hg : Gl X "enumerate") (hm : X.mg "enumerate" = none) (ha : PA X [e] ta) (hs : starEach [e] X.env = [(false, eval e X.env)] := by rfl) :
    PI X (.Tuple elts kk tpos) (.Call (.Name "enumerate" p) [e] [] pos) (iEnumT X.K ta) := by
  refine ⟨fun pins s σ H R I h => Call_ (ld_blt I hg hm boot_enumerate (PyProof.Rows.callWith_type1 (thn (ha.run pos pins s σ H _ I h) fun us s1 ⟨vs, H1, I1, r1, a, xs, ex, hq, q⟩ => ?_) hs rfl))⟩
  subst ex
  cases r1 with
  | cons r rr =>
    cases rr
    cases r
    obtain ⟨its, rv, hT, hz⟩ := I1.tuple hq
    refine call_enumT hT fun h2 he hit hk => wpAny_pyIter_enum he ?_
    have I2 : Inv X pins σ H1 { s1 with heap := h2 } := I1.kept (t' := s1.toks) hk
    refine ⟨s1.heap.objs.size + 1, [s1.heap.objs.size + 1, s1.heap.objs.size], _, _, H1, rfl, I2, turn_enumT a (s1.heap.objs.size + 1) s1.heap.objs.size, ⟨⟨.none, he⟩, hit, Nat.succ_ne_self _⟩, fun b hb => ?_, q⟩
    have hle : s1.heap.objs.size ≤ b := (List.mem_cons.mp hb).elim (fun z => z ▸ Nat.le_add_right _ _) fun z => List.mem_singleton.mp z ▸ Nat.le_refl _
    exact I1.fpOk hle (I1.hok.fresh hle)
/-! ### the layer -/
def enD : Nat → List PyData → List PyData
  | _, [] => []
  | i, d :: ds => .tuple [.int (i : Nat), d] :: enD (i + 1) ds
theorem enD_len : ∀ (ds : List PyData) (i : Nat), (enD i ds).length = ds.length
  | [], _ => rfl
  | _ :: ds, i => congrArg Nat.succ (enD_len ds (i + 1))
theorem enD_get : ∀ (ds : List PyData) (i j : Nat), (enD i ds)[j]? = (ds[j]?).map fun d => .tuple [.int ((i + j : Nat) : Int), d]
  | [], _, _ => by simp [enD]
  | d :: ds, i, 0 => by simp [enD]
  | d :: ds, i, j + 1 => by
    have h := enD_get ds (i + 1) j
    rw [show i + 1 + j = i + (j + 1) by omega] at h
    simpa [enD] using h
theorem src_enumT {K : PySem.W.Frag} {H : Hp} {a : Addr} {xs : List V} {ds : List PyData} (h : SqT K H a xs) (d : DVs K H xs ds) : Src K (Iten K a) (enD 0 ds) H := by
  unfold Src
  rw [enD_len]
  refine ⟨fun i H1 hi t => ?_, fun H1 t => ⟨xs, t.1.sq h, by rw [d.len]; exact Nat.le_refl _⟩, fun i H1 x H2 hi t y => ?_⟩
  · have hi2 : i < xs.length := by rw [d.len]; exact hi
    exact ⟨xs, xs[i], t.1.sq h, List.getElem?_eq_getElem hi2⟩
  · obtain ⟨T, v, e1, e2, e3, e4⟩ := y
    subst e1 e3
    obtain ⟨dd, h1, h2⟩ := (d.keep t.1).at' (e4 xs (t.1.sq h))
    have tk : TK H1 (upd H1 T (.tup [.int (i : Nat), v])) := (Gr.new (m := {}) e2).tk fun a e => by cases e
    exact ⟨_, by rw [enD_get, h1, Nat.zero_add]; rfl, fun b o e => by rw [upd_ne (ne_of_none e e2)]; exact e, .tup (.of upd_same) (.cons (.int _) (.cons (DV.keep tk h2) .nil))⟩
theorem src_enumL {K : PySem.W.Frag} {H : Hp} {a : Addr} {xs : List V} {ds : List PyData} (h : SqL K H a xs) (d : DVs K H xs ds) : Src K (Ite K a) (enD 0 ds) H := by
  unfold Src
  rw [enD_len]
  refine ⟨fun i H1 hi t => ?_, fun H1 t => ⟨xs, t.sql h, by rw [d.len]; exact Nat.le_refl _⟩, fun i H1 x H2 hi t y => ?_⟩
  · have hi2 : i < xs.length := by rw [d.len]; exact hi
    exact ⟨xs, xs[i], t.sql h, List.getElem?_eq_getElem hi2⟩
  · obtain ⟨T, v, e1, e2, e3, e4⟩ := y
    subst e1 e3
    obtain ⟨dd, h1, h2⟩ := (d.keep t.1).at' (e4 xs (t.sql h))
    have tk : TK H1 (upd H1 T (.tup [.int (i : Nat), v])) := (Gr.new (m := {}) e2).tk fun a e => by cases e
    exact ⟨_, by rw [enD_get, h1, Nat.zero_add]; rfl, fun b o e => by rw [upd_ne (ne_of_none e e2)]; exact e, .tup (.of upd_same) (.cons (.int _) (.cons (DV.keep tk h2) .nil))⟩
section
variable {X : Cx} {m : Mo} {ρ : Ab} {e : Expr} {p pos tpos : Pos} {ds : List PyData} {elts : List Expr} {kk : Nat}
theorem itl_enumT (hg : Gl X "enumerate") (hm : X.mg "enumerate" = none) (h : ED X m ρ e (.tuple ds)) (hs : starEach [e] X.env = [(false, eval e X.env)] := by rfl) : ITL X m ρ (.Tuple elts kk tpos) (.Call (.Name "enumerate" p) [e] [] pos) (enD 0 ds) :=
  ⟨_, pi_enumT hg hm (pa_cons (pe_ew X e) pa_nil (by rw [hs]; rfl)) hs, fun σ H HE H0 S R k => ew_then h S fun v b H1 g1 S1 r1 e1 => by
    subst e1
    obtain ⟨q, xs, ev, h1, h2⟩ := DV.tup_eq r1
    exact ⟨q, xs, by rw [ev], h1, k _ H1 g1 (src_enumT (sqt_frz S1 h1) (h2.keep (tk_frz S1)))⟩⟩
theorem itc_enumL {lk : LK} (hg : Gl X "enumerate") (hm : X.mg "enumerate" = none) (h : EQ X m ρ e (· = .lst lk ds)) (hs : starEach [e] X.env = [(false, eval e X.env)] := by rfl) : ITC X m ρ (.Tuple elts kk tpos) (.Call (.Name "enumerate" p) [e] [] pos) (enD 0 ds) :=
  ⟨_, pi_enum hg hm (pa_cons (pe_ew X e) pa_nil (by rw [hs]; rfl)) hs, fun σ H HE H0 S R k => ew_then h S fun v b H1 g1 S1 r1 e1 => by
    subst e1
    obtain ⟨q, xs, ev, h1, h2⟩ := hr_lst r1
    exact ⟨q, xs, by rw [ev], h1, k _ H1 g1 (src_enumL h1 h2)⟩⟩
end
end W97
end
section
set_option Elab.async false
set_option linter.all false
set_option maxRecDepth 100000
set_option maxHeartbeats 2000000
namespace W97
open PySem PySem.Spec PyProof.Rows L2 PyEnc
abbrev zi (l : List Nat) : List Int := l.map fun n : Nat => (n : Int)
theorem nat_ints (l : List Nat) : l.map (enc : Nat → PyData) = (zi l).map PyData.int := by rw [List.map_map]; rfl
theorem ints_nat {ms : List Int} {l : List Nat} (h1 : ms.Pairwise (· < ·)) (h2 : ∀ j, j ∈ ms ↔ j ∈ zi l) : ms.map PyData.int = (asSet l).map enc := by
  have h3 : zi (ms.map Int.toNat) = ms := by
    rw [zi, List.map_map]
    refine (List.map_congr_left fun j hj => ?_).trans (List.map_id ms)
    obtain ⟨n, _, e⟩ := List.mem_map.mp ((h2 j).1 hj)
    show ((j.toNat : Nat) : Int) = j
    omega
  have h4 : ms.map Int.toNat = asSet l := by
    refine asSet_eq (List.pairwise_map.mpr (h1.imp_of_mem fun {a b} ha hb hab => ?_)) fun x => ?_
    · obtain ⟨n, _, e⟩ := List.mem_map.mp ((h2 a).1 ha)
      obtain ⟨n', _, e'⟩ := List.mem_map.mp ((h2 b).1 hb)
      omega
    · rw [List.mem_map]
      constructor
      · rintro ⟨j, hj, e⟩
        obtain ⟨n, hn, e'⟩ := List.mem_map.mp ((h2 j).1 hj)
        rw [show x = n by omega]; exact hn
      · intro hx
        exact ⟨x, (h2 x).2 (List.mem_map.mpr ⟨x, hx, rfl⟩), Int.toNat_natCast x⟩
  rw [← h4, nat_ints, h3]
/-- what as_set takes and gives -/
def FasSet : List Bd → (Bd → Prop) → Prop := fun bs R =>
  (∃ l : List Nat, (bs = [.lst .par (l.map enc)] ∨ bs = [.dat (enc l)]) ∧ l.length < 64 ∧ R = (· = .dat (enc (asSet l)))) ∨
  ∃ ds, bs = [.lst .par ds] ∧ ds.length ≤ 1200 ∧ (∀ d ∈ ds, SItem d) ∧ PySem.W.AllAlike ds ∧ R = fun b => ∃ out, b = .dat (.tuple out) ∧ SOut ds out
section
variable {P : Program} {w : World} {K : PySem.W.Frag} {mg : Str → Option Value} {base : Heap}
theorem sc_as_set : FnScope ["things"] ["things"] (defScope (topS 1)) := ⟨rfl, rfl, rfl, by decide +kernel, rfl, by decide +kernel, by decide +kernel⟩
theorem f_as_set (E : En K mg) : Fn P w K mg base "as_set" 1 ["things"] none false FasSet := by
  refine mkFn E 0 sc_as_set (by decide) (fun bs R h => by rcases h with ⟨_, rfl | rfl, _⟩ | ⟨_, rfl, _⟩ <;> rfl) (fun _ _ _ _ _ _ us hl => match us, hl with | [_], _ => rfl) fun f cdv A outer s H X fa ca bs R hr hf h => ?_
  rcases h with ⟨l, rfl | rfl, hl, rfl⟩ | ⟨ds, rfl, hl, hi, hal, rfl⟩
  · exact sq_cons (s1_ret (eq_tuple rfl E.tuple_ ((eq_ssetI (ns := zi l) hr rfl rfl E.sorted_ rfl E.set_ ((vl 0).mono fun b e => by subst e; exact nat_ints l) (by rw [List.length_map]; exact hl)).mono fun b ⟨ms, e, h1, h2⟩ => ⟨(asSet l).map enc, by rw [e]; exact ints_nat h1 h2, rfl⟩)))
  · exact sq_cons (s1_ret (eq_tuple rfl E.tuple_ ((eq_ssetI (ns := zi l) hr rfl rfl E.sorted_ rfl E.set_ ((v 0).mono fun b e => by subst e; exact congrArg PyData.tuple (nat_ints l)) (by rw [List.length_map]; exact hl)).mono fun b ⟨ms, e, h1, h2⟩ => ⟨(asSet l).map enc, by rw [e]; exact ints_nat h1 h2, rfl⟩)))
  · exact sq_cons (s1_ret (eq_tuple rfl E.tuple_ ((eq_ssetD hr rfl rfl E.sorted_ rfl E.set_ (vl 0) hl hi hal).mono fun b ⟨out, e, ho⟩ => ⟨out, by rw [e]; rfl, out, rfl, ho⟩)))
theorem sc_all_standings : FnScope ["machine"] ["machine"] (defScope (topS 2)) := ⟨rfl, rfl, rfl, by decide +kernel, rfl, by decide +kernel, by decide +kernel⟩
theorem f_all_standings (E : En K mg) : Fn P w K mg base "all_standings" 1 ["machine"] none false (Fdd fun ds d => ∃ m : Mc, ds = [enc m] ∧ m.length ≤ 1000 ∧ d = enc (List.range m.length)) := by
  refine mkFn E 1 sc_all_standings (by decide) (fun bs R h => by obtain ⟨_, _, rfl, ⟨_, rfl, _⟩, _⟩ := h; rfl) (fun _ _ _ _ _ _ us hl => match us, hl with | [_], _ => rfl) fun f cdv A outer s H X fa ca bs R hr hf h => ?_
  obtain ⟨_, _, rfl, ⟨m, rfl, hm, rfl⟩, rfl⟩ := h
  exact sq_cons (s1_retD (ed_tupRg rfl rfl E.tuple_ rfl E.range_ (lenE rfl E.len_ (v 0)) hm) rfl)
end
end W97
end
section
set_option Elab.async false
set_option linter.all false
set_option maxRecDepth 100000
set_option maxHeartbeats 2000000
namespace W97
open PySem PySem.Spec PyProof.Rows L2 PyEnc
section
variable {X : Cx} {m : Mo} {ρ ρ' : Ab} {a b c e : Expr} {pos p : Pos} {α β : Type} [DecidableEq α] [PyEnc α] [DecidableEq β] [PyEnc β]
theorem ixE {l : List α} {n : Nat} {x : α} (h1 : ED X m ρ a (enc l)) (h2 : ED X m ρ b (enc n)) (hx : l[n]? = some x) (hs : PlainIx b := by intro _ _; rfl) : ED X m ρ (.Subscript a b pos) (enc x) :=
  ed_ixT (ds := l.map enc) (n := n) h1 h2 (by rw [List.getElem?_map, hx]; rfl) hs
theorem ixL {l : List α} {n : Nat} {x : α} {k : LK} (h1 : EQ X m ρ a (· = .lst k (l.map enc))) (h2 : ED X m ρ b (enc n)) (hx : l[n]? = some x) (hs : PlainIx b := by intro _ _; rfl) : ED X m ρ (.Subscript a b pos) (enc x) :=
  ed_ixL (ds := l.map enc) (n := n) h1 h2 (by rw [List.getElem?_map, hx]; rfl) hs
theorem fstE {x : α × β} (h1 : ED X m ρ a (enc x)) (h2 : ED X m ρ b (.int 0)) (hs : PlainIx b := by intro _ _; rfl) : ED X m ρ (.Subscript a b pos) (enc x.1) :=
  ed_ixT (ds := [enc x.1, enc x.2]) (n := 0) h1 h2 rfl hs
theorem sndE {x : α × β} (h1 : ED X m ρ a (enc x)) (h2 : ED X m ρ b (.int 1)) (hs : PlainIx b := by intro _ _; rfl) : ED X m ρ (.Subscript a b pos) (enc x.2) :=
  ed_ixT (ds := [enc x.1, enc x.2]) (n := 1) h1 h2 rfl hs
theorem prE {x1 : Nat} {x : α} {y : β} (h1 : ED X m ρ a (enc x)) (h2 : ED X m ρ b (enc y)) (hs : starEach [a, b] X.env = (false, eval a X.env) :: starEach [b] X.env := by rfl) (hs2 : starEach [b] X.env = (false, eval b X.env) :: starEach [] X.env := by rfl) : ED X m ρ (.Tuple [a, b] x1 pos) (enc (x, y)) :=
  ed_tup (ds := [enc x, enc y]) (ad_cons h1 (ad_cons h2 ad_nil hs2) hs) (show 2 ≤ sizeLine by rw [sizeLine_eq]; decide)
theorem any_eqv (l : List α) (x : α) : (l.map enc).any (fun z => PyData.eqv z (enc x)) = decide (x ∈ l) := by
  rw [List.any_map]
  induction l with
  | nil => simp
  | cons y l ih =>
    rw [List.any_cons, ih]
    show (PyData.eqv (enc y) (enc x) || decide (x ∈ l)) = _
    rw [PyEnc.eqv, ← Bool.decide_or]
    refine decide_eq_decide.mpr ?_
    rw [List.mem_cons]
    exact or_congr ⟨fun h => h.symm, fun h => h.symm⟩ Iff.rfl
theorem inLE {l : List α} {x : α} {k : Nat} {o : LK} (r : Room k X.A) (h1 : ED X m ρ a (enc x)) (h2 : EQ X m ρ b (· = .lst o (l.map enc))) (hm : behindInMarks .In b = false := by rfl) (hd : PyEnc.dep α ≤ 63 := by decide) : ED X m ρ (.Compare a [.In] [b] pos) (.bool (decide (x ∈ l))) := by
  rw [← any_eqv l x]
  exact ed_inL (w := r) h1.asD (EQ.asL h2) hm (shaped_enc (by omega)) (shaped_list hd)
theorem niLE {l : List α} {x : α} {k : Nat} {o : LK} (r : Room k X.A) (h1 : ED X m ρ a (enc x)) (h2 : EQ X m ρ b (· = .lst o (l.map enc))) (hm : behindInMarks .NotIn b = false := by rfl) (hd : PyEnc.dep α ≤ 63 := by decide) : ED X m ρ (.Compare a [.NotIn] [b] pos) (.bool (!decide (x ∈ l))) := by
  rw [← any_eqv l x]
  exact ed_niL (w := r) h1.asD (EQ.asL h2) hm (shaped_enc (by omega)) (shaped_list hd)
theorem inTE {l : List α} {x : α} {k : Nat} (r : Room k X.A) (h1 : ED X m ρ a (enc x)) (h2 : ED X m ρ b (enc l)) (hm : behindInMarks .In b = false := by rfl) (hd : PyEnc.dep α ≤ 63 := by decide) : ED X m ρ (.Compare a [.In] [b] pos) (.bool (decide (x ∈ l))) := by
  rw [← any_eqv l x]
  exact ed_inT (w := r) (ds := l.map enc) h1.asD (EQ.asD h2) hm (shaped_enc (by omega)) (shaped_enc (α := List α) (show PyEnc.dep α + 1 ≤ 64 by omega))
theorem eqE {x y : α} {k : Nat} (r : Room k X.A) (h1 : ED X m ρ a (enc x)) (h2 : ED X m ρ b (enc y)) (hd : PyEnc.dep α ≤ 64 := by decide) : ED X m ρ (.Compare a [.Eq] [b] pos) (.bool (decide (x = y))) := by
  rw [← PyEnc.eqv]
  exact ed_eqD (w := r) h1.asD h2.asD (shaped_enc hd) (shaped_enc hd)
theorem neE {x y : α} {k : Nat} (r : Room k X.A) (h1 : ED X m ρ a (enc x)) (h2 : ED X m ρ b (enc y)) (hd : PyEnc.dep α ≤ 64 := by decide) : ED X m ρ (.Compare a [.NotEq] [b] pos) (.bool (!decide (x = y))) := by
  rw [← PyEnc.eqv]
  exact ed_neD (w := r) h1.asD h2.asD (shaped_enc hd) (shaped_enc hd)
/-! ### targets -/
theorem t1 (i : Nat) {x : Str} {d : PyData} (hN : X.N.Nodup) (hi : X.N[i]? = some x := by rfl) (hx : Loc X.env.scope x := by first | exact .inl rfl | exact .inr rfl) (hf : X.fn x = true ∨ X.env.scope.names.lookup x = some .local := by first | exact .inl rfl | exact .inr rfl) :
    TGD X (.Name x pos) [i] d ρ (ρ.set i (some (.dat d))) := tgd_name hN hi hx hf
theorem t2 (i j : Nat) {x y : Str} {p1 p2 : Pos} {k : Nat} {d1 d2 : PyData} (hc : X.calm = true) (hN : X.N.Nodup) (hi : X.N[i]? = some x := by rfl) (hj : X.N[j]? = some y := by rfl) (hx : Loc X.env.scope x := by first | exact .inl rfl | exact .inr rfl) (hy : Loc X.env.scope y := by first | exact .inl rfl | exact .inr rfl)
    (hf : X.fn x = true ∨ X.env.scope.names.lookup x = some .local := by first | exact .inl rfl | exact .inr rfl) (hg : X.fn y = true ∨ X.env.scope.names.lookup y = some .local := by first | exact .inl rfl | exact .inr rfl)
    (hn : (assignEach [.Name x p1, .Name y p2] X.env).length = 2 := by rfl) (hst : (assignEach [.Name x p1, .Name y p2] X.env).findIdx? (·.1) = none := by rfl)
    (hs : (assignEach [.Name x p1, .Name y p2] X.env).map (·.2) = assign (.Name x p1) X.env :: (assignEach [.Name y p2] X.env).map (·.2) := by rfl) (hs2 : (assignEach [.Name y p2] X.env).map (·.2) = assign (.Name y p2) X.env :: (assignEach [] X.env).map (·.2) := by rfl) :
    TGD X (.Tuple [.Name x p1, .Name y p2] k pos) [i, j] (.tuple [d1, d2]) ρ ((ρ.set i (some (.dat d1))).set j (some (.dat d2))) :=
  tgd_tup hc (tgds_cons (tgd_name hN hi hx hf) (tgds_cons (tgd_name hN hj hy hg) tgds_nil hs2) hs) rfl hn hst
end
/-- what is not needed any more -/
def forget (ρ : Ab) : List Nat → Ab
  | [] => ρ
  | i :: is => (forget ρ is).set i none
theorem SSt.forget {K : PySem.W.Frag} {m : Mo} {HE H0 H : Hp} {ρ : Ab} {σ : L2.St} (S : SSt K m HE H0 ρ σ H) : ∀ is, SSt K m HE H0 (W97.forget ρ is) σ H
  | [] => S
  | i :: is => (S.forget is).drop
theorem sq_nilF {X : Cx} {m : Mo} {ρ : Ab} {E : AE} (is : List Nat) (h : E.nx (forget ρ is)) : SQ X m ρ [] E := fun σ H HE H0 S D d pins s I => pss_nil.run pins s σ H D I (d.nx _ σ H (S.forget is) h)
theorem nf_nil : noFz [] := rfl
theorem nf_cons {o : Option Bd} {ρ : Ab} (h : isFz o = false) (t : noFz ρ) : noFz (o :: ρ) := by
  unfold noFz at t ⊢
  rw [List.any_cons, h, t]; rfl
/-! ### machines -/
theorem st_at {m : Mc} {s : Nat} (h : s < m.length) : m[s]? = some (st m s) := by
  unfold st
  rw [List.getD_eq_getElem?_getD, List.getElem?_eq_getElem h]; rfl
theorem Ok.cell_at {m : Mc} {w s x : Nat} (k : Ok m w) (h : s < m.length) (hx : x < w) : (st m s)[x]? = some (cell m s x) := by
  have hl : x < (st m s).length := by rw [k.wst h]; exact hx
  unfold cell
  rw [List.getD_eq_getElem?_getD, List.getElem?_eq_getElem hl]; rfl
theorem run_snoc (m : Mc) : ∀ (r : Row) (s x : Nat), run m s (r ++ [x]) = nx m (run m s r) x
  | [], _, _ => rfl
  | y :: r, s, x => run_snoc m r (nx m s y) x
theorem outs_snoc (m : Mc) : ∀ (r : Row) (s x : Nat), outs m s (r ++ [x]) = outs m s r ++ [an m (run m s r) x]
  | [], _, _ => rfl
  | y :: r, s, x => by
    show an m s y :: outs m (nx m s y) (r ++ [x]) = _
    rw [outs_snoc m r (nx m s y) x]; rfl
end W97
end
section
set_option Elab.async false
set_option linter.all false
set_option maxRecDepth 100000
set_option maxHeartbeats 2000000
namespace W97
open PySem PySem.Spec PyProof.Rows L2 PyEnc
section
variable {X : Cx} {m : Mo} {ρ ρ' : Ab} {a b c e elt tg iter : Expr} {pos p : Pos} {α β : Type} [DecidableEq α] [PyEnc α] [DecidableEq β] [PyEnc β]
theorem take_map {l : List α} {i : Nat} {d : PyData} (h : (l.map enc)[i]? = some d) : ∃ x, l[i]? = some x ∧ d = enc x := by
  rw [List.getElem?_map] at h
  obtain ⟨x, hx, e⟩ := Option.map_eq_some_iff.mp h
  exact ⟨x, hx, e.symm⟩
theorem el_mapE {scope : Scope} {l : List α} {g : α → β} (own : List (Str × Nat)) (hc : X.calm = true) (hN : X.N.Nodup) (it : ITC X m ρ tg iter (l.map enc)) (ok : BlkOk X.N X.env.scope scope own) (hlen : l.length < 100000)
    (h : ∀ x ∈ l, ∃ is ρ'', (∀ j ∈ is, j ∈ own.map (·.2)) ∧ (Blk X scope fun X' => TGD X' tg is (enc x) (wipeA (fzA ρ) (own.map (·.2))) ρ'') ∧ Blk X scope fun X' => ED X' m ρ'' elt (enc (g x)))
    (hf : ∀ x, foldedSetIterable iter X.env x = pure x := by intro _; rfl) : EL X m ρ (.ListComp elt [⟨tg, iter, [], 0⟩] scope pos) ((l.map g).map enc) :=
  eq_lc hc hN it ok (Nat.zero_le _) (by rw [List.length_map]; exact hlen) (fun i acc => acc = ((l.take i).map g).map enc) rfl (fun i d acc hd hI => by
    obtain ⟨x, hx, e⟩ := take_map hd
    subst e
    obtain ⟨is, ρ'', h1, h2, h3⟩ := h x (List.mem_of_getElem? hx)
    refine ⟨is, ρ'', h1, h2, fun s H C cl fp => (h3 s H C cl fp).mono fun b eb => ⟨_, eb, ?_⟩⟩
    show acc ++ _ = _
    rw [show acc = ((l.take i).map g).map enc from hI, take_next hx, List.map_append, List.map_append]; rfl) (fun acc hI => by
    have hI : acc = ((l.take (l.map enc).length).map g).map enc := hI
    rw [hI, List.length_map, List.take_length]) hf
theorem el_filE {scope : Scope} {l : List α} {q : α → Bool} {g : α → β} (own : List (Str × Nat)) (hc : X.calm = true) (hN : X.N.Nodup) (it : ITC X m ρ tg iter (l.map enc)) (ok : BlkOk X.N X.env.scope scope own) (hlen : l.length < 100000)
    (h : ∀ x ∈ l, ∃ is ρ'', (∀ j ∈ is, j ∈ own.map (·.2)) ∧ (Blk X scope fun X' => TGD X' tg is (enc x) (wipeA (fzA ρ) (own.map (·.2))) ρ'') ∧ (Blk X scope fun X' => TD X' m ρ'' c (q x)) ∧ (q x = true → Blk X scope fun X' => ED X' m ρ'' elt (enc (g x))))
    (hf : ∀ x, foldedSetIterable iter X.env x = pure x := by intro _; rfl) : EL X m ρ (.ListComp elt [⟨tg, iter, [c], 0⟩] scope pos) (((l.filter q).map g).map enc) :=
  eq_lc hc hN it ok (Nat.le_refl _) (by rw [List.length_map]; exact hlen) (fun i acc => acc = (((l.take i).filter q).map g).map enc) rfl (fun i d acc hd hI => by
    obtain ⟨x, hx, e⟩ := take_map hd
    subst e
    have hI : acc = (((l.take i).filter q).map g).map enc := hI
    obtain ⟨is, ρ'', h1, h2, h3, h4⟩ := h x (List.mem_of_getElem? hx)
    refine ⟨is, ρ'', h1, h2, q x, h3, fun hq s H C cl fp => (h4 hq s H C cl fp).mono fun b eb => ⟨_, eb, ?_⟩, fun hq => ?_⟩
    · show acc ++ _ = _
      rw [hI, take_next hx, List.filter_append, List.map_append, List.map_append, List.filter_cons, hq]; rfl
    · show acc = _
      rw [hI, take_next hx, List.filter_append, List.filter_cons, hq]
      simp) (fun acc hI => by
    have hI : acc = (((l.take (l.map enc).length).filter q).map g).map enc := hI
    rw [hI, List.length_map, List.take_length]) hf
theorem s1_setMapE {scope : Scope} {l : List α} {g : α → β} {E : AE} {i : Nat} {y : Str} {py spos : Pos} (own : List (Str × Nat)) (hc : X.calm = true) (hN : X.N.Nodup) (hy : X.N[i]? = some y) (hyl : X.env.scope.names.lookup y = some .local) (it : ITC X m ρ tg iter (l.map enc)) (ok : BlkOk X.N X.env.scope scope own) (hlen : l.length < 100000)
    (h : ∀ x ∈ l, ∃ is ρ'', (∀ j ∈ is, j ∈ own.map (·.2)) ∧ (Blk X scope fun X' => TGD X' tg is (enc x) (wipeA (fzA ρ) (own.map (·.2))) ρ'') ∧ Blk X scope fun X' => ED X' m ρ'' elt (enc (g x))) (q : E.nx (ρ.set i (some (.lst .own ((l.map g).map enc)))))
    (hsw : swapsWith (.ListComp elt [⟨tg, iter, [], 0⟩] scope pos) (some (.Name y py)) spos.line X.env = pure true) (hf : ∀ x, foldedSetIterable iter X.env x = pure x := by intro _; rfl) : S1 X m ρ (.Assign [.Name y py] (.ListComp elt [⟨tg, iter, [], 0⟩] scope pos) spos) E :=
  s1_setLc hc hN hy hyl it ok (Nat.zero_le _) (by rw [List.length_map]; exact hlen) (fun i acc => acc = ((l.take i).map g).map enc) rfl (fun i d acc hd hI => by
    obtain ⟨x, hx, e⟩ := take_map hd
    subst e
    obtain ⟨is, ρ'', h1, h2, h3⟩ := h x (List.mem_of_getElem? hx)
    refine ⟨is, ρ'', h1, h2, fun s H C cl fp => (h3 s H C cl fp).mono fun b eb => ⟨_, eb, ?_⟩⟩
    show acc ++ _ = _
    rw [show acc = ((l.take i).map g).map enc from hI, take_next hx, List.map_append, List.map_append]; rfl) (fun acc hI => by
    have hI : acc = ((l.take (l.map enc).length).map g).map enc := hI
    rw [hI, List.length_map, List.take_length]; exact q) hsw hf
theorem s1_setFilE {scope : Scope} {l : List α} {q : α → Bool} {g : α → β} {E : AE} {i : Nat} {y : Str} {py spos : Pos} (own : List (Str × Nat)) (hc : X.calm = true) (hN : X.N.Nodup) (hy : X.N[i]? = some y) (hyl : X.env.scope.names.lookup y = some .local) (it : ITC X m ρ tg iter (l.map enc)) (ok : BlkOk X.N X.env.scope scope own) (hlen : l.length < 100000)
    (h : ∀ x ∈ l, ∃ is ρ'', (∀ j ∈ is, j ∈ own.map (·.2)) ∧ (Blk X scope fun X' => TGD X' tg is (enc x) (wipeA (fzA ρ) (own.map (·.2))) ρ'') ∧ (Blk X scope fun X' => TD X' m ρ'' c (q x)) ∧ (q x = true → Blk X scope fun X' => ED X' m ρ'' elt (enc (g x)))) (hq : E.nx (ρ.set i (some (.lst .own (((l.filter q).map g).map enc)))))
    (hsw : swapsWith (.ListComp elt [⟨tg, iter, [c], 0⟩] scope pos) (some (.Name y py)) spos.line X.env = pure true) (hf : ∀ x, foldedSetIterable iter X.env x = pure x := by intro _; rfl) : S1 X m ρ (.Assign [.Name y py] (.ListComp elt [⟨tg, iter, [c], 0⟩] scope pos) spos) E :=
  s1_setLc hc hN hy hyl it ok (Nat.le_refl _) (by rw [List.length_map]; exact hlen) (fun i acc => acc = (((l.take i).filter q).map g).map enc) rfl (fun i d acc hd hI => by
    obtain ⟨x, hx, e⟩ := take_map hd
    subst e
    have hI : acc = (((l.take i).filter q).map g).map enc := hI
    obtain ⟨is, ρ'', h1, h2, h3, h4⟩ := h x (List.mem_of_getElem? hx)
    refine ⟨is, ρ'', h1, h2, q x, h3, fun hq s H C cl fp => (h4 hq s H C cl fp).mono fun b eb => ⟨_, eb, ?_⟩, fun hq => ?_⟩
    · show acc ++ _ = _
      rw [hI, take_next hx, List.filter_append, List.map_append, List.map_append, List.filter_cons, hq]; rfl
    · show acc = _
      rw [hI, take_next hx, List.filter_append, List.filter_cons, hq]
      simp) (fun acc hI => by
    have hI : acc = (((l.take (l.map enc).length).filter q).map g).map enc := hI
    rw [hI, List.length_map, List.take_length]; exact hq) hsw hf
/-- a test by a comparison of data -/
theorem td_eqE {x y : α} {k : Nat} (r : Room k X.A) (h1 : ED X m ρ a (enc x)) (h2 : ED X m ρ b (enc y)) (hd : PyEnc.dep α ≤ 64 := by decide) : TD X m ρ (.Compare a [.Eq] [b] pos) (decide (x = y)) :=
  td_cmp (eqE r h1 h2 hd) (nomark _) ⟨_, op_eqD r.units, twoD (r := rEqD X.K) (Q := (· = .dat (.bool (decide (x = y))))) h1.asD h2.asD fun b1 b2 e1 e2 Ha Hb H u v _ r1 r2 Qv kk => ⟨enc x, enc y, e1.dp r1, e2.dp r2, shaped_enc hd, shaped_enc hd, by
      rw [PyEnc.eqv]
      exact kk _ (.dat (.bool (decide (x = y)))) H Gr.refl (.bl _) rfl⟩⟩
theorem td_neE {x y : α} {k : Nat} (r : Room k X.A) (h1 : ED X m ρ a (enc x)) (h2 : ED X m ρ b (enc y)) (hd : PyEnc.dep α ≤ 64 := by decide) : TD X m ρ (.Compare a [.NotEq] [b] pos) (!decide (x = y)) :=
  td_cmp (neE r h1 h2 hd) (nomark _) ⟨_, op_neD r.units, twoD (r := rNeD X.K) (Q := (· = .dat (.bool (!decide (x = y))))) h1.asD h2.asD fun b1 b2 e1 e2 Ha Hb H u v _ r1 r2 Qv kk => ⟨enc x, enc y, e1.dp r1, e2.dp r2, shaped_enc hd, shaped_enc hd, by
      rw [PyEnc.eqv]
      exact kk _ (.dat (.bool (!decide (x = y)))) H Gr.refl (.bl _) rfl⟩⟩
theorem td_lt {i j : Int} (h1 : ED X m ρ a (.int i)) (h2 : ED X m ρ b (.int j)) : TD X m ρ (.Compare a [.Lt] [b] pos) (decide (i < j)) :=
  td_cmp (ed_lt h1 h2) (nomark _) ⟨_, op_lt, two h1 h2 (ar_I0 (gd := fun i j => .bool (decide (i < j))) fun _ _ _ => .bl _)⟩
theorem td_gt {i j : Int} (h1 : ED X m ρ a (.int i)) (h2 : ED X m ρ b (.int j)) : TD X m ρ (.Compare a [.Gt] [b] pos) (decide (j < i)) :=
  td_cmp (ed_gt h1 h2) (nomark _) ⟨_, op_gt, two h1 h2 (ar_I0 (gd := fun i j => .bool (decide (j < i))) fun _ _ _ => .bl _)⟩
theorem s1_setB {E : AE} {i : Nat} {x : Str} {pos' : Pos} {bd : Bd} (hN : X.N.Nodup) (hi : X.N[i]? = some x) (hx : Loc X.env.scope x) (h : EQ X m ρ e (· = bd)) (q : E.nx (ρ.set i (some bd))) (hb : bd.fine := by exact True.intro) (hs : swapsWith e (some (.Name x pos')) pos.line X.env = pure false := by rfl)
    (hf : X.fn x = true ∨ X.env.scope.names.lookup x = some .local := by first | exact .inl rfl | exact .inr rfl | assumption) : S1 X m ρ (.Assign [.Name x pos'] e pos) E :=
  s1_set hN hi hx (h.mono fun b eb => by rw [eb]; exact ⟨hb, q⟩) hs hf
/-- as_set by name -/
theorem ed_asSetL {l : List Nat} {k : Nat} (F : Fn X.prog X.w X.K X.mg X.base "as_set" 1 ["things"] none false FasSet) (r : Room k X.A) (hk : 1 ≤ k) (hg : Gl X "as_set") (hw : m.wd = some X.w) (h : EL X m ρ e (l.map enc)) (hl : l.length < 64)
    (he : starEach [e] X.env = (false, eval e X.env) :: starEach [] X.env := by rfl) (hpl : (backTo pos (starEach [] X.env)).any (·.1) = false := by rfl) : ED X m ρ (.Call (.Name "as_set" p) [e] [] pos) (enc (asSet l)) :=
  eq_call F (r.mono hk) hg hw (.inl rfl) (aq_cons (h.mono fun b eb => aq_nil ⟨(fun _ c hc z => by
    rw [List.mem_singleton.mp hc, eb] at z; cases z), [.lst .par (l.map enc)], _, by subst eb; rfl, .inl ⟨l, .inl rfl, hl, rfl⟩, fun b h => h⟩) he) (he := he) (hpl := hpl)
theorem ed_asSetT {l : List Nat} {k : Nat} (F : Fn X.prog X.w X.K X.mg X.base "as_set" 1 ["things"] none false FasSet) (r : Room k X.A) (hk : 1 ≤ k) (hg : Gl X "as_set") (hw : m.wd = some X.w) (h : ED X m ρ e (enc l)) (hl : l.length < 64)
    (he : starEach [e] X.env = (false, eval e X.env) :: starEach [] X.env := by rfl) (hpl : (backTo pos (starEach [] X.env)).any (·.1) = false := by rfl) : ED X m ρ (.Call (.Name "as_set" p) [e] [] pos) (enc (asSet l)) :=
  eq_call F (r.mono hk) hg hw (.inl rfl) (aq_cons (h.mono fun b eb => aq_nil ⟨(fun _ c hc z => by
    rw [List.mem_singleton.mp hc, eb] at z; cases z), [.dat (enc l)], _, by subst eb; rfl, .inl ⟨l, .inr rfl, hl, rfl⟩, fun b h => h⟩) he) (he := he) (hpl := hpl)
theorem eq_asSetD {ds : List PyData} {k : Nat} {o : LK} (F : Fn X.prog X.w X.K X.mg X.base "as_set" 1 ["things"] none false FasSet) (r : Room k X.A) (hk : 1 ≤ k) (hg : Gl X "as_set") (hw : m.wd = some X.w) (h : EQ X m ρ e (· = .lst o ds)) (hl : ds.length ≤ 1200) (hi : ∀ d ∈ ds, SItem d) (hal : PySem.W.AllAlike ds)
    (he : starEach [e] X.env = (false, eval e X.env) :: starEach [] X.env := by rfl) (hpl : (backTo pos (starEach [] X.env)).any (·.1) = false := by rfl) : EQ X m ρ (.Call (.Name "as_set" p) [e] [] pos) fun b => ∃ out, b = .dat (.tuple out) ∧ SOut ds out :=
  eq_call F (r.mono hk) hg hw (.inl rfl) (aq_cons (h.mono fun b eb => aq_nil ⟨(fun _ c hc z => by
    rw [List.mem_singleton.mp hc, eb] at z; cases z), [.lst .par ds], _, by subst eb; rfl, .inr ⟨ds, rfl, hl, hi, hal, rfl⟩, fun b h => h⟩) he) (he := he) (hpl := hpl)
end
end W97
end
section
set_option Elab.async false
set_option linter.all false
set_option maxRecDepth 100000
set_option maxHeartbeats 2000000
namespace W97
open PySem PySem.Spec PyProof.Rows L2 PyEnc
section
variable {X : Cx} {m : Mo} {HE H0 H H1 : Hp} {ρ ρ' : Ab} {σ : L2.St} {a b c e elt tg iter tg1 iter1 : Expr} {pos p : Pos} {α β γ : Type} [DecidableEq α] [PyEnc α] [DecidableEq β] [PyEnc β] [DecidableEq γ] [PyEnc γ]
def iw (X : Cx) (tg iter : Expr) : TI := fun σ H R => ∀ pins s, Inv X pins σ H s → wpAny (model X.prog X.w) X.A (eval iter X.env) (fun v s1 => wpAny (model X.prog X.w) X.A (pyIter v) (PIE X pins σ tg R) X.xe s1) X.xe s
theorem pi_iw (X : Cx) (tg iter : Expr) : PI X tg iter (iw X tg iter) := ⟨fun pins s _ _ _ I h => h pins s I⟩
def iB (X : Cx) (scope : Scope) (tg iter : Expr) : TI := fun σ H R => Blk X scope fun X' => iw X' tg iter σ H R
theorem iw_of {ds : List PyData} (it : ITC X m ρ tg iter ds) (S : SSt X.K m HE H0 ρ σ H) {R : It → Hp → Prop} (k : ∀ J H1, Gr m H H1 → Src X.K J ds H1 → R J H1) : iw X tg iter σ H R := by
  obtain ⟨wi, hi, hw⟩ := it
  exact fun pins s I => hi.run pins s σ H R I (hw σ H HE H0 S R k)
theorem SSt.wipe {K : PySem.W.Frag} (S : SSt K m HE H0 ρ σ H) (ws : List Nat) : SSt K m HE H0 (wipeA ρ ws) (L2.wipe σ ws) H := by
  refine ⟨S.phi, S.ent, S.gr, S.fe, S.tb, by rw [wipeA_len, wipe_length]; exact S.len, fun j b e => ?_, fun j j' b b' v n e1 e2 o1 o2 v1 v2 => ?_⟩
  · obtain ⟨e1, hn⟩ := wipeA_at e
    obtain ⟨v, hv, hh⟩ := S.slots j b e1
    exact ⟨v, by rw [wipe_at hn]; exact hv, hh⟩
  · obtain ⟨a1, n1⟩ := wipeA_at e1
    obtain ⟨a2, n2⟩ := wipeA_at e2
    rw [wipe_at n1] at v1
    rw [wipe_at n2] at v2
    exact S.apart j j' b b' v n a1 a2 o1 o2 v1 v2
/-- what is walked is a tuple -/
def ITT (X : Cx) (m : Mo) (ρ : Ab) (tg iter : Expr) (ds : List PyData) : Prop := ∃ wi : TI, PI X tg iter wi ∧ ∀ σ H HE H0, SSt X.K m HE H0 ρ σ H → ∀ R : It → Hp → Prop, (∀ J H1, Gr m H H1 → Walk J ds.length (TK H1) (YD X.K ds) → R J H1) → wi σ H R
theorem itt_tup {ds : List PyData} (h : ED X m ρ e (.tuple ds)) : ITT X m ρ tg e ds := ⟨_, pi_tup (pe_ew X e), fun σ H HE H0 S R k => ew_then h S fun v b H1 g1 S1 r1 e1 => by
  subst e1
  obtain ⟨p, xs, ev, h1, h2⟩ := DV.tup_eq r1
  have w := walk_tup (K := X.K) (a := p) (xs := xs)
  rw [h2.len] at w
  refine ⟨p, ev, ⟨xs, h1⟩, k _ H1 g1 (w.mono (fun H' t => t.sq h1) fun i H2 x H3 _ t y => ?_)⟩
  obtain ⟨e, y⟩ := y
  subst e
  obtain ⟨dd, k1, k2⟩ := (h2.keep t).at' y
  exact ⟨dd, k1, fun _ _ h => h, k2⟩⟩
theorem iwt_of {ds : List PyData} (it : ITT X m ρ tg iter ds) (S : SSt X.K m HE H0 ρ σ H) {R : It → Hp → Prop} (k : ∀ J H1, Gr m H H1 → Walk J ds.length (TK H1) (YD X.K ds) → R J H1) : iw X tg iter σ H R := by
  obtain ⟨wi, hi, hw⟩ := it
  exact fun pins s I => hi.run pins s σ H R I (hw σ H HE H0 S R k)
def noOwn (ρ : Ab) : Prop := ∀ (i : Nat) (b : Bd), ρ[i]? = some (some b) → b.own = false
theorem noOwn_by (h : ρ.all (fun o => match o with | some b => !b.own | none => true) = true) : noOwn ρ := fun i b e => by
  have z := List.all_eq_true.mp h _ (List.mem_of_getElem? e)
  simpa using z
/-- nothing is own: the state stands in a later heap -/
theorem SSt.at {K : PySem.W.Frag} (S : SSt K m HE H0 ρ σ H) (n : noOwn ρ) (g : Gr m H0 H1) (t : TK H H1) : SSt K m HE H0 ρ σ H1 := by
  refine ⟨S.phi, S.ent, g, S.fe, S.tb, S.len, fun i b e => ?_, fun i j b b' v _ e1 _ o1 => by rw [n i b e1] at o1; cases o1⟩
  obtain ⟨v, hv, hh⟩ := S.slots i b e
  refine ⟨v, hv, ?_⟩
  have no := n i b e
  cases b with
  | dat d => exact DV.keep t hh
  | lst k ds =>
    cases k with
    | own => cases no
    | par => exact hh
    | fz => exact hh
  | feed => exact hh
  | val x => exact hh
  | any => exact True.intro
  | pr P k => exact k _ _ _ t hh
  | dct k kvs =>
    cases k with
    | own => cases no
    | par => exact hh
    | fz => exact hh
/-- for x in l for y in f x: g x y -/
theorem el_map2 {scope : Scope} {l : List α} {f : α → List β} {g : α → β → γ} (own : List (Str × Nat)) (vs1 : List Nat) (hc : X.calm = true) (hN : X.N.Nodup) (it : ITC X m ρ tg iter (l.map enc)) (ok : BlkOk X.N X.env.scope scope own) (hlen : l.length ≤ 1000) (hv : ∀ i ∈ vs1, i ∈ own.map (·.2)) (hlf : ∀ x ∈ l, (f x).length ≤ 1000)
    (h : ∀ x ∈ l, ∃ is ρ'', (∀ j ∈ is, j ∈ own.map (·.2)) ∧ (Blk X scope fun X' => TGD X' tg is (enc x) (wipeA (fzA ρ) (own.map (·.2))) ρ'') ∧ noOwn ρ'' ∧ (Blk X scope fun X' => ITT X' m ρ'' tg1 iter1 ((f x).map enc)) ∧
      ∀ y ∈ f x, ∃ is1 ρ3, (∀ j ∈ is1, j ∈ vs1) ∧ (Blk X scope fun X' => TGD X' tg1 is1 (enc y) (wipeA ρ'' vs1) ρ3) ∧ Blk X scope fun X' => ED X' m ρ3 elt (enc (g x y)))
    (hf : ∀ x, foldedSetIterable iter X.env x = pure x := by intro _; rfl) (hf1 : ∀ env x, foldedSetIterable iter1 env x = pure x := by intro _ _; rfl) : EL X m ρ (.ListComp elt [⟨tg, iter, [], 0⟩, ⟨tg1, iter1, [], 0⟩] scope pos) ((l.flatMap fun x => (f x).map (g x)).map enc) := by
  obtain ⟨wi, hi, hw⟩ := it
  intro σ H HE H0 S Qv kk
  refine ew_of (pe_lc2 (wi := wi) (wi1 := iB X scope tg1 iter1) (g := gB X scope tg) (g1 := gB X scope tg1) (tt := tYes) (tt1 := tYes) (te := eB X scope elt) hc hN hi ok hv (fun s H C cl fp => ⟨fun pins s' σ H' v u Q I r h => h s H C cl fp pins s' u I r⟩) (fun s H C cl fp => pts_nil)
    (fun s H C cl fp => ⟨fun pins s' σ H' R I h => h s H C cl fp pins s' I⟩) (fun s H C cl fp => ⟨fun pins s' σ H' v u Q I r h => h s H C cl fp pins s' u I r⟩) (fun s H C cl fp => pts_nil) (fun s H C cl fp => ⟨fun pins s' σ H' Q I h => h s H C cl fp pins s' I⟩) hf hf1) (hw σ H HE H0 S _ fun J H1 g1 w D hD => ?_)
  have S1 := S.go g1
  have SB := S1.blk (own.map (·.2))
  -- all that stands behind i and j turns
  let acc : Nat → List γ := fun i => (l.take i).flatMap fun x => (f x).map (g x)
  let At : Hp → List γ → Prop := fun H2 a => Gr m H1 H2 ∧ ∃ vs, H2 D = some (.lst vs) ∧ DVs X.K H2 vs (a.map enc)
  have accl : ∀ i, i ≤ l.length → (acc i).length ≤ 1000 * i := by
    intro i
    induction i with
    | zero => intro _; exact Nat.zero_le _
    | succ i ih =>
      intro hil
      have e : l.take (i + 1) = l.take i ++ [l[i]] := take_next (List.getElem?_eq_getElem hil)
      have e2 : acc (i + 1) = acc i ++ (f l[i]).map (g l[i]) := by
        show (l.take (i + 1)).flatMap _ = _
        rw [e, List.flatMap_append]
        simp [acc]
      rw [e2, List.length_append, List.length_map]
      have := ih (Nat.le_of_lt hil)
      have := hlf l[i] (List.getElem_mem hil)
      omega
  have done : ∀ H2, At H2 (acc l.length) → Qv (.ref D) H2 := fun H2 ⟨g2, vs, hD2, dv⟩ => by
    have e : acc l.length = l.flatMap fun x => (f x).map (g x) := by
      show (l.take l.length).flatMap _ = _
      rw [List.take_length]
    rw [e] at dv
    exact kk _ (.lst .own _) H2 (g1.trans g2) ⟨D, vs, rfl, g1.free D hD, hD2, dv⟩ rfl
  refine ⟨fun i n H2 => n = l.length - i ∧ i ≤ l.length ∧ At H2 (acc i), ⟨l.length, rfl, Nat.zero_le _, Gr.new hD, [], upd_same, .nil⟩, ?_⟩
  rintro i n H2 ⟨rfl, hil, g2, vs, hD2, dv⟩
  have tl2 : TL H1 H2 := g2.tl S1.fe1
  have ll : (l.map enc).length = l.length := List.length_map ..
  rcases Nat.eq_or_lt_of_le hil with rfl | lt
  · have q := w.stops H2 tl2
    rw [ll] at q
    exact .inl ⟨q, done H2 ⟨g2, vs, hD2, dv⟩⟩
  refine .inr ⟨w.goes i H2 (by rw [ll]; exact lt) tl2, fun H3 => At H3 (acc (i + 1)), fun H3 q => ⟨_, by omega, rfl, lt, q⟩, fun x H3 y => ?_⟩
  obtain ⟨d, hd, kp, dx⟩ := w.yields i H2 x H3 (by rw [ll]; exact lt) tl2 y
  obtain ⟨a, ha, e⟩ := take_map hd
  subst e
  have am := List.mem_of_getElem? ha
  have eacc : acc (i + 1) = acc i ++ (f a).map (g a) := by
    show (l.take (i + 1)).flatMap _ = _
    rw [take_next ha, List.flatMap_append]
    simp [acc]
  have g3 : Gr m H1 H3 := g2.trans (Gr.same kp)
  have tk3 : TK H2 H3 := (Gr.same (m := {}) kp).tk fun a e => by cases e
  obtain ⟨is, ρ'', hsub, ht, hno, hit, hin⟩ := h a am
  intro s' H' C cl fp
  refine ht s' H' C cl fp m HE H1 _ H3 (SB.go g3) x dx _ fun σ2 S2 hw2 => ⟨by rw [hw2 _ hsub, wipe_idem], ?_⟩
  show iB X scope tg1 iter1 σ2 H3 _
  intro s2 H2' C2 cl2 fp2
  refine iwt_of (hit s2 H2' C2 cl2 fp2) S2 fun J1 H4 g4 w1 => ?_
  have f3 := S1.fe1.go g3
  have ll1 : ((f a).map enc).length = (f a).length := List.length_map ..
  have dv4 : DVs X.K H4 vs ((acc i).map enc) := (dv.keep tk3).keep (g4.tk f3)
  refine ⟨fun j n H5 => n = (f a).length - j ∧ j ≤ (f a).length ∧ TK H4 H5 ∧ At H5 (acc i ++ ((f a).take j).map (g a)), ⟨(f a).length, rfl, Nat.zero_le _, TK.refl, g3.trans g4, vs, g4.lst f3 (kp _ _ hD2), ?_⟩, ?_⟩
  · rw [List.take_zero, List.map_nil, List.append_nil]
    exact dv4
  rintro j n H5 ⟨rfl, hjl, t5, g6, us, hD5, du⟩
  rcases Nat.eq_or_lt_of_le hjl with rfl | ltj
  · have q := w1.stops H5 t5
    rw [ll1] at q
    refine .inl ⟨q, g6, us, hD5, ?_⟩
    rw [List.take_length] at du
    rw [eacc]; exact du
  refine .inr ⟨w1.goes j H5 (by rw [ll1]; exact ltj) t5, fun H6 => TK H4 H6 ∧ At H6 (acc i ++ ((f a).take (j + 1)).map (g a)), fun H6 q => ⟨_, by omega, rfl, ltj, q.1, q.2⟩, fun z H6 y1 => ?_⟩
  obtain ⟨d1, hd1, kp1, dz⟩ := w1.yields j H5 z H6 (by rw [ll1]; exact ltj) t5 y1
  obtain ⟨b, hb, e⟩ := take_map hd1
  subst e
  have tk6 : TK H5 H6 := (Gr.same (m := {}) kp1).tk fun a e => by cases e
  have tk46 : TK H4 H6 := t5.trans tk6
  have tk34 := g4.tk f3
  have g7 : Gr m H1 H6 := g6.trans (Gr.same kp1)
  have S6 : SSt X.K m HE H1 ρ'' σ2 H6 := S2.at hno g7 (tk34.trans tk46)
  obtain ⟨is1, ρ3, hsub1, ht1, he⟩ := hin b (List.mem_of_getElem? hb)
  intro s3 H3' C3 cl3 fp3
  refine ht1 s3 H3' C3 cl3 fp3 m HE H1 _ H6 (S6.wipe vs1) z dz _ fun σ3 S7 hw3 => ⟨by rw [hw3 vs1 hsub1, wipe_idem], ?_⟩
  show eB X scope elt σ3 H6 _
  intro s4 H4' C4 cl4 fp4
  refine ew_then (he s4 H4' C4 cl4 fp4) S7 fun v bd H7 g8 S8 r7 e7 => ?_
  subst e7
  have f6 : FeedAt m H6 := S1.fe1.go g7
  have hD7 := g8.lst f6 (kp1 _ _ hD5)
  have tk67 := g8.tk f6
  have du7 := (du.keep tk6).keep tk67
  have hul : us.length < sizeLine := by
    rw [du.len, List.length_map, List.length_append, List.length_map, List.length_take, sizeLine_eq]
    have := accl i hil
    have := hlf a am
    omega
  have tk := tk_lst (ys := us ++ [v]) hD7
  refine ⟨us, hD7, hul, (tk46.trans tk67).trans tk, (g7.trans g8).mut hD hD7 .lst, us ++ [v], upd_same, ?_⟩
  rw [show acc i ++ ((f a).take (j + 1)).map (g a) = (acc i ++ ((f a).take j).map (g a)) ++ [g a b] by rw [take_next hb, List.map_append, ← List.append_assoc]; rfl, List.map_append]
  exact (du7.app (.cons r7 .nil)).keep tk
end
end W97
end
section
set_option Elab.async false
set_option linter.all false
set_option maxRecDepth 100000
set_option maxHeartbeats 2000000
namespace W97
open PySem PySem.Spec PyProof.Rows L2 PyEnc
section
variable {P : Program} {w : World} {K : PySem.W.Frag} {mg : Str → Option Value} {base : Heap}
theorem sc_led_by : FnScope ["machine", "standing", "letters", "here", "answers", "letter", "answer"] ["machine", "standing", "letters"] (defScope (topS 3)) := ⟨rfl, rfl, rfl, by decide +kernel, rfl, by decide +kernel, by decide +kernel⟩
theorem f_led_by (E : En K mg) : Fn P w K mg base "led_by" 1 ["machine", "standing", "letters"] none false (Fdd fun ds d => ∃ (m : Mc) (wd s : Nat) (r : Row), Ok m wd ∧ s < m.length ∧ Let wd r ∧ r.length ≤ 1000 ∧ ds = [enc m, enc s, enc r] ∧ d = enc (outs m s r, run m s r)) := by
  refine mkFn E 2 sc_led_by (by decide) (fun bs R h => by obtain ⟨_, _, rfl, ⟨_, _, _, _, _, _, _, _, rfl, _⟩, _⟩ := h; rfl) (fun _ _ _ _ _ _ us hl => match us, hl with | [_, _, _], _ => rfl) fun f cdv A outer s H X fa ca bs R hr hf h => ?_
  obtain ⟨_, _, rfl, ⟨m, wd, s0, r, ok, hs, hr0, hlen, rfl, rfl⟩, rfl⟩ := h
  refine sq_cons (s1_par (i := 3) (j := 4) rfl sc_led_by.nd rfl rfl (by decide) rfl rfl ((v 1).mono fun b e => ⟨by rw [e]; exact True.intro, ?_⟩))
  subst e
  refine (el_lst ad_nil (Nat.zero_le _)).mono fun b e => ⟨by rw [e]; exact True.intro, ?_⟩
  subst e
  refine sq_cons (s1_for PassesOwn.never rfl (itl_tup (ds := r.map enc) (v 2)) (fun i ρ' => ρ' = [some (.dat (enc m)), some (.dat (enc s0)), some (.dat (enc r)), some (.dat (enc (run m s0 (r.take i)))), some (.lst .own ((outs m s0 (r.take i)).map enc)), none, none]) rfl ?_ ?_ ?_)
  · rintro ρ' rfl; rfl
  · rintro i d ρ' hd rfl
    rw [List.getElem?_map] at hd
    obtain ⟨x, hx, e⟩ := Option.map_eq_some_iff.mp hd
    subst e
    have hxw : x < wd := hr0 x (List.mem_of_getElem? hx)
    have hst : run m s0 (r.take i) < m.length := ok.runlt hs fun y hy => hr0 y (List.mem_of_mem_take hy)
    refine ⟨[5], _, t1 5 sc_led_by.nd, sq_cons (s1_tgt (d := enc (cell m (run m s0 (r.take i)) x)) (ixE (ixE (v 0) (v 3) (st_at hst)) (v 5) (ok.cell_at hst hxw)) (t2 3 6 rfl sc_led_by.nd) ?_)⟩
    refine sq_cons (s1_append (i := 4) rfl rfl (.inl rfl) ((v 6).mono fun b e => ⟨_, e, sq_nilF [5, 6] ?_⟩) ?_)
    · show _ = _
      rw [take_next hx, run_snoc, outs_snoc, List.map_append]; rfl
    · rw [List.length_map, outs_len, List.length_take, sizeLine_eq]
      omega
  · rintro ρ' rfl
    rw [List.length_map, List.take_length]
    exact sq_cons (s1_retD (d := enc (outs m s0 r, run m s0 r)) (prE (ed_tuple rfl E.tuple_ (EQ.itemsL (vl 4))) (v 3)) rfl)
theorem sc_nexts_by : FnScope ["machine", "standings", "letter", "standing"] ["machine", "standings", "letter"] (defScope (topS 4)) := ⟨rfl, rfl, rfl, by decide +kernel, rfl, by decide +kernel, by decide +kernel⟩
theorem f_nexts_by (E : En K mg) : Fn P w K mg base "nexts_by" 2 ["machine", "standings", "letter"] none false (Fdd fun ds d => ∃ (m : Mc) (wd x : Nat) (S : List Nat), Ok m wd ∧ (∀ s ∈ S, s < m.length) ∧ x < wd ∧ S.length < 64 ∧ ds = [enc m, enc S, enc x] ∧ d = enc (nextsBy m S x)) := by
  refine mkFn E 3 sc_nexts_by (by decide) (fun bs R h => by obtain ⟨_, _, rfl, ⟨_, _, _, _, _, _, _, _, rfl, _⟩, _⟩ := h; rfl) (fun _ _ _ _ _ _ us hl => match us, hl with | [_, _, _], _ => rfl) fun f cdv A outer s H X fa ca bs R hr hf h => ?_
  obtain ⟨_, _, rfl, ⟨m, wd, x, S, ok, hS, hx, hlen, rfl, rfl⟩, rfl⟩ := h
  exact sq_cons (s1_retD (ed_asSetL (l := S.map fun s => nx m s x) (f_as_set E) hr (by decide) rfl rfl (el_mapE (l := S) (g := fun s => nx m s x) [("standing", 3)] rfl sc_nexts_by.nd (itc_tup (v 1)) (blkOk_by (by kernel_rfl)) (by omega) (fun s hs =>
    ⟨[3], _, by decide, fun _ _ _ _ _ => t1 3 sc_nexts_by.nd, fun _ _ _ _ _ => fstE (x := cell m s x) (ixE (ixE (v 0) (v 3) (st_at (hS s hs))) (v 2) (ok.cell_at (hS s hs) hx)) ed_int⟩)) (by rw [List.length_map]; exact hlen)) rfl)
theorem sc_left_by : FnScope ["machine", "standings", "letter", "answer", "pairs", "standing", "late", "told"] ["machine", "standings", "letter", "answer"] (defScope (topS 5)) := ⟨rfl, rfl, rfl, by decide +kernel, rfl, by decide +kernel, by decide +kernel⟩
theorem f_left_by (E : En K mg) : Fn P w K mg base "left_by" 2 ["machine", "standings", "letter", "answer"] none false (Fdd fun ds d => ∃ (m : Mc) (wd x a : Nat) (S : List Nat), Ok m wd ∧ (∀ s ∈ S, s < m.length) ∧ x < wd ∧ S.length < 64 ∧ ds = [enc m, enc S, enc x, enc a] ∧ d = enc (leftBy m S x a)) := by
  refine mkFn E 4 sc_left_by (by decide) (fun bs R h => by obtain ⟨_, _, rfl, ⟨_, _, _, _, _, _, _, _, _, rfl, _⟩, _⟩ := h; rfl) (fun _ _ _ _ _ _ us hl => match us, hl with | [_, _, _, _], _ => rfl) fun f cdv A outer s H X fa ca bs R hr hf h => ?_
  obtain ⟨_, _, rfl, ⟨m, wd, x, a, S, ok, hS, hx, hlen, rfl, rfl⟩, rfl⟩ := h
  refine sq_cons (s1_setMapE (l := S) (g := fun s => cell m s x) [("standing", 5)] rfl sc_left_by.nd (i := 4) rfl rfl (itc_tup (v 1)) (blkOk_by (by kernel_rfl)) (by omega) (fun s hs =>
    ⟨[5], _, by decide, fun _ _ _ _ _ => t1 5 sc_left_by.nd, fun _ _ _ _ _ => ixE (ixE (v 0) (v 5) (st_at (hS s hs))) (v 2) (ok.cell_at (hS s hs) hx)⟩) ?_ (sw_true rfl rfl rfl (by decide +kernel)))
  have e : leftBy m S x a = asSet (((S.map fun s => cell m s x).filter fun p => decide (p.2 = a)).map (·.1)) := by
    unfold leftBy
    rw [List.filter_map, List.map_map]
    rfl
  rw [e]
  refine sq_cons (s1_retD (ed_asSetL (f_as_set E) hr (by decide) rfl rfl (el_filE (l := S.map fun s => cell m s x) (q := fun p => decide (p.2 = a)) (g := fun p => p.1) [("late", 6), ("told", 7)] rfl sc_left_by.nd (itc_lst (vl 4)) (blkOk_by (by kernel_rfl)) (by rw [List.length_map]; omega) (fun p hp =>
    ⟨[6, 7], _, by decide, fun _ _ _ _ _ => t2 6 7 rfl sc_left_by.nd, fun _ _ _ _ _ => td_eqE hr (v 7) (v 3), fun _ _ _ _ _ _ => v 6⟩)) ?_) rfl)
  rw [List.length_map]
  exact Nat.lt_of_le_of_lt (List.length_filter_le _ _) (by rw [List.length_map]; exact hlen)
theorem sc_nexts_of : FnScope ["machine", "standings", "standing", "late", "answer"] ["machine", "standings"] (defScope (topS 6)) := ⟨rfl, rfl, rfl, by decide +kernel, rfl, by decide +kernel, by decide +kernel⟩
theorem f_nexts_of (E : En K mg) : Fn P w K mg base "nexts_of" 2 ["machine", "standings"] none false (Fdd fun ds d => ∃ (m : Mc) (wd : Nat) (S : List Nat), Ok m wd ∧ (∀ s ∈ S, s < m.length) ∧ wd * S.length < 64 ∧ ds = [enc m, enc S] ∧ d = enc (nextsOf m S)) := by
  refine mkFn E 5 sc_nexts_of (by decide) (fun bs R h => by obtain ⟨_, _, rfl, ⟨_, _, _, _, _, _, rfl, _⟩, _⟩ := h; rfl) (fun _ _ _ _ _ _ us hl => match us, hl with | [_, _], _ => rfl) fun f cdv A outer s H X fa ca bs R hr hf h => ?_
  obtain ⟨_, _, rfl, ⟨m, wd, S, ok, hS, hlen, rfl, rfl⟩, rfl⟩ := h
  have hw := ok.wp
  have hSl : S.length < 64 := Nat.lt_of_le_of_lt (Nat.le_mul_of_pos_left _ hw) hlen
  have hwl : S ≠ [] → wd < 64 := fun h => Nat.lt_of_le_of_lt (Nat.le_mul_of_pos_right _ (List.length_pos_iff.mpr h)) hlen
  exact sq_cons (s1_retD (ed_asSetL (l := S.flatMap fun s => (st m s).map (·.1)) (f_as_set E) hr (by decide) rfl rfl (el_map2 (l := S) (f := fun s => st m s) (g := fun _ p => p.1) [("standing", 2), ("late", 3), ("answer", 4)] [3, 4] rfl sc_nexts_of.nd (itc_tup (v 1)) (blkOk_by (by kernel_rfl)) (by omega) (by decide) (fun s hs => by rw [ok.wst (hS s hs)]; exact Nat.le_of_lt (Nat.lt_trans (hwl (List.ne_nil_of_mem hs)) (by decide))) (fun s hs =>
    ⟨[2], _, by decide, fun _ _ _ _ _ => t1 2 sc_nexts_of.nd, noOwn_by rfl, fun _ _ _ _ _ => itt_tup (ds := (st m s).map enc) (ixE (v 0) (v 2) (st_at (hS s hs))), fun p hp => ⟨[3, 4], _, by decide, fun _ _ _ _ _ => t2 3 4 rfl sc_nexts_of.nd, fun _ _ _ _ _ => v 3⟩⟩)) (by
      have key : ∀ T : List Nat, (∀ s ∈ T, s < m.length) → (T.flatMap fun s => (st m s).map (·.1)).length = wd * T.length := by
        intro T
        induction T with
        | nil => intro _; rfl
        | cons t T ih =>
          intro h
          rw [List.flatMap_cons, List.length_append, List.length_map, ok.wst (h t List.mem_cons_self), ih fun s hs => h s (List.mem_cons_of_mem _ hs), List.length_cons, Nat.mul_succ, Nat.add_comm]
      rw [key S hS]; exact hlen)) rfl)
end
end W97
end
section
set_option Elab.async false
set_option linter.all false
set_option maxRecDepth 100000
set_option maxHeartbeats 2000000
namespace W97
open PySem PySem.Spec PyProof.Rows L2 PyEnc
/-! ### dicts in the real heap -/
def Pr3 : List (NestedKey × Addr × V) → List (NestedKey × Addr × Value) → Prop := Paired fun (a : NestedKey × Addr × V) (b : NestedKey × Addr × Value) => a.1 = b.1 ∧ a.2.1 = b.2.1 ∧ RelV a.2.2 b.2.2
/-- a key: where it stands -/
structure DKey (K : PySem.W.Frag) (H : Hp) (b : Addr) (d : PyData) : Prop where
  dv : DV K H (.ref b) d
  ne : nest d = true
  dp : d.depth ≤ 8
theorem paired_at {α β : Type} {F : α → β → Prop} : ∀ {l : List α} {m : List β} {i : Nat} {y : β}, Paired F l m → m[i]? = some y → ∃ x, l[i]? = some x ∧ F x y
  | _, _, i, _, .nil, h => by simp at h
  | _, _, 0, _, .cons a _, h => by simp at h; subst h; exact ⟨_, rfl, a⟩
  | _, _, i + 1, y, .cons _ t, h => by
    obtain ⟨x, h1, h2⟩ := paired_at (i := i) t (by simpa using h)
    exact ⟨x, by simpa using h1, h2⟩
theorem paired_at' {α β : Type} {F : α → β → Prop} : ∀ {l : List α} {m : List β} {i : Nat} {x : α}, Paired F l m → l[i]? = some x → ∃ y, m[i]? = some y ∧ F x y
  | _, _, i, _, .nil, h => by simp at h
  | _, _, 0, _, .cons a _, h => by simp at h; subst h; exact ⟨_, rfl, a⟩
  | _, _, i + 1, y, .cons _ t, h => by
    obtain ⟨x, h1, h2⟩ := paired_at' (i := i) t (by simpa using h)
    exact ⟨x, by simpa using h1, h2⟩
theorem paired_len {α β : Type} {F : α → β → Prop} : ∀ {l : List α} {m : List β}, Paired F l m → l.length = m.length
  | _, _, .nil => rfl
  | _, _, .cons _ t => congrArg Nat.succ (paired_len t)
theorem paired_snoc {α β : Type} {F : α → β → Prop} : ∀ {l : List α} {m : List β} {x : α} {y : β}, Paired F l m → F x y → Paired F (l ++ [x]) (m ++ [y])
  | _, _, _, _, .nil, h => .cons h .nil
  | _, _, _, _, .cons a t, h => .cons a (paired_snoc t h)
section
variable {X : Cx} {pins : List (Addr × Obj)} {σ : L2.St} {H : Hp} {s : Shared} {t : Sem Unit} {p b : Addr} {es : List (NestedKey × Addr × V)} {kvs : List (PyData × PyData)} {d : PyData}
theorem DKey.is (I : Inv X pins σ H s) (k : DKey X.K H b d) : (nestedKind X.prog X.w).is s.heap (keyD d) b := by
  obtain ⟨as, q⟩ := Dp.reads I d (.ref b) (.ref b) (DV.dp k.dv) rfl
  exact ⟨(reads_nest _ _ _ q k.ne).2, Nat.le_trans (keyD_depth d) k.dp⟩
/-- the dict as it stands -/
structure Stands (X : Cx) (h : Heap) (p : Addr) (es : List (NestedKey × Addr × V)) (kvs : List (PyData × PyData)) (xs : List (NestedKey × Addr × Value)) : Prop where
  sys : (p == sysModules) = false
  rel : Pr3 es xs
  at_ : h.DictOfH (nestedKind X.prog X.w) p xs
theorem stands (I : Inv X pins σ H s) (hp : H p = some (DctO X.w p es)) (en : Ents X.K H es kvs) : ∃ xs, Stands X s.heap p es kvs xs := by
  obtain ⟨⟨h1, xs, h2, o, es2, ep, h3, h4, h5, h6, h7⟩, _, _⟩ := I.hok p _ hp
  refine ⟨xs, h1, h2, o, es2, ep, h3, h4, h5, h6, fun x hx => ?_, h7⟩
  obtain ⟨i, hi⟩ := List.mem_iff_getElem?.mp hx
  obtain ⟨e, e1, e2, e3, _⟩ := paired_at h2 hi
  obtain ⟨kv, k1, k2, k3, k4, k5, _⟩ := paired_at' en e1
  rw [← e2, ← e3, k2]
  exact DKey.is I ⟨k5, k3, k4⟩
theorem ents_keys {K : PySem.W.Frag} {H : Hp} : ∀ {es : List (NestedKey × Addr × V)} {kvs : List (PyData × PyData)} {xs : List (NestedKey × Addr × Value)}, Ents K H es kvs → Pr3 es xs → xs.map (·.1) = kvs.map fun kv => keyD kv.1
  | _, _, _, .nil, .nil => rfl
  | _, _, _, .cons a t, .cons b u => by
    rw [List.map_cons, List.map_cons, ents_keys t u, ← b.1, a.1]
theorem ents_nodup (en : Ents X.K H es kvs) {xs : List (NestedKey × Addr × Value)} (rel : Pr3 es xs) (nd : (xs.map (·.1)).Nodup) : (kvs.map (·.1)).Nodup := by
  rw [ents_keys en rel, show (kvs.map fun kv => keyD kv.1) = (kvs.map (·.1)).map keyD from (List.map_map ..).symm] at nd
  exact List.Pairwise.of_map keyD (fun _ _ hne e => hne (congrArg keyD e)) nd
theorem Stands.has (st : Stands X s.heap p es kvs xs) (en : Ents X.K H es kvs) {dv : PyData} (h : (d, dv) ∈ kvs) : ∃ (b' : Addr) (u : Value) (v : V), atKey xs (keyD d) = some (b', u) ∧ RelV v u ∧ DV X.K H v dv := by
  obtain ⟨i, hi⟩ := List.mem_iff_getElem?.mp h
  obtain ⟨e, e1, k1, _, _, _, k2⟩ := paired_at en hi
  obtain ⟨x, x1, r1, r2, r3⟩ := paired_at' st.rel e1
  obtain ⟨_, _, _, _, _, _, _, _, nd⟩ := st.at_
  refine ⟨x.2.1, x.2.2, e.2.2, atKey_of_get nd (p := x.2) (i := i) ?_, r3, k2⟩
  rw [x1]
  show some x = some (keyD d, x.2)
  rw [← k1, r1]
theorem Stands.lacks (st : Stands X s.heap p es kvs xs) (en : Ents X.K H es kvs) (k : DKey X.K H b d) (h : d ∉ kvs.map (·.1)) : atKey xs (keyD d) = none := by
  refine atKey_none_of_get fun j q hq => h ?_
  obtain ⟨e, e1, r1, _⟩ := paired_at st.rel hq
  obtain ⟨kv, k1, k2, k3, _⟩ := paired_at' en e1
  have z : keyD kv.1 = keyD d := by rw [← k2, r1]
  rw [← keyD_inj _ _ k3 k.ne z]
  exact List.mem_map.mpr ⟨kv, List.mem_of_getElem? k1, rfl⟩
theorem Stands.isSome (st : Stands X s.heap p es kvs xs) (en : Ents X.K H es kvs) (k : DKey X.K H b d) {c : Bool} (hc : c = true ↔ d ∈ kvs.map (·.1)) : (atKey xs (keyD d)).isSome = c := by
  cases c with
  | true =>
    obtain ⟨⟨d', dv⟩, h, e⟩ := List.mem_map.mp (hc.1 rfl)
    have e : d' = d := e
    subst e
    obtain ⟨_, _, _, q, _⟩ := st.has en h
    rw [q]; rfl
  | false =>
    rw [st.lacks en k fun h => by have := hc.2 h; cases this]; rfl
/-! ### values -/
def rDIn (K : PySem.W.Frag) (w : World) (neg : Bool) : R2 := fun x y H Q => ∃ b p es kvs d c, x = .ref b ∧ y = .ref p ∧ H p = some (DctO w p es) ∧ Ents K H es kvs ∧ DKey K H b d ∧ (c = true ↔ d ∈ kvs.map (·.1)) ∧ Q (.bl (neg != c)) H
theorem room8 {k : Nat} {A : Around} (r : Room k A) : (nestedKind (X.prog) (X.w)).room A.in1 := by
  show A.in1.units + 8 < cLine
  have := r.un
  simp only [Around.in1_units]
  omega
theorem or_din {k : Nat} (r : Room k X.A) : OpR X (compareOp .In) (rDIn X.K X.w false) := by
  intro pins s σ H x y v u Q I rx ry h
  obtain ⟨b, p, es, kvs, d, c, rfl, rfl, hp, en, k, hc, q⟩ := h
  cases rx
  cases ry
  obtain ⟨xs, st⟩ := stands I hp en
  refine wpAny_in_heap (room8 r) (k.is I) st.sys st.at_ ?_
  rw [st.isSome en k hc]
  exact ⟨.bl c, H, I.tok _, rfl, by simpa using q⟩
theorem or_dnin {k : Nat} (r : Room k X.A) : OpR X (compareOp .NotIn) (rDIn X.K X.w true) := by
  intro pins s σ H x y v u Q I rx ry h
  obtain ⟨b, p, es, kvs, d, c, rfl, rfl, hp, en, k, hc, q⟩ := h
  cases rx
  cases ry
  obtain ⟨xs, st⟩ := stands I hp en
  show wpAny _ _ (do return Value.bool (!(← contains (.ref p) (.ref b)))) _ _ s
  refine wpAny_bind (wpAny_contains_heap (room8 r) (k.is I) st.sys st.at_ (wpAny_pure ?_))
  rw [st.isSome en k hc]
  exact ⟨.bl (!c), H, I.tok _, rfl, by simpa using q⟩
def rDGet (K : PySem.W.Frag) (w : World) : R2 := fun x y H Q => ∃ b p es kvs d dv, x = .ref p ∧ y = .ref b ∧ H p = some (DctO w p es) ∧ Ents K H es kvs ∧ DKey K H b d ∧ (d, dv) ∈ kvs ∧ ∀ v, DV K H v dv → Q v H
theorem ix_dct {k : Nat} (r : Room k X.A) : IxR X (rDGet X.K X.w) := by
  intro value slice pins s σ H x y v u Q I rx ry h hs
  obtain ⟨b, p, es, kvs, d, dv, rfl, rfl, hp, en, k, hm, q⟩ := h
  cases rx
  cases ry
  obtain ⟨xs, st⟩ := stands I hp en
  obtain ⟨b', u, v, ha, rv, hv⟩ := st.has en hm
  have hT := st.at_.typeIs
  unfold subscriptTail
  refine wpAny_bind ?_
  rw [getitemInPython_of_ne hT.not_modules]
  refine wpAny_bind (wpAny_specialOf hT PySem.F.slot_dict_getitem.lookup ?_)
  have fin : wpAny (model X.prog X.w) X.A (subscripted slice false (.ref p) (.ref b)) (fun r s3 => wpAny (model X.prog X.w) X.A (letTemporaryGo value (.ref p) r >>= fun _ => pure r) (EP X pins σ Q) X.xe s3) X.xe s := by
    rw [hs]
    exact wpAny_operating (wpAny_getItem_heap (room8 r) (k.is I) st.at_ ha (wpAny_bind (wpAny_letTemporaryGo (wpAny_pure ⟨v, H, I.tok _, rv, q v hv⟩))))
  first
    | exact wpAny_pure (wpAny_bind fin)
    | exact wpAny_bind (wpAny_pure (wpAny_bind fin))
    | exact wpAny_bind fin
/-- an entry is put in -/
theorem dput {k : Nat} {E : Value → Shared → Prop} {v : V} {u : Value} {Q : Unit → Shared → Prop} (r : Room k X.A) (I : Inv X pins σ H s) (hp : H p = some (DctO X.w p es)) (en : Ents X.K H es kvs) (hk : DKey X.K H b d) (hn : d ∉ kvs.map (·.1)) (hl : kvs.length ≤ 10000) (rv : RelV v u)
    (q : ∀ h' tk, Inv X pins σ (upd H p (DctO X.w p (es ++ [(keyD d, b, v)]))) { s with heap := h', toks := tk } → Q () { s with heap := h', toks := tk })
    (go : ∀ xs, s.heap.DictOfH (nestedKind X.prog X.w) p xs → xs.length ≤ sizeLine → (∀ h', h'.DictOfH (nestedKind X.prog X.w) p (storedH xs (keyD d) b u) → Heap.SameBut p s.heap h' → Q () { s with heap := h', toks := s.toks + (nestedKind X.prog X.w).draws (keyD d) }) → wpAny (model X.prog X.w) X.A t Q E s) : wpAny (model X.prog X.w) X.A t Q E s := by
  obtain ⟨xs, st⟩ := stands I hp en
  have hx := st.lacks en hk hn
  refine go xs st.at_ (by rw [← paired_len st.rel, paired_len en, sizeLine_eq]; omega) fun h' dd hs => q h' _ ?_
  rw [storedH_new hx] at dd
  obtain ⟨o, es2, ep, h1, h2, h3, h4, h5, h6⟩ := dd
  refine d_write I (by rw [hp]; exact True.intro) hs ⟨o, h1⟩ ⟨⟨st.sys, xs ++ [(keyD d, b, u)], paired_snoc st.rel ⟨rfl, rfl, rv⟩, o, es2, ep, h1, h2, h3, h4, h6⟩, ⟨o, h1⟩, ?_⟩
  rintro h1' h2' ⟨z1, ys, z2, o', es3, ep3, z3, z4⟩ kk
  exact ⟨z1, ys, z2, o', es3, ep3, kk o' z3, z4⟩
/-- the empty dict -/
theorem dct_empty {P : Program} {w : World} {H : Hp} (h : Heap) (hb : sysModules < h.objs.size) : ObjOk P w H (h.push { cls := .type "dict", data := .dict #[] }) h.objs.size (DctO w h.objs.size []) :=
  ⟨⟨beq_eq_false_iff_ne.mpr (Ne.symm (Nat.ne_of_lt hb)), [], .nil, _, #[], 0, Heap.get?_push_size _ rfl, ⟨rfl, rfl, rfl⟩, rfl, rfl, List.nodup_nil⟩, ⟨_, Heap.get?_push_size _ rfl⟩, by
    rintro h1 h2 ⟨z1, ys, z2, o, es, ep, z3, z4⟩ kk
    exact ⟨z1, ys, z2, o, es, ep, kk o z3, z4⟩⟩
def tDNew (w : World) : TE := fun _ H Q => ∀ p, H p = none → Q (.ref p) (upd H p (DctO w p []))
theorem pe_dnew {pos : Pos} : PE X (.Dict [] [] pos) (tDNew X.w) := ⟨fun pins s σ H Q I h =>
  wpAny_Dict_empty ⟨.ref s.heap.objs.size, _, I.laid (t' := s.toks) (fun _ _ q => Heap.get?_push_of_some _ q) (Nat.le_refl _) (dct_empty s.heap I.big), rfl, h _ (I.hok.fresh (Nat.le_refl _))⟩⟩
/-- d[y] = v -/
def sDP (K : PySem.W.Frag) (w : World) (td ty tv : TE) : TS := fun D σ H => tv σ H fun v H1 => td σ H1 fun x H2 => ty σ H2 fun y H3 => ∃ b p es kvs d, x = .ref p ∧ y = .ref b ∧ H3 p = some (DctO w p es) ∧ Ents K H3 es kvs ∧ DKey K H3 b d ∧ d ∉ kvs.map (·.1) ∧ kvs.length ≤ 10000 ∧
  D.nx σ (upd H3 p (DctO w p (es ++ [(keyD d, b, v)])))
theorem ps_dctput {k : Nat} {o i value : Expr} {pos pos' : Pos} {td ty tv : TE} (r : Room k X.A) (ho : PE X o td) (hi : PE X i ty) (hv : PE X value tv) (hs : swapsWith value (some (.Subscript o i pos')) pos.line X.env = pure false) :
    PS X (.Assign [.Subscript o i pos'] value pos) (sDP X.K X.w td ty tv) := by
  refine ⟨fun pins s σ H D I h => ?_⟩
  refine wpAny_Assign_Subscript (thn (hv.run pins s σ H _ I h) fun r1 s1 ⟨v, H1, I1, rv, q1⟩ => thn (ho.run pins s1 σ H1 _ I1 q1) fun u s2 ⟨x, H2, I2, rx, q2⟩ => thn (hi.run pins s2 σ H2 _ I2 q2) fun iv s3 ⟨y, H3, I3, ry, q3⟩ => ?_) hs
  obtain ⟨b, p, es, kvs, d, rfl, rfl, hp, en, hk, hn, hl, q⟩ := q3
  obtain rfl : u = Value.ref p := rx
  obtain rfl : iv = Value.ref b := ry
  refine dput r I3 hp en hk hn hl rv (fun h' tk I4 => ⟨σ, _, I4, q⟩) fun xs dd hz hQ => ?_
  exact wpAny_setItem_heap (hsz := hz) (room8 r) (hk.is I3) dd hQ
end
end W97
end
section
set_option Elab.async false
set_option linter.all false
set_option maxRecDepth 100000
set_option maxHeartbeats 2000000
namespace W97
open PySem PySem.Spec PyProof.Rows L2 PyEnc
section
variable {X : Cx} {m : Mo} {HE H0 H H1 : Hp} {ρ : Ab} {σ : L2.St} {a b c e kx vx : Expr} {pos px : Pos} {d dv : PyData} {kvs : List (PyData × PyData)} {x : Str} {i k : Nat} {lk : LK}
/-- what can be a key: a tuple of ints and such tuples -/
structure TKey (d : PyData) : Prop where
  ne : nest d = true
  dp : d.depth ≤ 8
  tup : ∃ xs, d = .tuple xs
def TupKeys (kvs : List (PyData × PyData)) : Prop := ∀ kv ∈ kvs, ∃ xs, kv.1 = .tuple xs
theorem DObj.nested {K : PySem.W.Frag} {w : World} {H : Hp} {p : Addr} {o : HO} (h : DObj K (some w) H p o kvs) (t : TupKeys kvs) : ∃ es, o = DctO w p es ∧ Ents K H es kvs := by
  rcases h with ⟨w', es, e, e1, e2⟩ | ⟨es, e, x, n⟩
  · cases e
    exact ⟨es, e1, e2⟩
  · cases x with
    | nil => exact absurd rfl n
    | cons a _ =>
      obtain ⟨⟨i, _, e⟩, _⟩ := a
      obtain ⟨xs, e2⟩ := t _ List.mem_cons_self
      rw [e] at e2
      cases e2
theorem TKey.key {K : PySem.W.Frag} {H : Hp} {v : V} (t : TKey d) (h : DV K H v d) : ∃ b, v = .ref b ∧ DKey K H b d := by
  obtain ⟨xs, e⟩ := t.tup
  have h' := h
  rw [e] at h'
  obtain ⟨p, us, e2, _⟩ := DV.tup_eq h'
  subst e2
  exact ⟨p, rfl, h, t.ne, t.dp⟩
theorem slotD (S : SSt X.K m HE H0 ρ σ H) (hk : lk ≠ .par) (hi : ρ[i]? = some (some (.dct lk kvs))) : ∃ p o, σ[i]? = some (some (.ref p)) ∧ H p = some o ∧ DObj X.K m.wd H p o kvs := by
  obtain ⟨v, hv, hh⟩ := S.slots i _ hi
  cases lk with
  | own => obtain ⟨p, o, e, h1, h2, _⟩ := hh; subst e; exact ⟨p, o, hv, h1, h2⟩
  | par => exact absurd rfl hk
  | fz => obtain ⟨p, o, e, h1, h2⟩ := IsD.go hh S.gr S.fe0; subst e; exact ⟨p, o, hv, h1, h2⟩
theorem Gr.dobj (g : Gr m H H1) (f : FeedAt m H) {p : Addr} {o : HO} (h : H p = some o) (x : DObj X.K m.wd H p o kvs) : H1 p = some o ∧ DObj X.K m.wd H1 p o kvs := ⟨g.dct f h x, x.keep (g.tk f)⟩
theorem eq_din {c : Bool} (r : Room k X.A) (hw : m.wd = some X.w) (hk : lk ≠ .par) (hi : ρ[i]? = some (some (.dct lk kvs))) (hN : X.N[i]? = some x) (hv : Vis X.env.scope x) (tk : TupKeys kvs) (td : TKey d) (h : ED X m ρ a d) (hc : c = true ↔ d ∈ kvs.map (·.1))
    (hd : (x == ("__debug__" : Str)) = false := by decide) (hcd : (x == ("__classdict__" : Str)) = false := by decide) (hm : behindInMarks .In (.Name x px) = false := by rfl) : ED X m ρ (.Compare a [.In] [.Name x px] pos) (.bool c) := by
  intro σ H HE H0 S Qv kk
  refine ew_of (pe_cmpR (or_din r) (pe_ew X a) (pe_var hN hv hd hcd) hm) (ew_then h S fun v b1 H1 g1 S1 r1 e1 => ?_)
  subst e1
  obtain ⟨p, o, hσ, hp, hh⟩ := slotD S1 hk hi
  rw [hw] at hh
  obtain ⟨es, e, en⟩ := hh.nested tk
  subst e
  obtain ⟨b, e, kd⟩ := td.key r1
  subst e
  exact ⟨_, hσ, b, p, es, kvs, d, c, rfl, rfl, hp, en, kd, hc, kk _ (.dat (.bool c)) H1 g1 (by rw [Bool.false_bne]; exact .bl c) rfl⟩
theorem eq_dnin {c : Bool} (r : Room k X.A) (hw : m.wd = some X.w) (hk : lk ≠ .par) (hi : ρ[i]? = some (some (.dct lk kvs))) (hN : X.N[i]? = some x) (hv : Vis X.env.scope x) (tk : TupKeys kvs) (td : TKey d) (h : ED X m ρ a d) (hc : c = true ↔ d ∈ kvs.map (·.1))
    (hd : (x == ("__debug__" : Str)) = false := by decide) (hcd : (x == ("__classdict__" : Str)) = false := by decide) (hm : behindInMarks .NotIn (.Name x px) = false := by rfl) : ED X m ρ (.Compare a [.NotIn] [.Name x px] pos) (.bool (!c)) := by
  intro σ H HE H0 S Qv kk
  refine ew_of (pe_cmpR (or_dnin r) (pe_ew X a) (pe_var hN hv hd hcd) hm) (ew_then h S fun v b1 H1 g1 S1 r1 e1 => ?_)
  subst e1
  obtain ⟨p, o, hσ, hp, hh⟩ := slotD S1 hk hi
  rw [hw] at hh
  obtain ⟨es, e, en⟩ := hh.nested tk
  subst e
  obtain ⟨b, e, kd⟩ := td.key r1
  subst e
  exact ⟨_, hσ, b, p, es, kvs, d, c, rfl, rfl, hp, en, kd, hc, kk _ (.dat (.bool (!c))) H1 g1 (by rw [Bool.true_bne]; exact .bl (!c)) rfl⟩
theorem td_dnin {c : Bool} (r : Room k X.A) (hw : m.wd = some X.w) (hk : lk ≠ .par) (hi : ρ[i]? = some (some (.dct lk kvs))) (hN : X.N[i]? = some x) (hv : Vis X.env.scope x) (tk : TupKeys kvs) (td : TKey d) (h : ED X m ρ a d) (hc : c = true ↔ d ∈ kvs.map (·.1))
    (hd : (x == ("__debug__" : Str)) = false := by decide) (hcd : (x == ("__classdict__" : Str)) = false := by decide) (hm : behindInMarks .NotIn (.Name x px) = false := by rfl) : TD X m ρ (.Compare a [.NotIn] [.Name x px] pos) (!c) := by
  intro σ H HE H0 S Qv kk pins s I
  refine (pt_cmpR (or_dnin r) (pe_ew X a) (pe_var hN hv hd hcd) hm).run pins s σ H Qv I (ew_then h S fun v b1 H1 g1 S1 r1 e1 => ?_)
  subst e1
  obtain ⟨p, o, hσ, hp, hh⟩ := slotD S1 hk hi
  rw [hw] at hh
  obtain ⟨es, e, en⟩ := hh.nested tk
  subst e
  obtain ⟨b, e, kd⟩ := td.key r1
  subst e
  refine ⟨_, hσ, b, p, es, kvs, d, c, rfl, rfl, hp, en, kd, hc, !c, by rw [Bool.true_bne], kk (!c) H1 g1 rfl⟩
theorem ed_dget (r : Room k X.A) (hw : m.wd = some X.w) (hk : lk ≠ .par) (hi : ρ[i]? = some (some (.dct lk kvs))) (hN : X.N[i]? = some x) (hv : Vis X.env.scope x) (tk : TupKeys kvs) (td : TKey d) (h : ED X m ρ b d) (hm : (d, dv) ∈ kvs) (hs : PlainIx b)
    (hd : (x == ("__debug__" : Str)) = false := by decide) (hcd : (x == ("__classdict__" : Str)) = false := by decide) : ED X m ρ (.Subscript (.Name x px) b pos) dv := by
  intro σ H HE H0 S Qv kk
  obtain ⟨p, o, hσ, hp, hh⟩ := slotD S hk hi
  refine ew_of (pe_ix (ix_dct r) (pe_var hN hv hd hcd) (pe_ew X b) hs) ⟨_, hσ, ew_then h S fun v b1 H1 g1 S1 r1 e1 => ?_⟩
  subst e1
  obtain ⟨hp1, hh1⟩ := g1.dobj S.fe1 hp hh
  rw [hw] at hh1
  obtain ⟨es, e, en⟩ := hh1.nested tk
  subst e
  obtain ⟨b', e, kd⟩ := td.key r1
  subst e
  exact ⟨b', p, es, kvs, d, dv, rfl, rfl, hp1, en, kd, hm, fun v dd => kk v (.dat dv) H1 g1 dd rfl⟩
theorem eq_dnew (hw : m.wd = some X.w) : EQ X m ρ (.Dict [] [] pos) (· = .dct .own []) := by
  intro σ H HE H0 S Qv kk
  exact ew_of pe_dnew fun p hp => kk _ (.dct .own []) _ (Gr.new hp) ⟨p, _, rfl, hp, upd_same, .inl ⟨X.w, [], hw, rfl, .nil⟩⟩ rfl
/-- d[key] = value, d an own dict -/
theorem s1_dput {E : AE} {pos' : Pos} (r : Room k X.A) (hw : m.wd = some X.w) (hi : ρ[i]? = some (some (.dct .own kvs))) (hN : X.N[i]? = some x) (hv : Vis X.env.scope x) (tk : TupKeys kvs) (td : TKey d) (h1 : ED X m ρ e dv) (h2 : ED X m ρ b d) (hn : d ∉ kvs.map (·.1)) (hl : kvs.length ≤ 10000)
    (q : E.nx (ρ.set i (some (.dct .own (kvs ++ [(d, dv)]))))) (hs : swapsWith e (some (.Subscript (.Name x px) b pos')) pos.line X.env = pure false := by rfl) (hd : (x == ("__debug__" : Str)) = false := by decide) (hcd : (x == ("__classdict__" : Str)) = false := by decide) :
    S1 X m ρ (.Assign [.Subscript (.Name x px) b pos'] e pos) E := by
  intro σ H HE H0 S D dd
  refine s1_of (ps_dctput r (pe_var hN hv hd hcd) (pe_ew X b) (pe_ew X e) hs) (ew_then h1 S fun v b1 H1 g1 S1 r1 e1 => ?_)
  subst e1
  obtain ⟨v1, hσ, p, o, ev, hp, hh, h0⟩ := S1.slots i _ hi
  subst ev
  refine ⟨_, hσ, ew_then h2 S1 fun u b2 H2 g2 S2 r2 e2 => ?_⟩
  subst e2
  obtain ⟨hp2, hh2⟩ := g2.dobj S1.fe1 hp hh
  have hh3 := hh2
  rw [hw] at hh3
  obtain ⟨es, e3, en⟩ := hh3.nested tk
  obtain ⟨b', e4, kd⟩ := td.key r2
  subst e3 e4
  refine ⟨b', p, es, kvs, d, rfl, rfl, hp2, en, kd, hn, hl, dd.nx _ _ _ (S2.put hi rfl hσ rfl hp2 hh2.loose h0 rfl ?_) q⟩
  have t := tk_put (o2 := DctO X.w p (es ++ [(keyD d, b', v)])) hp2 hh2.loose
  refine ⟨p, _, rfl, upd_same, .inl ⟨X.w, _, hw, rfl, ?_⟩, h0⟩
  refine paired_imp (fun a b ⟨z1, z2, z3, z4, z5⟩ => ⟨z1, z2, z3, DV.keep t z4, DV.keep t z5⟩) (paired_snoc en ⟨rfl, kd.ne, kd.dp, kd.dv, ?_⟩)
  exact DV.keep (g2.tk S1.fe1) r1
/-- len(d) -/
theorem ed_lenD {p : Pos} (hw : m.wd = some X.w) (hk : lk ≠ .par) (hi : ρ[i]? = some (some (.dct lk kvs))) (hN : X.N[i]? = some x) (hv : Vis X.env.scope x) (tk : TupKeys kvs) (hl : kvs.length ≤ 10000) (hg : Gl X "len") (hm : X.mg "len" = none)
    (hs : starEach [.Name x px] X.env = (false, eval (.Name x px) X.env) :: starEach [] X.env := by rfl) (hpl : (backTo pos (starEach [] X.env)).any (·.1) = false := by rfl) (hd : (x == ("__debug__" : Str)) = false := by decide) (hcd : (x == ("__classdict__" : Str)) = false := by decide) :
    ED X m ρ (.Call (.Name "len" p) [.Name x px] [] pos) (.int kvs.length) := by
  have cr : CallR X (.builtin "len") fun xs H Q => ∃ p es, xs = [V.ref p] ∧ H p = some (DctO X.w p es) ∧ Ents X.K H es kvs ∧ Q (.int kvs.length) H := by
    intro pins s σ H xs us Q I r h
    obtain ⟨p, es, rfl, hp, en, q⟩ := h
    rw [Vals.ref1 r]
    obtain ⟨xs, st⟩ := stands I hp en
    have e : xs.length = kvs.length := by rw [← paired_len st.rel, paired_len en]
    refine call_len_dictH st.sys st.at_ (by omega) ?_
    rw [e]
    exact ⟨.int kvs.length, H, I.tok _, ⟨_, rfl⟩, q⟩
  intro σ H HE H0 S Qv kk
  obtain ⟨p, o, hσ, hp, hh⟩ := slotD S hk hi
  rw [hw] at hh
  obtain ⟨es, e, en⟩ := hh.nested tk
  subst e
  exact ew_of (pe_callB cr hg hm PySem.boot_len (pa_cons (pe_var hN hv hd hcd) pa_nil hs) (he := hs) (hpl := hpl)) ⟨_, hσ, p, es, rfl, hp, en, kk _ (.dat (.int kvs.length)) H Gr.refl (.int _) rfl⟩
end
end W97
end
section
set_option Elab.async false
set_option linter.all false
set_option maxRecDepth 100000
set_option maxHeartbeats 2000000
namespace W97
open PySem PySem.Spec PyProof.Rows L2 PyEnc
/-! ### a display of one pair -/
section
variable {X : Cx} {m : Mo} {ρ : Ab} {kx vx : Expr} {pos : Pos} {d dv : PyData} {k : Nat}
def tDisp1 (K : PySem.W.Frag) (w : World) (tk tv : TE) : TE := fun σ H Q => ∀ p, H p = none → tk σ (upd H p (DctO w p [])) fun y H1 => tv σ H1 fun z H2 => ∃ b d, y = .ref b ∧ H2 p = some (DctO w p []) ∧ DKey K H2 b d ∧ Q (.ref p) (upd H2 p (DctO w p [(keyD d, b, z)]))
theorem pe_disp1 {tk tv : TE} (r : Room k X.A) (hk : PE X kx tk) (hv : PE X vx tv) : PE X (.Dict [some kx] [vx] pos) (tDisp1 X.K X.w tk tv) := by
  refine ⟨fun pins s σ H Q I h => ?_⟩
  have hr : (nestedKind X.prog X.w).room X.A := by
    show X.A.units + 8 < cLine
    have := r.un
    omega
  have hn := I.hok.fresh (Nat.le_refl s.heap.objs.size)
  have I1 := I.laid (a := s.heap.objs.size) (o := DctO X.w s.heap.objs.size []) (h' := s.heap.push { cls := .type "dict", data := .dict #[] }) (t' := s.toks) (fun _ _ q => Heap.get?_push_of_some _ q) (Nat.le_refl _) (dct_empty s.heap I.big)
  rw [arm_eval_Dict, zip_pairTrees [some kx] [vx] X.env pos rfl rfl, dictDisplay_pairs (pairTrees [some kx] [vx] X.env pos) (by intro z; cases z) (show 1 < 17 by decide)]
  refine wpAny_bind (wpAny_standAt (wpAny_bind (wpAny_subDictH (knd := nestedKind X.prog X.w) (Q := fun p s2 => wpAny (model X.prog X.w) X.A (pure (Value.ref p)) (EP X pins σ Q) X.xe s2) hr (show 1 ≤ 15 by decide) ?_)))
  refine pairTrees_cons_walk (thn (hk.run pins _ σ _ _ I1 (h _ hn)) fun u s1 ⟨y, H1, I2, ry, q1⟩ => thn (hv.run pins s1 σ H1 _ I2 q1) fun r2 s2 ⟨z, H2, I3, rz, q2⟩ => pairTrees_nil_walk ?_)
  obtain ⟨b, d, rfl, hp, dk, q⟩ := q2
  obtain rfl : u = Value.ref b := ry
  obtain ⟨xs, st⟩ := stands (kvs := []) I3 hp .nil
  obtain rfl : xs = [] := by
    have e := paired_len st.rel
    cases xs with
    | nil => rfl
    | cons _ _ => cases e
  refine ⟨[(keyD d, b, r2)], ⟨rfl, rfl, dk.is I3, True.intro⟩, st.at_, fun h' tk dd hs => wpAny_pure ?_⟩
  obtain ⟨o, es2, ep, h1, h2, h3, h4, h5, h6⟩ := dd
  refine ⟨.ref s.heap.objs.size, _, d_write (ob := DctO X.w s.heap.objs.size [(keyD d, b, z)]) I3 (by rw [hp]; exact True.intro) hs ⟨o, h1⟩ ⟨⟨st.sys, [(keyD d, b, r2)], .cons ⟨rfl, rfl, rz⟩ .nil, o, es2, ep, h1, h2, h3, h4, h6⟩, ⟨o, h1⟩, ?_⟩, rfl, q⟩
  rintro h1' h2' ⟨z1, ys, z2, o', es3, ep3, z3, z4⟩ kk
  exact ⟨z1, ys, z2, o', es3, ep3, kk o' z3, z4⟩
theorem eq_disp1 (r : Room k X.A) (hw : m.wd = some X.w) (td : TKey d) (h1 : ED X m ρ kx d) (h2 : ED X m ρ vx dv) : EQ X m ρ (.Dict [some kx] [vx] pos) (· = .dct .own [(d, dv)]) := by
  intro σ H HE H0 S Qv kk
  refine ew_of (pe_disp1 r (pe_ew X kx) (pe_ew X vx)) fun p hp => ?_
  have g0 : Gr m H (upd H p (DctO X.w p [])) := Gr.new hp
  have S0 := S.go g0
  have ob : DObj X.K m.wd (upd H p (DctO X.w p [])) p (DctO X.w p []) [] := .inl ⟨X.w, [], hw, rfl, .nil⟩
  refine ew_then h1 S0 fun y b1 H1 g1 S1 r1 e1 => ew_then h2 S1 fun z b2 H2 g2 S2 r2 e2 => ?_
  subst e1 e2
  obtain ⟨b, e, dk⟩ := td.key (DV.keep (g2.tk S1.fe1) r1)
  subst e
  have hp2 := (g1.trans g2).dct S0.fe1 upd_same ob
  refine ⟨b, d, rfl, hp2, dk, kk _ (.dct .own [(d, dv)]) _ ((g0.trans (g1.trans g2)).mut hp hp2 ob.loose) ⟨p, _, rfl, hp, upd_same, .inl ⟨X.w, _, hw, rfl, .cons ⟨rfl, dk.ne, dk.dp, ?_, ?_⟩ .nil⟩⟩ rfl⟩
  · exact DV.keep (tk_put hp2 ob.loose) dk.dv
  · exact DV.keep (tk_put hp2 ob.loose) r2
end
/-! ### comprehensions -/
section
variable {X : Cx}
/-- how an entry is put into the dict that is made -/
abbrev DPutR : Type := Hp → Addr → V → V → (Hp → Prop) → Prop
def tDcG (O : Addr → HO) (Put : DPutR) (wi : TI) (g : TG) (tt : TT) (tk tv : TE) (vs : List Nat) : TE := fun σ H Q => wi σ H fun J H1 => ∀ D, H1 D = none → ∃ W : Nat → Nat → Hp → Prop, (∃ n, W 0 n (upd H1 D (O D))) ∧ ∀ i n H, W i n H →
  (J.stop i H ∧ Q (.ref D) H) ∨ (J.go i H ∧ ∃ N : Hp → Prop, (∀ H', N H' → ∃ n', n' < n ∧ W (i + 1) n' H') ∧ ∀ x H', J.yld i H x H' → g x (wipe σ vs) H' fun σ2 H2 => wipe σ2 vs = wipe σ vs ∧ tt σ2 H2 fun b H3 =>
    if b = true then tk σ2 H3 fun y H4 => tv σ2 H4 fun z H5 => Put H5 D y z N else N H3)
/-- what a way to put must do, in a block's context -/
def PutOk (X : Cx) (Put : DPutR) : Prop := ∀ (XB : Cx), XB.prog = X.prog → XB.w = X.w → XB.A = X.A → XB.K = X.K → ∀ (pins : List (Addr × Obj)) (σ : L2.St) (H : Hp) (s : Shared) (E : Value → Shared → Prop) (D : Addr) (y z : V) (u r : Value) (N : Hp → Prop) (Q : Unit → Shared → Prop),
  Inv XB pins σ H s → RelV y u → RelV z r → Put H D y z N → (∀ s2 H2, Inv XB pins σ H2 s2 → N H2 → Q () s2) → wpAny (model XB.prog XB.w) XB.A (dictSet D u r) Q E s
theorem dcg_core {O : Addr → HO} {Put : DPutR} {pins : List (Addr × Obj)} {s : Shared} {σ : L2.St} {H : Hp} {Q : VK} {kx vx tg iter : Expr} {ifs : List Expr} {scope : Scope} {own : List (Str × Nat)} {pos pos' : Pos} {wi : TI} {g : TG} {tt : TT} {tk tv : TE} {use : Option (Value → Sem Unit)} {Qf : Value → Shared → Prop}
    (hO : ∀ (H : Hp) (h : Heap), sysModules < h.objs.size → ObjOk X.prog X.w H (h.push { cls := .type "dict", data := .dict #[] }) h.objs.size (O h.objs.size)) (hP : PutOk X Put) (hc : X.calm = true) (hN : X.N.Nodup) (I : Inv X pins σ H s) (hi : PI X tg iter wi) (ok : BlkOk X.N X.env.scope scope own)
    (hg : ∀ s H C cl fp, PG (X.blk s H scope (compEnvC scope cl C X.env) fp) tg g) (ht : ∀ s H C cl fp, PTs (X.blk s H scope (compEnvC scope cl C X.env) fp) ifs tt) (hk : ∀ s H C cl fp, PE (X.blk s H scope (compEnvC scope cl C X.env) fp) kx tk) (he : ∀ s H C cl fp, PE (X.blk s H scope (compEnvC scope cl C X.env) fp) vx tv)
    (hs : ∀ x, foldedSetIterable iter X.env x = pure x) (h : tDcG O Put wi g tt tk tv (own.map (·.2)) σ H Q)
    (hRR : ∀ D C s2 n H2, Inv X pins σ H2 s2 → Q (.ref D) H2 → s2.heap.Ns C n → FpOk X pins H2 C → compPost (model X.prog X.w) X.A X.xe use Qf (.ref D) C (.ok .next) s2) :
    wpAny (model X.prog X.w) X.A (comprehension (.DictComp kx vx [⟨tg, iter, ifs, 0⟩] scope pos) scope X.env pos' newDict false (eval iter X.env) use) Qf X.xe s := by
  have free : ∀ y ∈ scope.names, y.2 = .free → ∃ c, X.env.cells.lookup y.1 = some c := fun y hy e => I.ok.has _ (ok.free y hy e)
  refine wpAny_comprehension_free (use := use) rfl hs (closure_ok free) ok.kind (fun y hy e => (ok.uniq y hy).trans (congrArg some e)) (thn (hi.run pins s σ H _ I h) fun xv s1 hx => thn hx fun itv s2 h2 => ?_)
  obtain ⟨it, fp, tn, J, H2, rfl, I2, T, st2, f2, q⟩ := h2
  refine wpAny_newObj_type (newEnv_comp ?_)
  obtain ⟨D, hD⟩ : ∃ D, s2.heap.objs.size = D := ⟨_, rfl⟩
  rw [hD]
  obtain ⟨W, ⟨n0, w0⟩, turn⟩ := q D (I2.hok.fresh (Nat.le_of_eq hD))
  obtain ⟨s3, hs3⟩ : ∃ s3 : Shared, { s2 with heap := s2.heap.push { cls := .type "dict", data := .dict #[] } } = s3 := ⟨_, rfl⟩
  have I3 : Inv X pins σ (upd H2 D (O D)) s3 := by
    rw [← hs3, ← hD]
    exact I2.laid (t' := s2.toks) (fun b o e => Heap.get?_push_of_some _ e) (Nat.le_refl _) (hO _ s2.heap I2.big)
  rw [hs3]
  have h3 : s3.heap = s2.heap.push { cls := .type "dict", data := .dict #[] } := by rw [← hs3]
  have below : ∀ b ∈ fp, b < s2.heap.objs.size := fun b hb => let ⟨o, e, _⟩ := T.obj _ _ st2 b hb; Heap.lt_size e
  have f3 : ∀ b ∈ fp, FpOk X pins (upd H2 D (O D)) b ∧ b < s3.heap.objs.size := fun b hb =>
    ⟨⟨by rw [upd_ne (by rw [← hD]; exact Nat.ne_of_lt (below b hb))]; exact (f2 b hb).1, (f2 b hb).2⟩, by rw [h3, Heap.size_push]; exact Nat.lt_succ_of_lt (below b hb)⟩
  have st3 : tn 0 s3.heap := T.keep _ _ _ st2 fun b _ o e => by rw [h3]; exact Heap.get?_push_of_some _ e
  have I4 := block_start I3 ok hN f3
  obtain ⟨cl, hcl⟩ : ∃ cl, cellsFrom (s3.heap.objs.size + 1) scope.names (cloFrom X.env.cells scope.names []) = cl := ⟨_, rfl⟩
  rw [hcl] at I4
  have pg := hg s3 (upd H2 D (O D)) s3.heap.objs.size cl fp
  have pt := ht s3 (upd H2 D (O D)) s3.heap.objs.size cl fp
  have pk := hk s3 (upd H2 D (O D)) s3.heap.objs.size cl fp
  have pv := he s3 (upd H2 D (O D)) s3.heap.objs.size cl fp
  have nfp : ∀ b ∈ fp, (upd H2 D (O D)) b = none := fun b hb => (f3 b hb).1.1
  obtain ⟨ce, hce⟩ : ∃ ce, compEnvC scope cl s3.heap.objs.size X.env = ce := ⟨_, rfl⟩
  have cL : ce.locals = s3.heap.objs.size := by rw [← hce]; rfl
  obtain ⟨s4, hs4⟩ : ∃ s4 : Shared, { s3 with heap := pushCells (s3.heap.push { cls := .type "dict", data := .dict #[] }) scope.names } = s4 := ⟨_, rfl⟩
  have st4 : tn 0 s4.heap := T.keep _ _ _ st3 fun b _ o e => by rw [← hs4]; exact pushCells_keeps _ _ _ _ (Heap.get?_push_of_some _ e)
  rw [hce, hs4] at I4
  rw [hce] at pg pt pk pv
  obtain ⟨H3, hH3⟩ : ∃ H3, upd H2 D (O D) = H3 := ⟨_, rfl⟩
  rw [hH3] at I3 I4 pg pt pk pv w0 nfp f3
  have still : ∀ {σ2 : L2.St} {H5 : Hp} {s5 : Shared}, Inv (X.blk s3 H3 scope ce fp) [] σ2 H5 s5 → (∀ b ∈ fp, H5 b = none) → ∀ b ∈ fp, FpOk (X.blk s3 H3 scope ce fp) [] H5 b := fun {σ2 H5 s5} J5 hn b hb =>
    ⟨hn b hb, (J5.ok.exf b hb).1, J5.ok.exfs b hb, .inl hb, fun x c e => (J5.ok.exf b hb).2 x c e, fun p hp => (by cases hp)⟩
  have loop : codeAny (model X.prog X.w) X.A (.compLoop (.DictComp kx vx [⟨tg, iter, ifs, 0⟩] scope pos) 0 (.ref it) (.ref D) ce) (compPost (model X.prog X.w) X.A X.xe use Qf (.ref D) s3.heap.objs.size) s4 := by
    refine compLoop_anyD (fun n s5 => ∃ i H5, Inv (X.blk s3 H3 scope ce fp) [] (wipe σ (own.map (·.2))) H5 s5 ∧ tn i s5.heap ∧ (∀ b ∈ fp, H5 b = none) ∧ W i n H5) ?_ n0 ⟨0, H3, I4, st4, nfp, w0⟩
    rintro n s5 ⟨i, H5, I5, st5, n5, w5⟩
    rcases turn i n H5 w5 with ⟨stop, qq⟩ | ⟨go, N, hN2, step⟩
    · refine thnF (T.done (X.blk s3 H3 scope ce fp) rfl rfl rfl hc i [] s5 _ H5 (fun _ _ => False) I5 (still I5 n5) st5 stop) fun r s6 ⟨hr, I6⟩ => ?_
      subst hr
      have I7 : Inv X pins σ H5 s6 := I3.call' (ch := fp) I6.os I6.base I6.hok I6.bare fun b hb => let z := (f3 b hb).1.2; ⟨z.2.2.1, z.1, z.2.2.2.1, z.2.2.2.2⟩
      have nC : H5 s3.heap.objs.size = none := by rw [← cL]; exact I6.free
      obtain ⟨mm, hm, _⟩ := I6.loc
      have hm : s6.heap.Ns ce.locals mm := hm
      rw [cL] at hm
      exact hRR D s3.heap.objs.size s6 mm H5 I7 qq hm (I3.fpOk (Nat.le_refl _) nC)
    · refine thnF (T.item (X.blk s3 H3 scope ce fp) rfl rfl rfl hc i [] s5 _ H5 (fun _ _ => False) I5 (still I5 n5) st5 go) fun r s6 ⟨u, hr, h6⟩ => ?_
      subst hr
      refine thnF h6 fun _ s7 ⟨x, H7, I7, r7, y7, st7, n7⟩ => ?_
      refine thnF (pg.run _ s7 _ H7 x u _ (I7.pinned (still I7 n7) (T.obj _ _ st7)) r7 (step x H7 y7)) fun _ s8 ⟨σ8, H8, I8, hw8, q8⟩ => ?_
      refine thnF (pt.run _ s8 σ8 H8 _ I8 q8) fun b s9 ⟨H9, I9, q9⟩ => ?_
      have close : ∀ {sx : Shared} {Hx : Hp}, Inv (X.blk s3 H3 scope ce fp) ([] ++ pinsAt fp s7.heap) σ8 Hx sx → N Hx → ∃ n', n' < n ∧ ∃ i H5, Inv (X.blk s3 H3 scope ce fp) [] (wipe σ (own.map (·.2))) H5 sx ∧ tn i sx.heap ∧ (∀ b ∈ fp, H5 b = none) ∧ W i n' H5 := fun {sx Hx} Ix nx => by
        obtain ⟨n', hn', w'⟩ := hN2 Hx nx
        have pinned : ∀ b ∈ fp, ∀ o, s7.heap.get? b = some o → sx.heap.get? b = some o ∧ Hx b = none := fun b hb o e =>
          let z := Ix.pin (b, o) (List.mem_append_right _ (List.mem_append_right _ (mem_pinsAt hb e)))
          ⟨z.1, z.2.1⟩
        refine ⟨n', hn', i + 1, Hx, (Ix.unpinned (pins := [])).weak (by rw [← hw8, wipe_length]) (fun j v e => (wipe_some (by rw [hw8]; exact e)).1), T.keep _ _ _ st7 fun b hb o e => (pinned b hb o e).1, fun b hb => ?_, w'⟩
        obtain ⟨o, e, _⟩ := T.obj _ _ st7 b hb
        exact (pinned b hb o e).2
      cases b with
      | false =>
        simp only [Bool.false_eq_true, if_false] at q9 ⊢
        exact close I9 q9
      | true =>
        simp only [if_true] at q9 ⊢
        refine thnF (pk.run _ s9 σ8 H9 _ I9 q9) fun z s10 ⟨yk, H10, I10, r10, q10⟩ => thnF (pv.run _ s10 σ8 H10 _ I10 q10) fun z2 s11 ⟨yv, H11, I11, r11, q11⟩ => ?_
        exact hP (X.blk s3 H3 scope ce fp) rfl rfl rfl rfl _ _ _ _ _ _ _ _ _ _ N _ I11 r10 r11 q11 fun s12 H12 I12 nx => close I12 nx
  have fin := codeAny_compStart_dict loop (T.self X.A 0 _ _ _ st4 loop)
  rw [← hs4, ← hce, ← hcl] at fin
  exact fin
end
end W97
end
section
set_option Elab.async false
set_option linter.all false
set_option maxRecDepth 100000
set_option maxHeartbeats 2000000
namespace W97
open PySem PySem.Spec PyProof.Rows L2 PyEnc
section
variable {X : Cx}
theorem pe_dcg {O : Addr → HO} {Put : DPutR} {kx vx tg iter : Expr} {ifs : List Expr} {scope : Scope} {own : List (Str × Nat)} {pos : Pos} {wi : TI} {g : TG} {tt : TT} {tk tv : TE}
    (hO : ∀ (H : Hp) (h : Heap), sysModules < h.objs.size → ObjOk X.prog X.w H (h.push { cls := .type "dict", data := .dict #[] }) h.objs.size (O h.objs.size)) (hP : PutOk X Put) (hc : X.calm = true) (hN : X.N.Nodup) (hi : PI X tg iter wi) (ok : BlkOk X.N X.env.scope scope own)
    (hg : ∀ s H C cl fp, PG (X.blk s H scope (compEnvC scope cl C X.env) fp) tg g) (ht : ∀ s H C cl fp, PTs (X.blk s H scope (compEnvC scope cl C X.env) fp) ifs tt) (hk : ∀ s H C cl fp, PE (X.blk s H scope (compEnvC scope cl C X.env) fp) kx tk) (he : ∀ s H C cl fp, PE (X.blk s H scope (compEnvC scope cl C X.env) fp) vx tv)
    (hs : ∀ x, foldedSetIterable iter X.env x = pure x := by intro _; rfl) : PE X (.DictComp kx vx [⟨tg, iter, ifs, 0⟩] scope pos) (tDcG O Put wi g tt tk tv (own.map (·.2))) := by
  refine ⟨fun pins s σ H Q I h => ?_⟩
  rw [arm_eval_DictComp]
  exact dcg_core hO hP hc hN I hi ok hg ht hk he hs h fun D C s2 n H2 J q hn f => ⟨n, hn, fun h3 sb => ⟨.ref D, H2, J.turned (t' := s2.toks) (fun b o hb e => (sb.2 b hb).trans e) f.1 f.2.1 f.2.2.2.1 f.2.2.2.2.1 f.2.2.2.2.2, rfl, q⟩⟩
theorem swd_true {kx vx : Expr} {gs : List Comprehension} {scope : Scope} {pos py : Pos} {y : Str} {l : Nat} {env : Env} (hk : env.scope.kind = .function) (hy : env.scope.names.lookup y = some .local) (hl : (py.line == pos.line) = true)
    (ha : (scope.names.any fun (n, k) => n == y && (k == .local || k == .cell)) = false) : swapsWith (.DictComp kx vx gs scope pos) (some (.Name y py)) l env = pure true := by
  have k1 : env.kindOf y = some .local := hy
  have k2 : env.blockKind = .function := by unfold Env.blockKind; rw [hk]; rfl
  unfold swapsWith
  simp only [k2, k1, ha, Expr.pos, hl]; rfl
theorem ps_setDcg {O : Addr → HO} {Put : DPutR} {i : Nat} {y : Str} {py spos : Pos} {kx vx tg iter : Expr} {ifs : List Expr} {scope : Scope} {own : List (Str × Nat)} {pos : Pos} {wi : TI} {g : TG} {tt : TT} {tk tv : TE}
    (hO : ∀ (H : Hp) (h : Heap), sysModules < h.objs.size → ObjOk X.prog X.w H (h.push { cls := .type "dict", data := .dict #[] }) h.objs.size (O h.objs.size)) (hP : PutOk X Put) (hc : X.calm = true) (hN : X.N.Nodup) (hy : X.N[i]? = some y) (hyl : X.env.scope.names.lookup y = some .local)
    (hsw : swapsWith (.DictComp kx vx [⟨tg, iter, ifs, 0⟩] scope pos) (some (.Name y py)) spos.line X.env = pure true) (hi : PI X tg iter wi) (ok : BlkOk X.N X.env.scope scope own)
    (hg : ∀ s H C cl fp, PG (X.blk s H scope (compEnvC scope cl C X.env) fp) tg g) (ht : ∀ s H C cl fp, PTs (X.blk s H scope (compEnvC scope cl C X.env) fp) ifs tt) (hk : ∀ s H C cl fp, PE (X.blk s H scope (compEnvC scope cl C X.env) fp) kx tk) (he : ∀ s H C cl fp, PE (X.blk s H scope (compEnvC scope cl C X.env) fp) vx tv)
    (hs : ∀ x, foldedSetIterable iter X.env x = pure x := by intro _; rfl) : PS X (.Assign [.Name y py] (.DictComp kx vx [⟨tg, iter, ifs, 0⟩] scope pos) spos) (tAsg (tDcG O Put wi g tt tk tv (own.map (·.2))) (gName i)) := by
  refine ⟨fun pins s σ H D I h => ?_⟩
  rw [exec_Assign_Name_used _ _ _ _ hsw]
  refine wpAny_bind (wpAny_standAt (wpAny_bind (?_ : wpAny _ X.A (do let _ ← comprehension (.DictComp kx vx [⟨tg, iter, ifs, 0⟩] scope pos) scope X.env (firstIterPos [⟨tg, iter, ifs, 0⟩] pos) newDict false (eval iter X.env) (some (assign (.Name y py) X.env))) _ _ s)))
  have h : tDcG O Put wi g tt tk tv (own.map (·.2)) σ H (fun x H1 => gName i x σ H1 D.nx) := h
  refine wpAny_bind (thn (dcg_core (Qf := fun _ s2 => SP X pins D .next s2) hO hP hc hN I hi ok hg ht hk he hs h fun L C s2 n H2 J q hn f => ?_) fun _ s2 hq => wpAny_pure (wpAny_pure hq))
  refine (wpAny_assign_Name (store_ok2 (v := V.ref L) J hN hy (.inl hyl) rfl (fun s3 I3 ⟨a, sb, ha⟩ => ?_) (.inr hyl)) : wpAny _ _ (assign (.Name y py) X.env (.ref L)) _ _ _)
  have apart : C ≠ a := ha.elim (fun z => z ▸ f.2.1) fun z e => f.2.2.2.2.1 y a z e.symm
  exact ⟨n, hn.sameBut sb apart, fun h3 sb3 => ⟨_, H2, I3.turned (t' := s3.toks) (fun b o hb e => (sb3.2 b hb).trans e) f.1 f.2.1 f.2.2.2.1 f.2.2.2.2.1 f.2.2.2.2.2, q⟩⟩
/-! ### keys that are nested tuples -/
def PutN (K : PySem.W.Frag) (w : World) : DPutR := fun H D y z N => ∃ b es kvs d, y = .ref b ∧ H D = some (DctO w D es) ∧ Ents K H es kvs ∧ DKey K H b d ∧ d ∉ kvs.map (·.1) ∧ kvs.length ≤ 10000 ∧ N (upd H D (DctO w D (es ++ [(keyD d, b, z)])))
theorem putN_ok {k : Nat} (r : Room k X.A) : PutOk X (PutN X.K X.w) := by
  intro XB e1 e2 e3 e4 pins σ H s E D y z u rr N Q I ry rz h hQ
  rw [← e4, ← e2] at h
  rw [← e3] at r
  obtain ⟨b, es, kvs, d, rfl, hD, en, dk, hn, hl, nx⟩ := h
  obtain rfl : u = Value.ref b := ry
  refine dput r I hD en dk hn hl rz (fun h' tk J => hQ _ _ J nx) fun xs dd hz hq => ?_
  refine wpAny_dictSet_heap (hsz := hz) ?_ (dk.is I) dd hq
  show XB.A.units + 8 < cLine
  have := r.un
  omega
/-! ### keys that are ints -/
def PutI : DPutR := fun H D y z N => ∃ kvs k, y = kV k ∧ H D = some (.dK kvs) ∧ kvs.length < sizeLine ∧ N (upd H D (.dK (L2.putK kvs k z)))
theorem putI_ok : PutOk X PutI := by
  intro XB e1 e2 e3 e4 pins σ H s E D y z u rr N Q I ry rz h hQ
  obtain ⟨kvs, k, rfl, hD, hl, nx⟩ := h
  exact d_dictSet I hD hl ry rz fun s2 J => hQ s2 _ J nx
end
section
variable {X : Cx} {m : Mo} {HE H0 H H1 H2 : Hp} {ρ ρ' ρ'' : Ab} {σ : L2.St} {kx vx tg iter : Expr} {pos p : Pos} {ds : List PyData}
theorem dc_walk {K : PySem.W.Frag} {O : Addr → HO} {Put : DPutR} {J : It} (w : Src K J ds H1) {g : TG} {tk tv : TE} {vs : List Nat} {D : Addr} {Qd : Hp → Prop} (Pv : Nat → Hp → Prop) (h0 : Pv 0 (upd H1 D (O D))) (hG : ∀ i H, Pv i H → TL H1 H)
    (hs : ∀ i x H H', i < ds.length → Pv i H → YD K ds i H x H' → g x (wipe σ vs) H' fun σ2 H2 => wipe σ2 vs = wipe σ vs ∧ tk σ2 H2 fun y H4 => tv σ2 H4 fun z H5 => Put H5 D y z (Pv (i + 1))) (hd : ∀ H, Pv ds.length H → Qd H) :
    ∃ W : Nat → Nat → Hp → Prop, (∃ n, W 0 n (upd H1 D (O D))) ∧ ∀ i n H, W i n H →
      (J.stop i H ∧ Qd H) ∨ (J.go i H ∧ ∃ N : Hp → Prop, (∀ H', N H' → ∃ n', n' < n ∧ W (i + 1) n' H') ∧ ∀ x H', J.yld i H x H' → g x (wipe σ vs) H' fun σ2 H2 => wipe σ2 vs = wipe σ vs ∧ tYes σ2 H2 fun b H3 => if b = true then tk σ2 H3 fun y H4 => tv σ2 H4 fun z H5 => Put H5 D y z N else N H3) := by
  refine ⟨fun i n H => n = ds.length - i ∧ i ≤ ds.length ∧ Pv i H, ⟨_, rfl, Nat.zero_le _, h0⟩, ?_⟩
  rintro i n H ⟨rfl, hi, pv⟩
  by_cases lt : i < ds.length
  · refine .inr ⟨w.goes i H lt (hG i H pv), Pv (i + 1), fun H' q => ⟨_, by omega, rfl, lt, q⟩, fun x H' y => ?_⟩
    have z := hs i x H H' lt pv (w.yields i H x H' lt (hG i H pv) y)
    exact z
  · obtain rfl : i = ds.length := by omega
    exact .inl ⟨w.stops H (hG _ H pv), hd H pv⟩
theorem Ents.keep {K : PySem.W.Frag} {H H' : Hp} {es : List (NestedKey × Addr × V)} {kvs : List (PyData × PyData)} (en : Ents K H es kvs) (t : TK H H') : Ents K H' es kvs :=
  paired_imp (fun a b ⟨z1, z2, z3, z4, z5⟩ => ⟨z1, z2, z3, DV.keep t z4, DV.keep t z5⟩) en
/-- what a comprehension reads: the dict it makes -/
theorem dc_readN {k : Nat} {scope : Scope} {ws : List Nat} {wi : TI} (r : Room k X.A) (hw : m.wd = some X.w) (S : SSt X.K m HE H0 ρ σ H)
    (hwi : ∀ σ H HE H0, SSt X.K m HE H0 ρ σ H → ∀ R : It → Hp → Prop, (∀ J H1, Gr m H H1 → Src X.K J ds H1 → R J H1) → wi σ H R) (hlen : ds.length ≤ 10000) (kf vf : PyData → PyData) (hnd : (ds.map kf).Nodup) (hk : ∀ d ∈ ds, TKey (kf d))
    (h : ∀ d ∈ ds, ∃ is ρ'', (∀ j ∈ is, j ∈ ws) ∧ (Blk X scope fun X' => TGD X' tg is d (wipeA (fzA ρ) ws) ρ'') ∧ (Blk X scope fun X' => ED X' m ρ'' kx (kf d)) ∧ Blk X scope fun X' => ED X' m ρ'' vx (vf d)) {Qv : VK}
    (kk : ∀ D H', Gr m H H' → H D = none → (∃ o, H' D = some o ∧ DObj X.K m.wd H' D o (ds.map fun d => (kf d, vf d))) → Qv (.ref D) H') : tDcG (fun D => DctO X.w D []) (PutN X.K X.w) wi (gB X scope tg) tYes (eB X scope kx) (eB X scope vx) ws σ H Qv := by
  refine hwi σ H HE H0 S _ fun J H1 g1 w D hD => ?_
  have S1 := S.go g1
  have SB := S1.blk ws
  refine dc_walk (O := fun D => DctO X.w D []) w (fun i H2 => Gr m H1 H2 ∧ ∃ es, H2 D = some (DctO X.w D es) ∧ Ents X.K H2 es ((ds.take i).map fun d => (kf d, vf d))) ⟨Gr.new hD, [], upd_same, .nil⟩ (fun i H2 z => z.1.tl S1.fe1) (fun i x H2 H3 hi z y => ?_) fun H2 z => ?_
  · obtain ⟨g2, es, hD2, en⟩ := z
    obtain ⟨d, hd, kp, dx⟩ := y
    have g3 : Gr m H1 H3 := g2.trans (Gr.same kp)
    have ob : DObj X.K m.wd H3 D (DctO X.w D es) ((ds.take i).map fun d => (kf d, vf d)) := (show DObj X.K m.wd H2 D _ _ from .inl ⟨X.w, es, hw, rfl, en⟩).keep ((Gr.same (m := {}) kp).tk fun a e => by cases e)
    obtain ⟨is, ρ'', hsub, ht, hkx, hvx⟩ := h d (List.mem_of_getElem? hd)
    intro s' H' C cl fp
    refine ht s' H' C cl fp m HE H1 _ H3 (SB.go g3) x dx _ fun σ2 S2 hw2 => ⟨by rw [hw2 ws hsub, wipe_idem], ?_⟩
    have f3 := S1.fe1.go g3
    intro s2 H2' C2 cl2 fp2
    refine ew_then (hkx s2 H2' C2 cl2 fp2) S2 fun y b1 H4 g4 S4 r4 e4 => ?_
    subst e4
    intro s3 H3' C3 cl3 fp3
    refine ew_then (hvx s3 H3' C3 cl3 fp3) S4 fun z b2 H5 g5 S5 r5 e5 => ?_
    subst e5
    have tk := (hk d (List.mem_of_getElem? hd))
    obtain ⟨b, e, dk⟩ := tk.key (DV.keep (g5.tk S4.fe1) r4)
    subst e
    have hD5 := (g4.trans g5).dct f3 (kp _ _ hD2) ob
    have ob5 := ob.keep ((g4.trans g5).tk f3)
    have en5 : Ents X.K H5 es ((ds.take i).map fun d => (kf d, vf d)) := (en.keep ((Gr.same (m := {}) kp).tk fun a e => by cases e)).keep ((g4.trans g5).tk f3)
    have hnext : ds.take (i + 1) = ds.take i ++ [d] := take_next hd
    refine ⟨b, es, _, kf d, rfl, hD5, en5, dk, fun hm => ?_, by rw [List.length_map, List.length_take]; omega, (g3.trans (g4.trans g5)).mut hD hD5 ob5.loose, es ++ [(keyD (kf d), b, z)], upd_same, ?_⟩
    · rw [List.map_map] at hm
      obtain ⟨d2, hd2, e⟩ := List.mem_map.mp hm
      have e : kf d2 = kf d := e
      obtain ⟨j, hj, ej⟩ := List.getElem_of_mem hd2
      rw [List.length_take] at hj
      rw [List.getElem_take] at ej
      have q := List.pairwise_iff_getElem.mp hnd j i (by rw [List.length_map]; omega) (by rw [List.length_map]; exact hi) (by omega)
      rw [List.getElem_map, List.getElem_map] at q
      have hd' : ds[i] = d := by
        have z := List.getElem?_eq_getElem hi
        rw [hd] at z
        exact (Option.some.inj z).symm
      rw [ej, hd'] at q
      exact q e
    · rw [hnext, List.map_append]
      have t := tk_put (o2 := DctO X.w D (es ++ [(keyD (kf d), b, z)])) hD5 ob5.loose
      exact paired_imp (fun a b ⟨z1, z2, z3, z4, z5⟩ => ⟨z1, z2, z3, DV.keep t z4, DV.keep t z5⟩) (paired_snoc en5 ⟨rfl, dk.ne, dk.dp, dk.dv, r5⟩)
  · obtain ⟨g2, es, hD2, en⟩ := z
    rw [List.take_length] at en
    exact kk D H2 (g1.trans g2) (g1.free D hD) ⟨_, hD2, .inl ⟨X.w, es, hw, rfl, en⟩⟩
theorem s1_setDcN {k : Nat} {scope : Scope} {own : List (Str × Nat)} {E : AE} {i : Nat} {y : Str} {py spos : Pos} (r : Room k X.A) (hw : m.wd = some X.w) (hc : X.calm = true) (hN : X.N.Nodup) (hy : X.N[i]? = some y) (hyl : X.env.scope.names.lookup y = some .local)
    (it : ITC X m ρ tg iter ds) (ok : BlkOk X.N X.env.scope scope own) (hlen : ds.length ≤ 10000) (kf vf : PyData → PyData) (hnd : (ds.map kf).Nodup) (hk : ∀ d ∈ ds, TKey (kf d))
    (h : ∀ d ∈ ds, ∃ is ρ'', (∀ j ∈ is, j ∈ own.map (·.2)) ∧ (Blk X scope fun X' => TGD X' tg is d (wipeA (fzA ρ) (own.map (·.2))) ρ'') ∧ (Blk X scope fun X' => ED X' m ρ'' kx (kf d)) ∧ Blk X scope fun X' => ED X' m ρ'' vx (vf d))
    (q : E.nx (ρ.set i (some (.dct .own (ds.map fun d => (kf d, vf d)))))) (hsw : swapsWith (.DictComp kx vx [⟨tg, iter, [], 0⟩] scope pos) (some (.Name y py)) spos.line X.env = pure true)
    (hf : ∀ x, foldedSetIterable iter X.env x = pure x := by intro _; rfl) : S1 X m ρ (.Assign [.Name y py] (.DictComp kx vx [⟨tg, iter, [], 0⟩] scope pos) spos) E := by
  obtain ⟨wi, hi, hwi⟩ := it
  intro σ H HE H0 S D dd
  refine s1_of (ps_setDcg (O := fun D => DctO X.w D []) (Put := PutN X.K X.w) (wi := wi) (g := gB X scope tg) (tt := tYes) (tk := eB X scope kx) (tv := eB X scope vx) (fun H h hb => dct_empty h hb) (putN_ok r) hc hN hy hyl hsw hi ok (fun s H C cl fp => ⟨fun pins s' σ H' v u Q I r h => h s H C cl fp pins s' u I r⟩) (fun s H C cl fp => pts_nil) (fun s H C cl fp => ⟨fun pins s' σ H' Q I h => h s H C cl fp pins s' I⟩) (fun s H C cl fp => ⟨fun pins s' σ H' Q I h => h s H C cl fp pins s' I⟩) hf)
    (dc_readN r hw S hwi hlen kf vf hnd hk h fun D' H' g hD ⟨o, hD', ob⟩ => dd.nx _ _ H' (S.set (b := .dct .own (ds.map fun d => (kf d, vf d))) g ⟨D', o, rfl, hD, hD', ob⟩ True.intro) q)
end
end W97
end
section
set_option Elab.async false
set_option linter.all false
set_option maxRecDepth 100000
set_option maxHeartbeats 2000000
namespace W97
open PySem PySem.Spec PyProof.Rows L2 PyEnc
/-- a small machine -/
structure OkS (m : Mc) (w : Nat) : Prop where
  ok : Ok m w
  sm : w * m.length < 64
theorem up_few {S : List Nat} {n : Nat} (u : Up S) (h : ∀ s ∈ S, s < n) : S.length ≤ n := by
  have q := nat_nodup_len S (List.range n) (up_nodup u) fun s hs => List.mem_range.mpr (h s hs)
  rwa [List.length_range] at q
theorem ed_min2 {X : Cx} {m : Mo} {ρ : Ab} {a b : Expr} {pos p q : Pos} {i j : Nat} (hc : X.calm = true) (hg : Gl X "min") (hm : X.mg "min" = none) (h1 : ED X m ρ a (enc i)) (h2 : ED X m ρ b (enc j)) (hs : starEach [.List [a, b] q] X.env = (false, eval (.List [a, b] q) X.env) :: starEach [] X.env := by rfl) (hpl : (backTo pos (starEach [] X.env)).any (·.1) = false := by rfl)
    (ha : starEach [a, b] X.env = (false, eval a X.env) :: starEach [b] X.env := by rfl) (hb : starEach [b] X.env = (false, eval b X.env) :: starEach [] X.env := by rfl) : ED X m ρ (.Call (.Name "min" p) [.List [a, b] q] [] pos) (enc (min i j)) :=
  (eq_min (ns := [(i : Int), (j : Int)]) hc hg hm (el_lst (ds := [enc i, enc j]) (ad_cons h1 (ad_cons h2 ad_nil hb) ha) (show 2 ≤ sizeLine by rw [sizeLine_eq]; decide)) (Nat.succ_pos _) hs hpl).mono fun bd ⟨n, e, h1, h2⟩ => by
    rw [e]
    have q1 := h2 _ List.mem_cons_self
    have q2 := h2 (j : Int) (List.mem_cons_of_mem _ List.mem_cons_self)
    have q3 : n = (i : Int) ∨ n = (j : Int) := by simpa using h1
    have : n = ((min i j : Nat) : Int) := by omega
    rw [this]; rfl
theorem afterI_sub {m : Mc} {w : Nat} (k : Ok m w) : ∀ n, Up (afterI m n) ∧ ∀ s ∈ afterI m n, s < m.length
  | 0 => ⟨up_range _, fun s hs => List.mem_range.mp hs⟩
  | n + 1 => by
    refine ⟨up_asSet _, fun s hs => ?_⟩
    rw [show afterI m (n + 1) = nextsOf m (afterI m n) from rfl] at hs
    unfold nextsOf at hs
    rw [mem_asSet, List.mem_flatMap] at hs
    obtain ⟨t, ht, hs⟩ := hs
    obtain ⟨p, hp, e⟩ := List.mem_map.mp hs
    rw [← e]
    exact k.lt _ (st_mem ((afterI_sub k n).2 t ht)) p hp
section
variable {P : Program} {w : World} {K : PySem.W.Frag} {mg : Str → Option Value} {base : Heap}
theorem sc_after_by : FnScope ["machine", "beats", "found", "lap"] ["machine", "beats"] (defScope (topS 7)) := ⟨rfl, rfl, rfl, by decide +kernel, rfl, by decide +kernel, by decide +kernel⟩
theorem f_after_by (E : En K mg) : Fn P w K mg base "after_by" 3 ["machine", "beats"] none false (Fdd fun ds d => ∃ (m : Mc) (wd b : Nat), OkS m wd ∧ ds = [enc m, enc b] ∧ d = enc (afterI m (min b m.length))) := by
  refine mkFn E 6 sc_after_by (by decide) (fun bs R h => by obtain ⟨_, _, rfl, ⟨_, _, _, _, rfl, _⟩, _⟩ := h; rfl) (fun _ _ _ _ _ _ us hl => match us, hl with | [_, _], _ => rfl) fun f cdv A outer s H X fa ca bs R hr hf h => ?_
  obtain ⟨_, _, rfl, ⟨m, wd, b, ⟨ok, sm⟩, rfl, rfl⟩, rfl⟩ := h
  have hml : m.length < 64 := Nat.lt_of_le_of_lt (Nat.le_mul_of_pos_left _ ok.wp) sm
  refine sq_cons (s1_setD (i := 2) (d := enc (afterI m 0)) sc_after_by.nd rfl (.inl rfl) (ed_call (f_all_standings E) (hr.mono (by decide)) rfl rfl (ad_cons (v 0) ad_nil) ⟨m, rfl, by omega, rfl⟩) ?_)
  refine sq_cons (s1_for PassesOwn.never rfl (itl_rg1 (n := min b m.length) rfl E.range_ (ed_min2 (i := b) (j := m.length) rfl rfl E.min_ (v 1) (lenE rfl E.len_ (v 0))) (by omega)) (fun i ρ' => ρ' = [some (.dat (enc m)), some (.dat (enc b)), some (.dat (enc (afterI m i))), none]) rfl ?_ ?_ ?_)
  · rintro ρ' rfl; rfl
  · rintro i d ρ' hd rfl
    refine ⟨[3], _, t1 3 sc_after_by.nd, ?_⟩
    obtain ⟨hu, hs⟩ := afterI_sub ok i
    have hl : wd * (afterI m i).length < 64 := Nat.lt_of_le_of_lt (Nat.mul_le_mul_left _ (up_few hu hs)) sm
    exact sq_cons (s1_setD (i := 2) (d := enc (afterI m (i + 1))) sc_after_by.nd rfl (.inl rfl) (ed_call (f_nexts_of E) hr rfl rfl (ad_cons (v 0) (ad_cons (v 2) ad_nil)) ⟨m, wd, afterI m i, ok, hs, hl, rfl, rfl⟩) (sq_nilF [3] rfl))
  · rintro ρ' rfl
    rw [List.length_map, List.length_range]
    exact sq_cons (s1_retD (v 2) rfl)
end
end W97
end
section
set_option Elab.async false
set_option linter.all false
set_option maxRecDepth 100000
set_option maxHeartbeats 2000000
namespace W97
open PySem PySem.Spec PyProof.Rows L2 PyEnc
theorem entsI_none {K : PySem.W.Frag} {H : Hp} {k : Int} : ∀ {es : List (Key × V)} {kvs : List (PyData × PyData)}, EntsI K H es kvs → .int k ∉ kvs.map (·.1) → valV es (.inl k) = none
  | _, _, .nil, _ => rfl
  | _, _, @Paired.cons _ _ _ e kv es kvs a t, n => by
    obtain ⟨⟨i, e1, e2⟩, _⟩ := a
    rw [List.map_cons, List.mem_cons, not_or] at n
    rw [valV_neg (fun z => n.1 (by rw [e2]; rw [e1] at z; injection z with z; rw [z]))]
    exact entsI_none t n.2
theorem entsI_some {K : PySem.W.Frag} {H : Hp} {k : Int} {dv : PyData} : ∀ {es : List (Key × V)} {kvs : List (PyData × PyData)}, EntsI K H es kvs → (kvs.map (·.1)).Nodup → (.int k, dv) ∈ kvs → ∃ v, valV es (.inl k) = some v ∧ DV K H v dv
  | _, _, .nil, _, m => by cases m
  | _, _, @Paired.cons _ _ _ e kv es kvs a t, n, m => by
    obtain ⟨⟨i, e1, e2⟩, hv⟩ := a
    rw [List.map_cons, List.nodup_cons] at n
    rcases List.mem_cons.mp m with z | z
    · have z1 : kv.1 = .int k := by rw [← z]
      have z2 : kv.2 = dv := by rw [← z]
      rw [e2] at z1
      injection z1 with z1
      exact ⟨e.2, valV_pos (by rw [e1, z1]), by rw [← z2]; exact hv⟩
    · have ne : e.1 ≠ .inl k := fun q => n.1 (by
        rw [e1] at q
        injection q with q
        rw [e2, q]
        exact List.mem_map.mpr ⟨_, z, rfl⟩)
      obtain ⟨v, h1, h2⟩ := entsI_some t n.2 z
      exact ⟨v, by rw [valV_neg ne]; exact h1, h2⟩
theorem EntsI.keep {K : PySem.W.Frag} {H H' : Hp} {es : List (Key × V)} {kvs : List (PyData × PyData)} (en : EntsI K H es kvs) (t : TK H H') : EntsI K H' es kvs := paired_imp (fun a b ⟨z1, z2⟩ => ⟨z1, DV.keep t z2⟩) en
section
variable {X : Cx} {m : Mo} {HE H0 H H1 H2 : Hp} {ρ ρ' ρ'' : Ab} {σ : L2.St} {kx vx tg iter b : Expr} {pos p px : Pos} {ds : List PyData}
theorem loose_dK {p : Addr} {es : List (Key × V)} : Loose p (.dK es) := ⟨(fun _ z => by cases z), (fun _ z => by unfold LamX.CodeO at z; cases z), (fun _ z => by cases z), (fun _ _ z => by cases z), (fun _ z => by unfold NdefX.FnO at z; cases z)⟩
theorem eq_dcI {scope : Scope} (own : List (Str × Nat)) (hc : X.calm = true) (hN : X.N.Nodup) (it : ITC X m ρ tg iter ds) (ok : BlkOk X.N X.env.scope scope own) (hne : ds ≠ []) (hlen : ds.length ≤ 10000) {kf : PyData → Int} {vf : PyData → PyData} (hnd : (ds.map kf).Nodup)
    (h : ∀ d ∈ ds, ∃ is ρ'', (∀ j ∈ is, j ∈ own.map (·.2)) ∧ (Blk X scope fun X' => TGD X' tg is d (wipeA (fzA ρ) (own.map (·.2))) ρ'') ∧ (Blk X scope fun X' => ED X' m ρ'' kx (.int (kf d))) ∧ Blk X scope fun X' => ED X' m ρ'' vx (vf d))
    (hf : ∀ x, foldedSetIterable iter X.env x = pure x := by intro _; rfl) : EQ X m ρ (.DictComp kx vx [⟨tg, iter, [], 0⟩] scope pos) (· = .dct .own (ds.map fun d => (.int (kf d), vf d))) := by
  obtain ⟨wi, hi, hwi⟩ := it
  intro σ H HE H0 S Qv kk
  refine ew_of (pe_dcg (O := fun _ => .dK []) (Put := PutI) (wi := wi) (g := gB X scope tg) (tt := tYes) (tk := eB X scope kx) (tv := eB X scope vx) (fun H h hb => dk_empty h hb) putI_ok hc hN hi ok (fun s H C cl fp => ⟨fun pins s' σ H' v u Q I r h => h s H C cl fp pins s' u I r⟩) (fun s H C cl fp => pts_nil) (fun s H C cl fp => ⟨fun pins s' σ H' Q I h => h s H C cl fp pins s' I⟩) (fun s H C cl fp => ⟨fun pins s' σ H' Q I h => h s H C cl fp pins s' I⟩) hf)
    (hwi σ H HE H0 S _ fun J H1 g1 w D hD => ?_)
  have S1 := S.go g1
  have SB := S1.blk (own.map (·.2))
  refine dc_walk (O := fun _ => .dK []) w (fun i H2 => Gr m H1 H2 ∧ ∃ es, H2 D = some (.dK es) ∧ EntsI X.K H2 es ((ds.take i).map fun d => (.int (kf d), vf d))) ⟨Gr.new hD, [], upd_same, .nil⟩ (fun i H2 z => z.1.tl S1.fe1) (fun i x H2 H3 hi z y => ?_) fun H2 z => ?_
  · obtain ⟨g2, es, hD2, en⟩ := z
    obtain ⟨d, hd, kp, dx⟩ := y
    have g3 : Gr m H1 H3 := g2.trans (Gr.same kp)
    have tk3 : TK H2 H3 := (Gr.same (m := {}) kp).tk fun a e => by cases e
    obtain ⟨is, ρ'', hsub, ht, hkx, hvx⟩ := h d (List.mem_of_getElem? hd)
    intro s' H' C cl fp
    refine ht s' H' C cl fp m HE H1 _ H3 (SB.go g3) x dx _ fun σ2 S2 hw2 => ⟨by rw [hw2 _ hsub, wipe_idem], ?_⟩
    have f3 := S1.fe1.go g3
    intro s2 H2' C2 cl2 fp2
    refine ew_then (hkx s2 H2' C2 cl2 fp2) S2 fun y b1 H4 g4 S4 r4 e4 => ?_
    subst e4
    intro s3 H3' C3 cl3 fp3
    refine ew_then (hvx s3 H3' C3 cl3 fp3) S4 fun z b2 H5 g5 S5 r5 e5 => ?_
    subst e5
    have g45 := g4.trans g5
    have en5 := (en.keep tk3).keep (g45.tk f3)
    -- the dict is no feed
    have hfa : m.fa ≠ some D := fun z => by
      obtain ⟨_, _, _, _, q, _⟩ := S1.fe1 D z
      rw [hD] at q
      cases q
    have hD5 : H5 D = some (.dK es) := g45.keep D _ (kp _ _ hD2) (.inr fun ps e => by cases e) hfa
    have hnew : PyData.int (kf d) ∉ ((ds.take i).map fun d => (PyData.int (kf d), vf d)).map (·.1) := fun hm => by
      rw [List.map_map] at hm
      obtain ⟨d2, hd2, e⟩ := List.mem_map.mp hm
      injection (show PyData.int (kf d2) = .int (kf d) from e) with e
      obtain ⟨j, hj, ej⟩ := List.getElem_of_mem hd2
      rw [List.length_take] at hj
      rw [List.getElem_take] at ej
      have q := List.pairwise_iff_getElem.mp hnd j i (by rw [List.length_map]; omega) (by rw [List.length_map]; exact hi) (by omega)
      rw [List.getElem_map, List.getElem_map] at q
      have hd' : ds[i] = d := by
        have z := List.getElem?_eq_getElem hi
        rw [hd] at z
        exact (Option.some.inj z).symm
      rw [ej, hd'] at q
      exact q e
    have hl : es.length < sizeLine := by
      rw [paired_len en, List.length_map, List.length_take, sizeLine_eq]
      omega
    refine ⟨es, .inl (kf d), DV.int_eq (DV.keep (g5.tk S4.fe1) r4), hD5, hl, (g3.trans g45).mut hD hD5 loose_dK, es ++ [(.inl (kf d), z)], ?_, ?_⟩
    · rw [L2.putK_new z (entsI_none en5 hnew)]
      exact upd_same
    · rw [take_next hd, List.map_append]
      have t := tk_put (o2 := .dK (L2.putK es (.inl (kf d)) z)) hD5 loose_dK
      exact (EntsI.keep (paired_snoc en5 ⟨⟨kf d, rfl, rfl⟩, r5⟩) t)
  · obtain ⟨g2, es, hD2, en⟩ := z
    rw [List.take_length] at en
    refine kk _ (.dct .own (ds.map fun d => (.int (kf d), vf d))) H2 (g1.trans g2) ⟨D, _, rfl, g1.free D hD, hD2, .inr ⟨es, rfl, en, fun e => hne (List.map_eq_nil_iff.mp e)⟩⟩ rfl
/-- d[i], d a dict with int keys -/
theorem ed_dgetI {x : Str} {i k : Nat} {lk : LK} {kvs : List (PyData × PyData)} {n : Int} {dv : PyData} (r : Room k X.A) (hk : lk ≠ .par) (hi : ρ[i]? = some (some (.dct lk kvs))) (hN : X.N[i]? = some x) (hv : Vis X.env.scope x) (hnd : (kvs.map (·.1)).Nodup) (hm : (.int n, dv) ∈ kvs) (h : ED X m ρ b (.int n)) (hs : NoSl b)
    (hd : (x == ("__debug__" : Str)) = false := by decide) (hcd : (x == ("__classdict__" : Str)) = false := by decide) : ED X m ρ (.Subscript (.Name x px) b pos) dv := by
  intro σ H HE H0 S Qv kk
  obtain ⟨p, o, hσ, hp, hh⟩ := slotD S hk hi
  refine ew_of (pe_dget (by have := r.un; omega) (pe_var hN hv hd hcd) (pe_ew X b) hs) ⟨_, hσ, ew_then h S fun u b1 H1 g1 S1 r1 e1 => ?_⟩
  subst e1
  obtain ⟨hp1, hh1⟩ := g1.dobj S.fe1 hp hh
  rcases hh1 with ⟨w, es, _, _, en⟩ | ⟨es, e, en, _⟩
  · exfalso
    obtain ⟨j, hj⟩ := List.mem_iff_getElem?.mp hm
    obtain ⟨e, _, _, _, _, dd, _⟩ := paired_at en hj
    cases dd
  · subst e
    obtain ⟨v, h1, h2⟩ := entsI_some en hnd hm
    exact ⟨p, v, rfl, .inl ⟨es, .inl n, .inl hp1, DV.int_eq r1, h1.symm⟩, kk v (.dat dv) H1 g1 h2 rfl⟩
end
end W97
end
section
set_option Elab.async false
set_option linter.all false
set_option maxRecDepth 100000
set_option maxHeartbeats 2000000
namespace W97
open PySem PySem.Spec PyProof.Rows L2 PyEnc
def sndI : PyData → Int
  | .tuple [_, .int j] => j
  | _ => 0
def fstD : PyData → PyData
  | .tuple [i, _] => i
  | _ => .none
theorem enD_snd : ∀ (o : List Nat) (i : Nat), (enD i (o.map enc)).map sndI = zi o
  | [], _ => rfl
  | t :: o, i => by
    show sndI (.tuple [.int i, enc t]) :: (enD (i + 1) (o.map enc)).map sndI = _
    rw [enD_snd o (i + 1)]; rfl
def spotsOf (o : List Nat) : List (PyData × PyData) := (enD 0 (o.map enc)).map fun d => (.int (sndI d), fstD d)
theorem zi_nodup {o : List Nat} (h : o.Nodup) : (zi o).Nodup := List.pairwise_map.mpr (h.imp fun hne e => hne (Int.ofNat_inj.mp e))
theorem spots_keys {o : List Nat} (h : o.Nodup) : ((spotsOf o).map (·.1)).Nodup := by
  unfold spotsOf
  rw [List.map_map]
  have e : ((fun x : PyData × PyData => x.1) ∘ fun d => (PyData.int (sndI d), fstD d)) = fun d => PyData.int (sndI d) := rfl
  rw [e, show (fun d => PyData.int (sndI d)) = PyData.int ∘ sndI from rfl, ← List.map_map, enD_snd]
  exact List.pairwise_map.mpr ((zi_nodup h).imp fun hne e => hne (by injection e))
theorem spots_mem {o : List Nat} {t : Nat} (h : t ∈ o) : (PyData.int t, PyData.int (o.idxOf t : Nat)) ∈ spotsOf o := by
  have hj : o.idxOf t < o.length := List.idxOf_lt_length_of_mem h
  have hg : o[o.idxOf t]? = some t := by
    rw [List.getElem?_eq_getElem hj, List.getElem_idxOf hj]
  refine List.mem_map.mpr ⟨.tuple [.int (o.idxOf t : Nat), enc t], List.mem_of_getElem? (i := o.idxOf t) ?_, rfl⟩
  rw [enD_get, List.getElem?_map, hg, Nat.zero_add]; rfl
section
variable {P : Program} {w : World} {K : PySem.W.Frag} {mg : Str → Option Value} {base : Heap}
/-- order: standings that lead to no others -/
structure Closed (m : Mc) (o : List Nat) : Prop where
  ne : o ≠ []
  nd : o.Nodup
  lt : ∀ t ∈ o, t < m.length
  cl : ∀ t ∈ o, ∀ p ∈ st m t, p.1 ∈ o
def FpartBy : List Bd → (Bd → Prop) → Prop := fun bs R => ∃ (m : Mc) (wd : Nat) (o : List Nat), OkS m wd ∧ Closed m o ∧ bs = [.dat (enc m), .lst .par (o.map enc)] ∧ R = (· = .dat (enc (partBy m o)))
theorem sc_part_by : FnScope ["machine", "standings", "spots", "old", "k", "late", "answer"] ["machine", "standings"] (defScope (topS 8)) := ⟨rfl, rfl, rfl, by decide +kernel, rfl, by decide +kernel, by decide +kernel⟩
theorem f_part_by (E : En K mg) : Fn P w K mg base "part_by" 1 ["machine", "standings"] none false FpartBy := by
  refine mkFn E 7 sc_part_by (by decide) (fun bs R h => by obtain ⟨_, _, _, _, _, rfl, _⟩ := h; rfl) (fun _ _ _ _ _ _ us hl => match us, hl with | [_, _], _ => rfl) fun f cdv A outer s H X fa ca bs R hr hf h => ?_
  obtain ⟨m, wd, o, ⟨ok, sm⟩, co, rfl, rfl⟩ := h
  have hml : m.length < 64 := Nat.lt_of_le_of_lt (Nat.le_mul_of_pos_left _ ok.wp) sm
  have hol : o.length ≤ m.length := by
    have q := nat_nodup_len o (List.range m.length) co.nd fun s hs => List.mem_range.mpr (co.lt s hs)
    rwa [List.length_range] at q
  have hne : enD 0 (o.map (enc : Nat → PyData)) ≠ [] := fun e => co.ne (by
    have q := congrArg List.length e
    rw [enD_len, List.length_map] at q
    exact List.eq_nil_of_length_eq_zero q)
  refine sq_cons (s1_setB (i := 2) (bd := .dct .own ((enD 0 (o.map enc)).map fun d => (.int (sndI d), fstD d))) sc_part_by.nd rfl (.inr rfl) ?_ ?_)
  · refine eq_dcI (kf := sndI) (vf := fstD) (ds := enD 0 (o.map enc)) [("k", 4), ("old", 3)] rfl sc_part_by.nd ?it (blkOk_by (by kernel_rfl)) hne (by rw [enD_len, List.length_map]; omega) (by rw [enD_snd]; exact zi_nodup co.nd) (fun d hd => ?_)
    case it => exact itc_enumL rfl E.enumerate_ (vl 1)
    obtain ⟨j, hj⟩ := List.mem_iff_getElem?.mp hd
    rw [enD_get, List.getElem?_map] at hj
    obtain ⟨y, h1, h2⟩ := Option.map_eq_some_iff.mp hj
    obtain ⟨t, _, h3⟩ := Option.map_eq_some_iff.mp h1
    subst h2 h3
    exact ⟨[4, 3], _, by decide, fun _ _ _ _ _ => t2 4 3 rfl sc_part_by.nd, fun _ _ _ _ _ => v 3, fun _ _ _ _ _ => v 4⟩
  refine sq_cons (s1_retD (d := enc (partBy m o)) (ed_tuple rfl E.tuple_ (EQ.itemsL (el_mapE (l := o) (g := fun t => (st m t).map fun p => (o.idxOf p.1, p.2)) [("old", 3)] rfl sc_part_by.nd (itc_lst (vl 1)) (blkOk_by (by kernel_rfl)) (by omega) fun t ht =>
    ⟨[3], _, by decide, fun _ _ _ _ _ => t1 3 sc_part_by.nd, fun _ _ _ _ _ => ?_⟩))) rfl)
  have wl : wd < 64 := Nat.lt_of_le_of_lt (Nat.le_mul_of_pos_right _ ok.ne) sm
  refine ed_tuple rfl E.tuple_ (EQ.itemsL (el_mapE (l := st m t) (g := fun p => (o.idxOf p.1, p.2)) [("late", 5), ("answer", 6)] rfl sc_part_by.nd (itc_tup (ds := (st m t).map enc) (ixE (v 0) (v 3) (st_at (co.lt t ht)))) (blkOk_by (by kernel_rfl)) (by rw [ok.wst (co.lt t ht)]; omega) fun p hp =>
      ⟨[5, 6], _, by decide, fun _ _ _ _ _ => t2 5 6 rfl sc_part_by.nd, fun _ _ _ _ _ => ?_⟩))
  exact prE (x := o.idxOf p.1) (y := p.2) (ed_dgetI (kvs := spotsOf o) (i := 2) (lk := .fz) (n := (p.1 : Int)) hr (by intro z; cases z) (by rfl) (by rfl) (by first | exact .inl rfl | exact .inr (.inl rfl) | exact .inr (.inr rfl)) (spots_keys co.nd) (spots_mem (co.cl t ht p hp)) (v 5) (by intro _ _; rfl)) (v 6)
end
end W97
end
section
set_option Elab.async false
set_option linter.all false
set_option maxRecDepth 100000
set_option maxHeartbeats 2000000
namespace W97
open PySem PySem.Spec PyProof.Rows L2 PyEnc
/-! ### tuples that are known to have no dict of their own: their methods may be called -/
def FT (K : PySem.W.Frag) (ds : List PyData) : Hp → V → Prop := fun H v => ∃ (a : Addr) (o : Obj) (xs : List V), v = .ref a ∧ H a = some (.frz o (.tup xs)) ∧ o.dict = none ∧ DVs K H xs ds
theorem FT.pin {K : PySem.W.Frag} {ds : List PyData} : Pinned (FT K ds) := fun _ _ _ t ⟨a, o, xs, e, h1, h2, h3⟩ => ⟨a, o, xs, e, t _ _ h1 .frz, h2, h3.keep t⟩
abbrev Bd.ft (K : PySem.W.Frag) (ds : List PyData) : Bd := .pr (FT K ds) FT.pin
theorem FT.dv {K : PySem.W.Frag} {ds : List PyData} {H : Hp} {v : V} (h : FT K ds H v) : DV K H v (.tuple ds) := by
  obtain ⟨a, o, xs, e, h1, _, h3⟩ := h
  rw [e]
  exact .tup (.inl (.inr ⟨o, h1⟩)) h3
section
variable {X : Cx} {m : Mo} {HE H0 H H1 : Hp} {ρ : Ab} {σ : L2.St} {a b c e o : Expr} {es : List Expr} {pos p apos cpos : Pos} {ds : List PyData}
theorem ed_ft (h : EQ X m ρ e (· = .ft X.K ds)) : ED X m ρ e (.tuple ds) := fun σ H HE H0 S Qv k => h σ H HE H0 S Qv fun v b H' g r q => k v (.dat (.tuple ds)) H' g (by subst q; exact FT.dv r) rfl
theorem vp (i : Nat) {x : Str} {P : Hp → V → Prop} {k : Pinned P} (hi : ρ[i]? = some (some (.pr P k)) := by rfl) (hN : X.N[i]? = some x := by rfl) (hv : Vis X.env.scope x := by first | exact .inl rfl | exact .inr (.inl rfl) | exact .inr (.inr rfl))
    (hd : (x == ("__debug__" : Str)) = false := by decide) (hcd : (x == ("__classdict__" : Str)) = false := by decide) : EQ X m ρ (.Name x pos) (· = .pr P k) := eq_var hi hN hv rfl hd hcd
/-- tuple(list): a new tuple, known whole -/
theorem cr_tupF : CallR X (.type "tuple") (fun xs H Q => ∃ q ys, xs = [.ref q] ∧ SqL X.K H q ys ∧ ∀ (l : Addr) (ob : Obj), H l = none → ob.dict = none → Q (.ref l) (upd H l (.frz ob (.tup ys)))) := by
  intro pins st σ H xs us Q J rel h
  obtain ⟨q, ys, rfl, hl, fin⟩ := h
  obtain ⟨u, rfl, ru⟩ := vals1 rel
  cases ru
  obtain ⟨its, rv, pl, bd⟩ := J.list hl
  have many := rv.length
  refine call_tuple_list pl.isList (fun h2 kp => ?_) (by simp only [List.size_toArray] <;> omega)
  have J1 : Inv X pins σ H { st with heap := h2 } := J.kept (t' := st.toks) kp
  generalize eo : ({ cls := .type "tuple", data := .seq its.toArray } : Obj) = ob
  have at_ : (h2.push ob).get? h2.objs.size = some ob := Heap.get?_push_size _ (by rw [← eo]; rfl)
  have J2 : Inv X pins σ (upd H h2.objs.size (.frz ob (.tup ys))) { st with heap := h2.push ob } :=
    J1.laid (t' := st.toks) (fun b o e => Heap.get?_push_of_some _ e) (Nat.le_refl _) ⟨at_, bd, its, rv, ob, at_, by rw [← eo], ⟨0, by rw [← eo]⟩⟩
  exact ⟨.ref h2.objs.size, _, J2, rfl, fin _ _ (J1.hok.fresh (Nat.le_refl _)) (by rw [← eo])⟩
theorem eq_tupleF {k : LK} (hg : Gl X "tuple") (hm : X.mg "tuple" = none) (h : EQ X m ρ a (· = .lst k ds)) (hs : starEach [a] X.env = (false, eval a X.env) :: starEach [] X.env := by rfl) (hpl : (backTo pos (starEach [] X.env)).any (·.1) = false := by rfl) : EQ X m ρ (.Call (.Name "tuple" p) [a] [] pos) (· = .ft X.K ds) :=
  eq_cb (pe_callTy cr_tupF hg hm (by decide +kernel) (pa_aw X [a]) (he := hs) (hpl := hpl)) (aq_cons (h.mono fun b hb => aq_nil (by
    subst hb
    intro Ha H vs f r Qv k
    cases r with
    | cons r1 r2 =>
      cases r2
      obtain ⟨p, xs, e, h1, h2⟩ := hr_lst r1
      exact ⟨p, xs, by rw [e], h1, fun l ob hl hd => k _ (.ft X.K ds) _ (Gr.new hl) ⟨l, ob, xs, rfl, upd_same, hd, h2.keep ((Gr.new (m := m) hl).tk f)⟩ rfl⟩)) hs)
/-- t.m(..), t such a tuple -/
theorem pe_bmT {to : TE} {t : TA} {r : V → List V → Hp → VK → Prop} {name : Str} {id : String} (sl : Slot "tuple" name id) (ty : typeOf (.builtin id) = pure (.type "method_descriptor")) (mt : MtR X id r) (po : PE X o to) (pa : PA X (e :: es) t)
    (bs : attributeBase o name X.env (eval o X.env) = eval o X.env := by rfl)
    (few : ((backTo cpos (starEach (e :: es) X.env)).all (fun x => !x.1) && (backToKw cpos (keywordEach [] X.env)).all (fun x => x.1.isSome) && decide ((e :: es).length + ([] : List Keyword).length + (if ([] : List Keyword).isEmpty then 0 else 1) < 30)) = true := by rfl)
    (ln : (apos.endLine == cpos.line) = true := by rfl) (hs : starEach (e :: es) X.env = (false, eval e X.env) :: starEach es X.env := by rfl) (np : (backTo cpos (starEach es X.env)).any (·.1) = false := by rfl) :
    PE X (.Call (.Attribute o name apos) (e :: es) [] cpos) (fun σ H Q => to σ H fun x H1 => (∃ (l : Addr) (ob : Obj) (xs : List V), x = .ref l ∧ H1 l = some (.frz ob (.tup xs)) ∧ ob.dict = none) ∧ t σ H1 fun xs H2 => r x xs H2 Q) := by
  refine ⟨fun pins s σ H Q J h => ?_⟩
  refine wpAny_Call_method_late bs few ln rfl (thn (po.run pins s σ H _ J h) fun v s1 ⟨x, H1, J1, r1, ⟨l, ob, xs, ex, hl, hd⟩, q1⟩ => ?_)
  subst ex
  cases r1
  have okl := J1.hok l _ hl
  have g1 : s1.heap.get? l = some ob := okl.1
  obtain ⟨_, its, rv, ⟨ob2, g2, cl, n, dt⟩⟩ : xs.length ≤ sizeLine ∧ ∃ its : List Value, Vals xs its ∧ IsTup s1.heap l its.toArray := okl.2
  refine ⟨"tuple", id, PySem.F.plainAttrs_tuple, sl, ty, ⟨ob2, g2, cl⟩, fun a ea => ?_, ?_⟩
  · cases ea
    exact ⟨ob, g1, hd⟩
  · have ar := pa.run cpos pins s1 σ H1 _ J1 q1
    rw [hs] at ar ⊢
    refine Calls.callWith_builtin (by show (false || (backTo cpos (starEach es X.env)).any (·.1)) = false; rw [np] <;> rfl) (Calls.evalArgs_plain ?_)
    exact thn ar fun us s2 ⟨vs, H2, J2, r2, q2⟩ => mt pins s2 σ H2 (.ref l) vs (.ref l) us Q J2 (show L2.RelV (.ref l) (.ref l) from rfl) r2 q2
theorem intsAre_of : ∀ {ns : List Int} {us : List Value}, Vals (ns.map V.int) us → IntsAre us ns
  | [], _, h => by cases h; exact .nil
  | n :: ns, _, h => by
    cases h with
    | cons r t =>
      obtain ⟨tk, rfl⟩ := r
      exact .cons n tk (intsAre_of t)
theorem mt_tupI : MtR X "tuple.index" (fun x xs H Q => ∃ (q : Addr) (ns : List Int) (z : Int), x = .ref q ∧ xs = [.int z] ∧ SqT X.K H q (ns.map V.int) ∧ z ∈ ns ∧ Q (.int (ns.idxOf z : Nat)) H) := by
  intro pins s σ H x xs v us Q J rx rs h
  obtain ⟨q, ns, z, rfl, rfl, hq, hz, fin⟩ := h
  cases rx
  obtain ⟨u, rfl, tk, rfl⟩ := vals1 rs
  obtain ⟨its, rv, pl, _⟩ := J.tuple hq
  exact SeqAt.tuple_index_ints pl (intsAre_of rv) hz ⟨.int (ns.idxOf z : Nat), H, J.tok _, ⟨_, rfl⟩, fin⟩
theorem idx_zi (l : List Nat) (x : Nat) : (l.map fun n : Nat => (n : Int)).idxOf (x : Int) = l.idxOf x := by
  induction l with
  | nil => rfl
  | cons y l ih =>
    rw [List.map_cons, List.idxOf_cons, List.idxOf_cons, ih]
    have e : ((y : Int) == (x : Int)) = (y == x) := by
      rw [Bool.eq_iff_iff, beq_iff_eq, beq_iff_eq]
      exact Int.ofNat_inj
    rw [e]
/-- t.index(x) -/
theorem ed_tupIx {l : List Nat} {x : Nat} (h1 : EQ X m ρ o (· = .ft X.K (l.map enc))) (h2 : ED X m ρ e (enc x)) (hx : x ∈ l)
    (bs : attributeBase o "index" X.env (eval o X.env) = eval o X.env := by rfl)
    (few : ((backTo cpos (starEach [e] X.env)).all (fun x => !x.1) && (backToKw cpos (keywordEach [] X.env)).all (fun x => x.1.isSome) && decide ([e].length + ([] : List Keyword).length + (if ([] : List Keyword).isEmpty then 0 else 1) < 30)) = true := by rfl)
    (ln : (apos.endLine == cpos.line) = true := by rfl) (hs : starEach [e] X.env = (false, eval e X.env) :: starEach [] X.env := by rfl) (np : (backTo cpos (starEach [] X.env)).any (·.1) = false := by rfl) :
    ED X m ρ (.Call (.Attribute o "index" apos) [e] [] cpos) (enc (l.idxOf x)) := by
  intro σ H HE H0 S Qv kk
  refine ew_of (pe_bmT PySem.F.slot_tuple_index PySem.F.type_tuple_index mt_tupI (pe_ew X o) (pa_cons (pe_ew X e) pa_nil hs) bs few ln hs np) (ew_then h1 S fun v bd H1 g1 S1 r1 e1 => ?_)
  subst e1
  obtain ⟨a, ob, xs, ev, ha, hd, dv⟩ := r1
  refine ⟨⟨a, ob, xs, ev, ha, hd⟩, ew_then h2 S1 fun u b2 H2 g2 S2 r2 e2 => ?_⟩
  subst e2
  have ex : xs = (l.map fun n : Nat => (n : Int)).map V.int := by
    refine DVs.of_ints (H := H1) (K := X.K) ?_
    rw [List.map_map]
    exact dv
  rw [ex] at ha
  have ha2 := g2.tk S1.fe1 _ _ ha .frz
  refine ⟨a, l.map fun n : Nat => (n : Int), x, ev, by rw [DV.int_eq r2], .inl (.inr ⟨ob, ha2⟩), List.mem_map.mpr ⟨x, hx, rfl⟩, ?_⟩
  rw [idx_zi]
  exact kk _ (.dat (enc (l.idxOf x))) H2 (g1.trans g2) (.int _) rfl
/-- l.index(x), l a list of data of a kind -/
theorem ed_lstIx {α : Type} [DecidableEq α] [PyEnc α] {l : List α} {x : α} {k : Nat} {lk : LK} (r : Room k X.A) (h1 : EQ X m ρ o (· = .lst lk (l.map enc))) (h2 : ED X m ρ e (enc x)) (hx : x ∈ l) (hd : PyEnc.dep α ≤ 63 := by decide)
    (bs : attributeBase o "index" X.env (eval o X.env) = eval o X.env := by rfl)
    (few : ((backTo cpos (starEach [e] X.env)).all (fun x => !x.1) && (backToKw cpos (keywordEach [] X.env)).all (fun x => x.1.isSome) && decide ([e].length + ([] : List Keyword).length + (if ([] : List Keyword).isEmpty then 0 else 1) < 30)) = true := by rfl)
    (ln : (apos.endLine == cpos.line) = true := by rfl) (hs : starEach [e] X.env = (false, eval e X.env) :: starEach [] X.env := by rfl) (np : (backTo cpos (starEach [] X.env)).any (·.1) = false := by rfl) :
    ED X m ρ (.Call (.Attribute o "index" apos) [e] [] cpos) (enc (l.idxOf x)) := by
  intro σ H HE H0 S Qv kk
  refine ew_of (pe_bm PySem.F.plainAttrs_list PySem.F.slot_list_index PySem.F.type_list_index (mt_indexD (units65 r)) (pe_ew X o) (pa_cons (pe_ew X e) pa_nil hs) bs few ln hs np) (ew_then h1 S fun v bd H1 g1 S1 r1 e1 => ?_)
  subst e1
  obtain ⟨a, xs, ev, ha, dv⟩ := hr_lst r1
  refine ⟨?_, ew_then h2 S1 fun u b2 H2 g2 S2 r2 e2 => ?_⟩
  · rw [ev]
    exact .inl ⟨rfl, xs, ha⟩
  subst e2
  have hj : l.idxOf x < l.length := List.idxOf_lt_length_of_mem hx
  refine ⟨a, u, enc x, l.map enc, l.idxOf x, enc x, ev, rfl, .lst (g2.sql S1.fe1 ha) (dv.keep (g2.tk S1.fe1)).dp, DV.dp r2, shaped_list hd, shaped_enc (by omega), ?_, ?_, fun i z' hi hz => ?_, kk _ (.dat (enc (l.idxOf x))) H2 (g1.trans g2) (.int _) rfl⟩
  · rw [List.getElem?_map, List.getElem?_eq_getElem hj, List.getElem_idxOf hj]; rfl
  · rw [PyEnc.eqv]
    exact decide_eq_true rfl
  · rw [List.getElem?_map] at hz
    obtain ⟨y, hy, rfl⟩ := Option.map_eq_some_iff.mp hz
    rw [PyEnc.eqv]
    refine decide_eq_false fun e => ?_
    obtain ⟨hil, hyi⟩ := List.getElem?_eq_some_iff.mp hy
    have z := List.not_of_lt_findIdx (p := (· == x)) (xs := l) hi
    rw [hyi, e] at z
    simp at z
/-- a call on one datum, whatever it gives -/
theorem eq_callM {x : Str} {k : Nat} {ps : List Str} {Fs : List Bd → (Bd → Prop) → Prop} {d : PyData} {R : Bd → Prop} (F : Fn X.prog X.w X.K X.mg X.base x k ps none false Fs) (hr' : Room k X.A) (hg : Gl X x) (hw : m.wd = some X.w) (h : ED X m ρ e d) (hf : Fs [.dat d] R) (hdb : (x == ("__debug__" : Str)) = false := by decide)
    (he : starEach [e] X.env = (false, eval e X.env) :: starEach [] X.env := by rfl) (hpl : (backTo pos (starEach [] X.env)).any (·.1) = false := by rfl) : EQ X m ρ (.Call (.Name x p) [e] [] pos) R :=
  eq_call F hr' hg hw (.inl rfl) (aq_cons (h.mono fun b eb => aq_nil ⟨(fun _ c hc z => by
    rw [List.mem_singleton.mp hc, eb] at z; cases z), [.dat d], _, by subst eb; rfl, hf, fun b h => h⟩) he) hdb he hpl
end
end W97
end
section
set_option Elab.async false
set_option linter.all false
set_option maxRecDepth 100000
set_option maxHeartbeats 2000000
namespace W97
open PySem PySem.Spec PyProof.Rows L2 PyEnc
section
variable {α : Type} [DecidableEq α] [PyEnc α]
theorem enc_inj {a b : α} (h : enc a = enc b) : a = b := by
  have q : PyData.eqv (enc a) (enc b) = PyData.eqv (enc a) (enc a) := by rw [h]
  rw [PyEnc.eqv, PyEnc.eqv, decide_eq_true (rfl : a = a)] at q
  exact of_decide_eq_true q
def fD : Nat → List α → List (PyData × PyData)
  | _, [] => []
  | i, x :: xs => (enc x, .int (i : Nat)) :: fD (i + 1) xs
theorem fD_snoc : ∀ (xs : List α) (i : Nat) (x : α), fD i (xs ++ [x]) = fD i xs ++ [(enc x, .int ((i + xs.length : Nat) : Int))]
  | [], i, x => rfl
  | y :: xs, i, x => by
    show (enc y, PyData.int i) :: fD (i + 1) (xs ++ [x]) = _
    rw [fD_snoc xs (i + 1) x, List.length_cons, show i + 1 + xs.length = i + (xs.length + 1) by omega]; rfl
theorem fD_keys : ∀ (xs : List α) (i : Nat), (fD i xs).map (·.1) = xs.map enc
  | [], _ => rfl
  | _ :: xs, i => congrArg _ (fD_keys xs (i + 1))
theorem fD_len (xs : List α) (i : Nat) : (fD i xs).length = xs.length := by
  have q := congrArg List.length (fD_keys xs i)
  rwa [List.length_map, List.length_map] at q
theorem fD_mem : ∀ (xs : List α) (i : Nat) (x : α), x ∈ xs → (enc x, PyData.int ((i + xs.idxOf x : Nat) : Int)) ∈ fD i xs
  | y :: xs, i, x, h => by
    by_cases e : y = x
    · subst e
      rw [List.idxOf_cons_self]
      exact List.mem_cons_self
    · have h' : x ∈ xs := (List.mem_cons.mp h).resolve_left fun z => e z.symm
      rw [show (y :: xs).idxOf x = xs.idxOf x + 1 by rw [List.idxOf_cons, beq_eq_false_iff_ne.mpr e]; rfl]
      have q := fD_mem xs (i + 1) x h'
      rw [show i + 1 + xs.idxOf x = i + (xs.idxOf x + 1) by omega] at q
      exact List.mem_cons_of_mem _ q
theorem fD_tup (hk : ∀ x : α, TKey (enc x)) (xs : List α) (i : Nat) : TupKeys (fD i xs) := fun kv h => by
  have q : kv.1 ∈ (fD i xs).map (·.1) := List.mem_map.mpr ⟨kv, h, rfl⟩
  rw [fD_keys] at q
  obtain ⟨x, _, e⟩ := List.mem_map.mp q
  rw [← e]
  exact (hk x).tup
theorem fD_in {xs : List α} {i : Nat} {x : α} : decide (x ∈ xs) = true ↔ enc x ∈ (fD i xs).map (·.1) := by
  rw [fD_keys, List.mem_map, decide_eq_true_eq]
  exact ⟨fun h => ⟨x, h, rfl⟩, fun ⟨y, h, e⟩ => enc_inj e ▸ h⟩
theorem firsts_len (l : List α) : (firsts l).length ≤ l.length := cnt_le l
end
def FmarksOf (K : PySem.W.Frag) : List Bd → (Bd → Prop) → Prop := fun bs R =>
  (∃ l : List (List Nat), l.length ≤ 1000 ∧ bs = [.lst .par (l.map enc)] ∧ R = (· = .ft K ((marksOf l).map enc))) ∨
  ∃ l : List (Nat × List Nat), l.length ≤ 1000 ∧ bs = [.lst .par (l.map enc)] ∧ R = (· = .ft K ((marksOf l).map enc))
theorem nest_nats : ∀ l : List Nat, nestAll (l.map enc) = true
  | [] => by simp [nestAll]
  | n :: l => by
    show nestAll (PyData.int n :: l.map enc) = true
    rw [nestAll, nest, nest_nats l]; rfl
theorem tkey_nats (l : List Nat) : TKey (enc l) := ⟨by show nest (.tuple (l.map enc)) = true; rw [nest]; exact nest_nats l, Nat.le_trans (PyEnc.depth l) (by decide), ⟨_, rfl⟩⟩
theorem tkey_pair (p : Nat × List Nat) : TKey (enc p) := ⟨by
  show nest (.tuple [.int p.1, .tuple (p.2.map enc)]) = true
  rw [nest, nestAll, nest, nestAll, nest, nest_nats, nestAll]; rfl, Nat.le_trans (PyEnc.depth p) (by decide), ⟨_, rfl⟩⟩
section
variable {P : Program} {w : World} {K : PySem.W.Frag} {mg : Str → Option Value} {base : Heap}
theorem sc_marks_of : FnScope ["keys", "found", "key"] ["keys"] (defScope (topS 10)) := ⟨rfl, rfl, rfl, by decide +kernel, rfl, by decide +kernel, by decide +kernel⟩
theorem body_marks_of {α : Type} [DecidableEq α] [PyEnc α] (E : En K mg) {f : Addr} {cdv : Value} {A : Around} {outer : List Env} {s : Shared} {H : Hp} {X : XK} {mo : Mo} (hr : Room 0 (cxB P w K mg base ["keys", "found", "key"] "marks_of" 10 f cdv A outer s H X).A) (hw : mo.wd = some w) (l : List α) (hl : l.length ≤ 1000) (hk : ∀ x : α, TKey (enc x)) :
    SQ (cxB P w K mg base ["keys", "found", "key"] "marks_of" 10 f cdv A outer s H X) mo [some (.lst .par (l.map enc)), none, none] (defBody (topS 10)) { nx := fun _ => False, rt := (· = .ft K ((marksOf l).map enc)) } := by
  refine sq_cons (s1_setB (i := 1) sc_marks_of.nd rfl (.inr rfl) (eq_dnew hw) ?_)
  refine sq_cons (s1_forS PassesOwn.never rfl (its_var (ds := l.map enc) (k := .par) (i := 0) (by intro z; cases z) rfl rfl (.inl rfl)) (fun i ρ' => ρ' = [some (.lst .par (l.map enc)), some (.dct .own (fD 0 (firsts (l.take i)))), none]) rfl ?_ ?_)
  · rintro i d ρ' hd rfl
    obtain ⟨x, hx, e⟩ := take_map hd
    subst e
    have hfl : (firsts (l.take i)).length ≤ 1000 := Nat.le_trans (firsts_len _) (Nat.le_trans (List.length_take_le' _ _) hl)
    refine ⟨[2], _, t1 2 sc_marks_of.nd, sq_cons (s1_if (td_dnin (i := 1) (lk := .own) hr hw (by intro z; cases z) rfl rfl (.inr (.inl rfl)) (fD_tup hk _ 0) (hk x) (v 2) fD_in) (fun hc => ?_) fun hc => ?_)⟩
    · have hn : x ∉ firsts (l.take i) := by simpa using hc
      refine sq_cons (s1_dput (i := 1) (kvs := fD 0 (firsts (l.take i))) (d := enc x) (dv := .int ((fD 0 (firsts (l.take i))).length : Nat)) hr hw rfl rfl (.inr (.inl rfl)) (fD_tup hk _ 0) (hk x) (ed_lenD (i := 1) (lk := .own) hw (by intro z; cases z) rfl rfl (.inr (.inl rfl)) (fD_tup hk _ 0) (by rw [fD_len]; omega) rfl E.len_) (v 2) (fun h => hn (of_decide_eq_true (fD_in.2 h))) (by rw [fD_len]; omega) (sq_nil (sq_nilF [2] ?_)))
      show _ = _
      rw [take_next hx, firsts_snoc, putK_new hn, fD_snoc, fD_len, Nat.zero_add]; rfl
    · have hn : x ∈ firsts (l.take i) := by simpa using hc
      refine sq_nil (sq_nilF [2] ?_)
      show _ = _
      rw [take_next hx, firsts_snoc, putK_same hn]; rfl
  · rintro ρ' rfl
    rw [List.length_map, List.take_length]
    refine sq_cons (s1_ret (eq_tupleF (ds := (marksOf l).map enc) rfl E.tuple_ (el_mapE (l := l) (g := fun k => (firsts l).idxOf k) [("key", 2)] rfl sc_marks_of.nd (itc_lst (vl 0)) (blkOk_by (by kernel_rfl)) (by omega) fun x hx =>
      ⟨[2], _, by decide, fun _ _ _ _ _ => t1 2 sc_marks_of.nd, fun _ _ _ _ _ => ?_⟩)))
    have hm := fD_mem (firsts l) 0 x (mem_firsts.mpr hx)
    rw [Nat.zero_add] at hm
    exact ed_dget (i := 1) (lk := .fz) (kvs := fD 0 (firsts l)) hr hw (by intro z; cases z) (by rfl) (by rfl) (by first | exact .inl rfl | exact .inr (.inl rfl) | exact .inr (.inr rfl)) (fD_tup hk _ 0) (hk x) (v 2) hm (by intro _ _; rfl)
theorem f_marks_of (E : En K mg) : Fn P w K mg base "marks_of" 1 ["keys"] none false (FmarksOf K) := by
  refine mkFn E 8 sc_marks_of (by decide) (fun bs R h => by rcases h with ⟨_, _, rfl, _⟩ | ⟨_, _, rfl, _⟩ <;> rfl) (fun _ _ _ _ _ _ us hl => match us, hl with | [_], _ => rfl) fun f cdv A outer s H X fa ca bs R hr hf h => ?_
  rcases h with ⟨l, hl, rfl, rfl⟩ | ⟨l, hl, rfl, rfl⟩
  · exact fun σ H HE H0 S D d => body_marks_of E hr rfl l hl tkey_nats σ H HE H0 S D ⟨fun _ _ _ _ q => q.elim, d.rt, d.bk, d.ct⟩
  · exact fun σ H HE H0 S D d => body_marks_of E hr rfl l hl tkey_pair σ H HE H0 S D ⟨fun _ _ _ _ q => q.elim, d.rt, d.bk, d.ct⟩
end
end W97
end
section
set_option Elab.async false
set_option linter.all false
set_option maxRecDepth 100000
set_option maxHeartbeats 2000000
namespace W97
open PySem PySem.Spec PyProof.Rows L2 PyEnc
section
variable {P : Program} {w : World} {K : PySem.W.Frag} {mg : Str → Option Value} {base : Heap} {X : Cx} {m : Mo} {ρ : Ab} {e : Expr} {p pos : Pos}
theorem ed_marksOf1 {l : List (List Nat)} {k : Nat} (F : Fn X.prog X.w X.K X.mg X.base "marks_of" 1 ["keys"] none false (FmarksOf X.K)) (r : Room k X.A) (hk : 1 ≤ k) (hg : Gl X "marks_of") (hw : m.wd = some X.w) (h : EL X m ρ e (l.map enc)) (hl : l.length ≤ 1000)
    (he : starEach [e] X.env = (false, eval e X.env) :: starEach [] X.env := by rfl) (hpl : (backTo pos (starEach [] X.env)).any (·.1) = false := by rfl) : EQ X m ρ (.Call (.Name "marks_of" p) [e] [] pos) (· = .ft X.K ((marksOf l).map enc)) :=
  eq_call F (r.mono hk) hg hw (.inl rfl) (aq_cons (h.mono fun b eb => aq_nil ⟨(fun _ c hc z => by
    rw [List.mem_singleton.mp hc, eb] at z; cases z), [.lst .par (l.map enc)], _, by subst eb; rfl, .inl ⟨l, hl, rfl, rfl⟩, fun b h => h⟩) he) (he := he) (hpl := hpl)
theorem ed_marksOf2 {l : List (Nat × List Nat)} {k : Nat} (F : Fn X.prog X.w X.K X.mg X.base "marks_of" 1 ["keys"] none false (FmarksOf X.K)) (r : Room k X.A) (hk : 1 ≤ k) (hg : Gl X "marks_of") (hw : m.wd = some X.w) (h : EL X m ρ e (l.map enc)) (hl : l.length ≤ 1000)
    (he : starEach [e] X.env = (false, eval e X.env) :: starEach [] X.env := by rfl) (hpl : (backTo pos (starEach [] X.env)).any (·.1) = false := by rfl) : EQ X m ρ (.Call (.Name "marks_of" p) [e] [] pos) (· = .ft X.K ((marksOf l).map enc)) :=
  eq_call F (r.mono hk) hg hw (.inl rfl) (aq_cons (h.mono fun b eb => aq_nil ⟨(fun _ c hc z => by
    rw [List.mem_singleton.mp hc, eb] at z; cases z), [.lst .par (l.map enc)], _, by subst eb; rfl, .inr ⟨l, hl, rfl, rfl⟩, fun b h => h⟩) he) (he := he) (hpl := hpl)
def lateOf (m : Mc) : Nat → List Nat
  | 0 => []
  | j + 1 => marks m j
theorem getD_at {l : List Nat} {i : Nat} (h : i < l.length) : l[i]? = some (l.getD i 0) := by
  rw [List.getD_eq_getElem?_getD, List.getElem?_eq_getElem h]; rfl
theorem sc_marks_by : FnScope ["machine", "marks", "late", "answer", "standing", "k", "to"] ["machine"] (defScope (topS 11)) := ⟨rfl, rfl, rfl, by decide +kernel, rfl, by decide +kernel, by decide +kernel⟩
def FmarksBy (K : PySem.W.Frag) : List Bd → (Bd → Prop) → Prop := fun bs R => ∃ (m : Mc) (wd : Nat), Ok m wd ∧ m.length ≤ 1000 ∧ wd ≤ 1000 ∧ bs = [.dat (enc m)] ∧ R = (· = .ft K ((cls m).map enc))
theorem f_marks_by (E : En K mg) : Fn P w K mg base "marks_by" 2 ["machine"] none false (FmarksBy K) := by
  refine mkFn E 9 sc_marks_by (by decide) (fun bs R h => by obtain ⟨_, _, _, _, _, rfl, _⟩ := h; rfl) (fun _ _ _ _ _ _ us hl => match us, hl with | [_], _ => rfl) fun f cdv A outer s H X fa ca bs R hr hf h => ?_
  obtain ⟨m, wd, ok, hml, hwl, rfl, rfl⟩ := h
  refine sq_cons (s1_setB (i := 1) (bd := .ft K ((marks m 0).map enc)) sc_marks_by.nd rfl (.inl rfl) (ed_marksOf1 (l := keys0 m) (f_marks_of E) hr (by decide) rfl rfl (el_mapE (l := m) (g := fun r : List (Nat × Nat) => r.map (·.2)) [("standing", 4)] rfl sc_marks_by.nd (itc_tup (ds := m.map enc) (v 0)) (blkOk_by (by kernel_rfl)) (by omega) fun st hst =>
    ⟨[4], _, by decide, fun _ _ _ _ _ => t1 4 sc_marks_by.nd, fun _ _ _ _ _ => ?_⟩) (by unfold keys0; rw [List.length_map]; exact hml)) ?_)
  · exact ed_tuple rfl E.tuple_ (EQ.itemsL (el_mapE (l := st) (g := fun p => p.2) [("late", 2), ("answer", 3)] rfl sc_marks_by.nd (itc_tup (ds := st.map enc) (v 4)) (blkOk_by (by kernel_rfl)) (by rw [ok.wide st hst]; omega) fun p hp =>
      ⟨[2, 3], _, by decide, fun _ _ _ _ _ => t2 2 3 rfl sc_marks_by.nd, fun _ _ _ _ _ => v 3⟩))
  refine sq_cons (s1_setD (i := 2) (d := enc ([] : List Nat)) sc_marks_by.nd rfl (.inr rfl) (ed_tup ad_nil (Nat.zero_le _)) ?_)
  obtain ⟨q, hq1, hq2, hq3⟩ := marks_fix ok
  refine sq_cons (s1_while PassesOwn.never (fun n ρ' => ∃ j, n = q + 1 - j ∧ j ≤ q + 1 ∧ ρ' = [some (.dat (enc m)), some (.ft K ((marks m j).map enc)), some (.dat (enc (lateOf m j))), none, none, none, none]) ⟨q + 1, 0, rfl, Nat.zero_le _, rfl⟩ ?_)
  rintro n ρ' ⟨j, rfl, hj, rfl⟩
  refine ⟨!decide (lateOf m j = marks m j), td_neE (y := marks m j) hr (v 2) (ed_ft (vp 1)), fun hc => ?_, fun hc => ?_⟩
  · have hne : lateOf m j ≠ marks m j := by simpa using hc
    have hjq : j ≤ q := by
      rcases Nat.eq_or_lt_of_le hj with e | lt
      · rw [e] at hne
        exact absurd hq1.symm hne
      · omega
    refine sq_cons (s1_setD (i := 2) (d := enc (marks m j)) sc_marks_by.nd rfl (.inr rfl) (ed_ft (vp 1)) ?_)
    refine sq_cons (s1_setB (i := 1) (bd := .ft K ((marks m (j + 1)).map enc)) sc_marks_by.nd rfl (.inl rfl) (ed_marksOf2 (l := keysS m (marks m j)) (f_marks_of E) hr (by decide) rfl rfl ?el (by unfold keysS; rw [List.length_map, List.length_range]; exact hml)) (sq_nilF [] ⟨q + 1 - (j + 1), by omega, j + 1, rfl, by omega, rfl⟩))
    unfold keysS
    refine el_mapE [("k", 5)] rfl sc_marks_by.nd ?it (blkOk_by (by kernel_rfl)) (by rw [List.length_range]; omega) fun s hs =>
      ⟨[5], _, by decide, fun _ _ _ _ _ => t1 5 sc_marks_by.nd, fun _ _ _ _ _ => ?_⟩
    case it => exact itc_rg1 rfl E.range_ (lenE rfl E.len_ (v 0)) hml
    have hsl : s < m.length := List.mem_range.mp hs
    refine prE ?_ ?_
    · exact ixE (l := marks m j) (v 2) (v 5) (getD_at (by rw [marks_len]; exact hsl))
    refine ed_tuple rfl E.tuple_ (EQ.itemsL (el_mapE (l := st m s) (g := fun p => (marks m j).getD p.1 0) [("to", 6), ("answer", 3)] rfl sc_marks_by.nd (itc_tup (ds := (st m s).map enc) (ixE (v 0) (v 5) (st_at hsl))) (blkOk_by (by kernel_rfl)) (by rw [ok.wst hsl]; omega) fun p hp =>
      ⟨[6, 3], _, by decide, fun _ _ _ _ _ => t2 6 3 rfl sc_marks_by.nd, fun _ _ _ _ _ => ?_⟩))
    exact ixE (l := marks m j) (v 2) (v 6) (getD_at (by rw [marks_len]; exact ok.lt _ (st_mem hsl) p hp))
  · have he : lateOf m j = marks m j := by simpa using hc
    have hjq : j = q + 1 := by
      cases j with
      | zero =>
        have z := congrArg List.length he
        rw [marks_len] at z
        exact absurd z.symm (Nat.ne_of_gt ok.ne)
      | succ i =>
        rcases Nat.lt_or_ge i q with lt | ge
        · exact absurd he.symm (hq2 i lt)
        · omega
    subst hjq
    have e : cls m = marks m (q + 1) := by rw [hq1, hq3]
    rw [e]
    exact sq_cons (s1_ret (vp 1))
end
end W97
end
section
set_option Elab.async false
set_option linter.all false
set_option maxRecDepth 100000
set_option maxHeartbeats 2000000
namespace W97
open PySem PySem.Spec PyProof.Rows L2 PyEnc
section
variable {P : Program} {w : World} {K : PySem.W.Frag} {mg : Str → Option Value} {base : Heap} {X : Cx} {m : Mo} {ρ : Ab} {e a b : Expr} {p pos : Pos}
theorem addE {i j : Nat} (h1 : ED X m ρ a (enc i)) (h2 : ED X m ρ b (enc j)) : ED X m ρ (.BinOp a .Add b pos) (enc (i + j)) := ed_add h1 h2
theorem bes_enc (one other : Mc) : enc (bes one other) = .tuple (one.map enc ++ ((other.map fun r => r.map fun p => (one.length + p.1, p.2)).map enc ++ [])) := by
  show PyData.tuple ((one ++ _).map enc) = _
  rw [List.map_append, List.append_nil]
theorem sc_beside : FnScope ["one", "other", "many", "late", "to", "answer", "standing"] ["one", "other"] (defScope (topS 15)) := ⟨rfl, rfl, rfl, by decide +kernel, rfl, by decide +kernel, by decide +kernel⟩
theorem f_beside (E : En K mg) : Fn P w K mg base "beside" 1 ["one", "other"] none false (Fdd fun ds d => ∃ (one other : Mc) (wd : Nat), Ok one wd ∧ Ok other wd ∧ one.length ≤ 500 ∧ other.length ≤ 500 ∧ wd ≤ 1000 ∧ ds = [enc one, enc other] ∧ d = enc (bes one other)) := by
  refine mkFn E 12 sc_beside (by decide) (fun bs R h => by obtain ⟨_, _, rfl, ⟨_, _, _, _, _, _, _, _, rfl, _⟩, _⟩ := h; rfl) (fun _ _ _ _ _ _ us hl => match us, hl with | [_, _], _ => rfl) fun f cdv A outer s H X fa ca bs R hr hf h => ?_
  obtain ⟨_, _, rfl, ⟨one, other, wd, k1, k2, l1, l2, lw, rfl, rfl⟩, rfl⟩ := h
  refine sq_cons (s1_setD (i := 2) (d := enc one.length) sc_beside.nd rfl (.inr rfl) (lenE rfl E.len_ (v 0)) ?_)
  refine sq_cons (s1_setMapE (l := other) (g := fun r : List (Nat × Nat) => r.map fun p => (one.length + p.1, p.2)) [("standing", 6)] rfl sc_beside.nd (i := 3) rfl rfl (itc_tup (v 1)) (blkOk_by (by kernel_rfl)) (by omega) (fun r hrm =>
    ⟨[6], _, by decide, fun _ _ _ _ _ => t1 6 sc_beside.nd, fun _ _ _ _ _ => ?_⟩) ?_ (sw_true rfl rfl rfl (by decide +kernel)))
  · refine ed_tuple rfl E.tuple_ (EQ.itemsL (el_mapE (l := r) (g := fun p => (one.length + p.1, p.2)) [("to", 4), ("answer", 5)] rfl sc_beside.nd (itc_tup (ds := r.map enc) (v 6)) (blkOk_by (by kernel_rfl)) (by rw [k2.wide r hrm]; omega) fun p hp =>
      ⟨[4, 5], _, by decide, fun _ _ _ _ _ => t2 4 5 rfl sc_beside.nd, fun _ _ _ _ _ => ?_⟩))
    exact prE (addE (v 2) (v 4)) (v 5)
  · refine sq_cons (s1_retD (d := enc (bes one other)) ?_ rfl)
    rw [bes_enc]
    exact ed_tup (ad_star (EQ.items (ds := one.map enc) (v 0)) (ad_star (EQ.itemsL (vl 3)) ad_nil)) (by rw [List.length_append, List.length_append, List.length_map, List.length_map, List.length_map, sizeLine_eq]; show one.length + (other.length + 0) ≤ _; omega)
theorem td_inE {α : Type} [DecidableEq α] [PyEnc α] {l : List α} {x : α} {k : Nat} (r : Room k X.A) (h1 : ED X m ρ a (enc x)) (h2 : ED X m ρ b (enc l)) (hm : behindInMarks .In b = false := by rfl) (hd : PyEnc.dep α ≤ 63 := by decide) : TD X m ρ (.Compare a [.In] [b] pos) (decide (x ∈ l)) :=
  td_cmp (inTE r h1 h2 hm hd) hm ⟨_, op_inT (units65 r), twoD (r := rInT X.K) (Q := (· = .dat (.bool (decide (x ∈ l))))) h1.asD (EQ.asD h2) fun b1 b2 e1 e2 Ha Hb H u v _ r1 r2 Qv kk => ⟨enc x, l.map enc, e1.dp r1, e2.dp r2, shaped_enc (by omega), shaped_enc (α := List α) (show PyEnc.dep α + 1 ≤ 64 by omega), by
    rw [any_eqv]
    exact kk _ (.dat (.bool (decide (x ∈ l)))) H Gr.refl (.bl _) rfl⟩⟩
theorem td_inLE {α : Type} [DecidableEq α] [PyEnc α] {l : List α} {x : α} {k : Nat} {o : LK} (r : Room k X.A) (h1 : ED X m ρ a (enc x)) (h2 : EQ X m ρ b (· = .lst o (l.map enc))) (hm : behindInMarks .In b = false := by rfl) (hd : PyEnc.dep α ≤ 63 := by decide) : TD X m ρ (.Compare a [.In] [b] pos) (decide (x ∈ l)) :=
  td_cmp (inLE r h1 h2 hm hd) hm ⟨_, op_inD (units65 r), twoD (d2 := .list (l.map enc)) (Q := (· = .dat (.bool (decide (x ∈ l))))) h1.asD (EQ.asL h2) fun b1 b2 e1 e2 Ha Hb H u v _ r1 r2 Qv kk => ⟨enc x, l.map enc, e1.dp r1, e2.dp r2, shaped_enc (by omega), shaped_list hd, by
    rw [any_eqv]
    exact kk _ (.dat (.bool (decide (x ∈ l)))) H Gr.refl (.bl _) rfl⟩⟩
/-- two machines of w letters, both small -/
structure Two (one other : Mc) (w : Nat) : Prop where
  k1 : OkS one w
  k2 : OkS other w
theorem Two.l1 {one other : Mc} {w : Nat} (t : Two one other w) : one.length < 64 := Nat.lt_of_le_of_lt (Nat.le_mul_of_pos_left _ t.k1.ok.wp) t.k1.sm
theorem Two.l2 {one other : Mc} {w : Nat} (t : Two one other w) : other.length < 64 := Nat.lt_of_le_of_lt (Nat.le_mul_of_pos_left _ t.k1.ok.wp) t.k2.sm
theorem Two.lw {one other : Mc} {w : Nat} (t : Two one other w) : w < 64 := Nat.lt_of_le_of_lt (Nat.le_mul_of_pos_right _ t.k1.ok.ne) t.k1.sm
theorem drop_map {l : List Nat} {n : Nat} : PyData.tuple ((l.map enc).drop n) = enc (l.drop n) := by rw [← List.map_drop]; rfl
theorem slE {l : List Nat} {n : Nat} {p2 : Pos} (h1 : ED X m ρ a (enc l)) (h2 : ED X m ρ b (enc n)) : ED X m ρ (.Subscript a (.Slice (some b) none none p2) pos) (enc (l.drop n)) := by
  rw [← drop_map]
  exact ed_slT (ds := l.map enc) h1 h2
def Fknown : List Bd → (Bd → Prop) → Prop := fun bs R => ∃ (one other : Mc) (wd : Nat), Two one other wd ∧ bs = [.dat (enc one), .dat (enc other)] ∧ R = (· = .lst .own ((good one other).map enc))
theorem sc_known : FnScope ["one", "other", "marks", "standing"] ["one", "other"] (defScope (topS 16)) := ⟨rfl, rfl, rfl, by decide +kernel, rfl, by decide +kernel, by decide +kernel⟩
theorem f_known_standings (E : En K mg) : Fn P w K mg base "known_standings" 3 ["one", "other"] none false Fknown := by
  refine mkFn E 13 sc_known (by decide) (fun bs R h => by obtain ⟨_, _, _, _, rfl, _⟩ := h; rfl) (fun _ _ _ _ _ _ us hl => match us, hl with | [_, _], _ => rfl) fun f cdv A outer s H X fa ca bs R hr hf h => ?_
  obtain ⟨one, other, wd, T, rfl, rfl⟩ := h
  have l1 := T.l1
  have l2 := T.l2
  have lw := T.lw
  have lb : (bes one other).length = one.length + other.length := by
    unfold bes
    rw [List.length_append, List.length_map]
  have lc : (cls (bes one other)).length = one.length + other.length := by
    rw [cls_len, lb]
  refine sq_cons (s1_setD (i := 2) (d := enc (cls (bes one other))) sc_known.nd rfl (.inr rfl) (ed_ft (ds := (cls (bes one other)).map enc) (eq_callM (f_marks_by E) (hr.mono (by decide)) rfl rfl (ed_call (f_beside E) (hr.mono (by decide)) rfl rfl (ad_cons (v 0) (ad_cons (v 1) ad_nil)) ⟨one, other, wd, T.k1.ok, T.k2.ok, by omega, by omega, by omega, rfl, rfl⟩) ⟨bes one other, wd, bes_ok T.k1.ok T.k2.ok, by omega, by omega, rfl, rfl⟩)) ?_)
  refine sq_cons (s1_ret (EQ.mono (Q := (· = .lst .own ((((List.range one.length).filter fun s => decide ((cls (bes one other)).getD s 0 ∈ (cls (bes one other)).drop one.length)).map fun s => s).map enc))) ?_ fun b e => ?_))
  · refine el_filE [("standing", 3)] rfl sc_known.nd ?it (blkOk_by (by kernel_rfl)) (by rw [List.length_range]; omega) fun s hs => ⟨[3], _, by decide, fun _ _ _ _ _ => t1 3 sc_known.nd, fun _ _ _ _ _ => ?_, fun _ _ _ _ _ _ => v 3⟩
    case it => exact itc_tup (ds := (List.range one.length).map enc) (ed_call (f_all_standings E) (hr.mono (by decide)) rfl rfl (ad_cons (v 0) ad_nil) ⟨one, rfl, by omega, rfl⟩)
    exact td_inE hr (ixE (l := cls (bes one other)) (v 2) (v 3) (getD_at (by rw [lc]; have := List.mem_range.mp hs; omega))) (slE (v 2) (lenE rfl E.len_ (v 0)))
  · rw [List.map_id'] at e
    exact e
end
end W97
end
section
set_option Elab.async false
set_option linter.all false
set_option maxRecDepth 100000
set_option maxHeartbeats 2000000
namespace W97
open PySem PySem.Spec PyProof.Rows L2 PyEnc
section
variable {P : Program} {w : World} {K : PySem.W.Frag} {mg : Str → Option Value} {base : Heap} {X : Cx} {m : Mo} {ρ : Ab} {e a b : Expr} {p pos : Pos}
theorem boot_int2 : bootBuiltins "int" = some (.type "int") := by decide +kernel
theorem boot_bool2 : bootBuiltins "bool" = some (.type "bool") := by decide +kernel
theorem boot_tuple2 : bootBuiltins "tuple" = some (.type "tuple") := by decide +kernel
theorem boot_str2 : bootBuiltins "str" = some (.type "str") := by decide +kernel
theorem boot_list2 : bootBuiltins "list" = some (.type "list") := by decide +kernel
theorem kb_NoneType_int : kitB "NoneType" "int" = some false := by decide +kernel
theorem kb_NoneType_bool : kitB "NoneType" "bool" = some false := by decide +kernel
theorem kb_NoneType_tuple : kitB "NoneType" "tuple" = some false := by decide +kernel
theorem kb_NoneType_str : kitB "NoneType" "str" = some false := by decide +kernel
theorem kb_NoneType_list : kitB "NoneType" "list" = some false := by decide +kernel
theorem kb_bool_int : kitB "bool" "int" = some true := by decide +kernel
theorem kb_bool_bool : kitB "bool" "bool" = some true := by decide +kernel
theorem kb_bool_tuple : kitB "bool" "tuple" = some false := by decide +kernel
theorem kb_bool_str : kitB "bool" "str" = some false := by decide +kernel
theorem kb_bool_list : kitB "bool" "list" = some false := by decide +kernel
theorem kb_int_int : kitB "int" "int" = some true := by decide +kernel
theorem kb_int_bool : kitB "int" "bool" = some false := by decide +kernel
theorem kb_int_tuple : kitB "int" "tuple" = some false := by decide +kernel
theorem kb_int_str : kitB "int" "str" = some false := by decide +kernel
theorem kb_int_list : kitB "int" "list" = some false := by decide +kernel
theorem kb_str_int : kitB "str" "int" = some false := by decide +kernel
theorem kb_str_bool : kitB "str" "bool" = some false := by decide +kernel
theorem kb_str_tuple : kitB "str" "tuple" = some false := by decide +kernel
theorem kb_str_str : kitB "str" "str" = some true := by decide +kernel
theorem kb_str_list : kitB "str" "list" = some false := by decide +kernel
theorem kb_tuple_int : kitB "tuple" "int" = some false := by decide +kernel
theorem kb_tuple_bool : kitB "tuple" "bool" = some false := by decide +kernel
theorem kb_tuple_tuple : kitB "tuple" "tuple" = some true := by decide +kernel
theorem kb_tuple_str : kitB "tuple" "str" = some false := by decide +kernel
theorem kb_tuple_list : kitB "tuple" "list" = some false := by decide +kernel
theorem kb_list_int : kitB "list" "int" = some false := by decide +kernel
theorem kb_list_bool : kitB "list" "bool" = some false := by decide +kernel
theorem kb_list_tuple : kitB "list" "tuple" = some false := by decide +kernel
theorem kb_list_str : kitB "list" "str" = some false := by decide +kernel
theorem kb_list_list : kitB "list" "list" = some true := by decide +kernel
theorem ed_andT {rest : List Expr} (h : ED X m ρ a (.bool true)) (h2 : ED X m ρ (.BoolOp .And (b :: rest) pos) (.bool true)) : ED X m ρ (.BoolOp .And (a :: b :: rest) pos) (.bool true) := ed_and (k := true) (l := true) h fun _ => h2
theorem ed_eqNat {n : Nat} {k : Nat} (r : Room k X.A) (h1 : ED X m ρ a (enc n)) (h2 : ED X m ρ b (enc n)) : ED X m ρ (.Compare a [.Eq] [b] pos) (.bool true) := by
  have q := eqE (pos := pos) r h1 h2
  rwa [decide_eq_true rfl] at q
theorem sc_is_integer : FnScope ["thing"] ["thing"] (defScope (topS 26)) := ⟨rfl, rfl, rfl, by decide +kernel, rfl, by decide +kernel, by decide +kernel⟩
theorem f_is_integer (E : En K mg) : Fn P w K mg base "is_integer" 1 ["thing"] none false (Fdd fun ds d => ∃ i : Int, ds = [.int i] ∧ d = .bool true) := by
  refine mkFn E 16 sc_is_integer (by decide) (fun bs R h => by obtain ⟨_, _, rfl, ⟨_, rfl, _⟩, _⟩ := h; rfl) (fun _ _ _ _ _ _ us hl => match us, hl with | [_], _ => rfl) fun f cdv A outer s H X fa ca bs R hr hf h => ?_
  obtain ⟨_, _, rfl, ⟨i, rfl, rfl⟩, rfl⟩ := h
  exact sq_cons (s1_retD (ed_andT (ed_isi (d := .int i) rfl E.isinstance_ rfl E.int_ boot_int2 (EQ.asD (v 0)) kb_int_int) (ed_and1 (ed_not (k := false) (ed_isi (d := .int i) rfl E.isinstance_ rfl E.bool_ boot_bool2 (EQ.asD (v 0)) kb_int_bool)))) rfl)
theorem sc_is_number : FnScope ["thing"] ["thing"] (defScope (topS 27)) := ⟨rfl, rfl, rfl, by decide +kernel, rfl, by decide +kernel, by decide +kernel⟩
theorem f_is_number (E : En K mg) : Fn P w K mg base "is_number" 2 ["thing"] none false (Fdd fun ds d => ∃ n : Nat, ds = [enc n] ∧ d = .bool true) := by
  refine mkFn E 17 sc_is_number (by decide) (fun bs R h => by obtain ⟨_, _, rfl, ⟨_, rfl, _⟩, _⟩ := h; rfl) (fun _ _ _ _ _ _ us hl => match us, hl with | [_], _ => rfl) fun f cdv A outer s H X fa ca bs R hr hf h => ?_
  obtain ⟨_, _, rfl, ⟨n, rfl, rfl⟩, rfl⟩ := h
  have e : decide ((0 : Int) ≤ (n : Int)) = true := decide_eq_true (Int.natCast_nonneg n)
  refine sq_cons (s1_retD (ed_andT (ed_call (f_is_integer E) (hr.mono (by decide)) rfl rfl (ad_cons (v 0) ad_nil) ⟨(n : Int), rfl, rfl⟩) (ed_and1 ?_)) rfl)
  rw [← e]
  exact ed_ge (v 0) ed_int
theorem sc_is_index : FnScope ["many", "thing"] ["many", "thing"] (defScope (topS 28)) := ⟨rfl, rfl, rfl, by decide +kernel, rfl, by decide +kernel, by decide +kernel⟩
theorem f_is_index (E : En K mg) : Fn P w K mg base "is_index" 3 ["many", "thing"] none false (Fdd fun ds d => ∃ k n : Nat, n < k ∧ ds = [enc k, enc n] ∧ d = .bool true) := by
  refine mkFn E 18 sc_is_index (by decide) (fun bs R h => by obtain ⟨_, _, rfl, ⟨_, _, _, rfl, _⟩, _⟩ := h; rfl) (fun _ _ _ _ _ _ us hl => match us, hl with | [_, _], _ => rfl) fun f cdv A outer s H X fa ca bs R hr hf h => ?_
  obtain ⟨_, _, rfl, ⟨k, n, hn, rfl, rfl⟩, rfl⟩ := h
  have e : decide ((n : Int) < (k : Int)) = true := decide_eq_true (Int.ofNat_lt.mpr hn)
  refine sq_cons (s1_retD (ed_andT (ed_call (f_is_number E) (hr.mono (by decide)) rfl rfl (ad_cons (v 1) ad_nil) ⟨n, rfl, rfl⟩) (ed_and1 ?_)) rfl)
  rw [← e]
  exact ed_lt (v 1) (v 0)
theorem sc_is_pair : FnScope ["thing"] ["thing"] (defScope (topS 29)) := ⟨rfl, rfl, rfl, by decide +kernel, rfl, by decide +kernel, by decide +kernel⟩
theorem f_is_pair (E : En K mg) : Fn P w K mg base "is_pair" 1 ["thing"] none false (Fdd fun ds d => ∃ x y : PyData, ds = [.tuple [x, y]] ∧ d = .bool true) := by
  refine mkFn E 19 sc_is_pair (by decide) (fun bs R h => by obtain ⟨_, _, rfl, ⟨_, _, rfl, _⟩, _⟩ := h; rfl) (fun _ _ _ _ _ _ us hl => match us, hl with | [_], _ => rfl) fun f cdv A outer s H X fa ca bs R hr hf h => ?_
  obtain ⟨_, _, rfl, ⟨x, y, rfl, rfl⟩, rfl⟩ := h
  refine sq_cons (s1_retD (ed_andT (ed_isi (d := .tuple [x, y]) rfl E.isinstance_ rfl E.tuple_ boot_tuple2 (EQ.asD (v 0)) kb_tuple_tuple) (ed_and1 ?_)) rfl)
  refine ed_eqNat (n := 2) hr ?_ ed_int
  exact ed_lenT (ds := [x, y]) rfl E.len_ (v 0)
theorem sc_are_indexes : FnScope ["many", "thing", "one"] ["many", "thing"] (defScope (topS 30)) := ⟨rfl, rfl, rfl, by decide +kernel, rfl, by decide +kernel, by decide +kernel⟩
theorem all_true (n : Nat) : (List.replicate n true).all id = true := by
  rw [List.all_eq_true]
  intro x hx
  rw [(List.mem_replicate.mp hx).2]; rfl
theorem map_true {α : Type} (l : List α) : (l.map fun _ => true).all id = true := by
  rw [List.all_eq_true]
  intro x hx
  obtain ⟨_, _, e⟩ := List.mem_map.mp hx
  rw [← e]; rfl
theorem f_are_indexes (E : En K mg) : Fn P w K mg base "are_indexes" 4 ["many", "thing"] none false (Fdd fun ds d => ∃ (k : Nat) (r : List Nat), (∀ x ∈ r, x < k) ∧ r.length ≤ 1000 ∧ ds = [enc k, enc r] ∧ d = .bool true) := by
  refine mkFn E 20 sc_are_indexes (by decide) (fun bs R h => by obtain ⟨_, _, rfl, ⟨_, _, _, _, rfl, _⟩, _⟩ := h; rfl) (fun _ _ _ _ _ _ us hl => match us, hl with | [_, _], _ => rfl) fun f cdv A outer s H X fa ca bs R hr hf h => ?_
  obtain ⟨_, _, rfl, ⟨k, r, hx, hl, rfl, rfl⟩, rfl⟩ := h
  refine sq_cons (s1_retD (ed_andT (ed_isi (d := enc r) rfl E.isinstance_ rfl E.tuple_ boot_tuple2 (EQ.asD (v 1)) kb_tuple_tuple) (ed_and1 ?_)) rfl)
  rw [← map_true r]
  refine ed_all (bl := r.map fun _ => true) rfl rfl E.all_ (o := .own) ?_
  refine el_mapE (β := Bool) [("one", 2)] rfl sc_are_indexes.nd (itc_tup (ds := r.map enc) (v 1)) (blkOk_by (by kernel_rfl)) (by omega) fun x hxm => ⟨[2], _, by decide, fun _ _ _ _ _ => t1 2 sc_are_indexes.nd, fun _ _ _ _ _ => ?_⟩
  exact ed_call (f_is_index E) (hr.mono (by decide)) rfl rfl (ad_cons (v 0) (ad_cons (v 2) ad_nil)) ⟨k, x, hx x hxm, rfl, rfl⟩
end
end W97
end
section
set_option Elab.async false
set_option linter.all false
set_option maxRecDepth 100000
set_option maxHeartbeats 2000000
namespace W97
open PySem PySem.Spec PyProof.Rows L2 PyEnc
section
variable {X : Cx} {m : Mo} {ρ : Ab} {a b e : Expr} {rest : List Expr} {pos : Pos} {k l : Bool}
def ww (X : Cx) (e : Expr) : TT := fun σ H Q => ∀ whole pins s, Inv X pins σ H s → wpAny (model X.prog X.w) X.A (isTrue e X.env whole) (TP X pins σ Q) X.xe s
theorem pw_ww (X : Cx) (e : Expr) : PW X e (ww X e) := ⟨fun whole pins s _ _ _ I h => h whole pins s I⟩
/-- a test whose words are looked at one by one -/
def TW (X : Cx) (m : Mo) (ρ : Ab) (e : Expr) (k : Bool) : Prop := ∀ σ H HE H0, SSt X.K m HE H0 ρ σ H → ∀ Qv : Bool → Hp → Prop, (∀ H', Gr m H H' → Qv k H') → ww X e σ H Qv
theorem TW.td (h : TW X m ρ e k) : TD X m ρ e k := fun σ H HE H0 S Qv kk pins s I => h σ H HE H0 S Qv (fun H' g => kk k H' g rfl) _ pins s I
theorem tw_and1 {p2 : Pos} (h : TD X m ρ a k) : TW X m ρ (.BoolOp .And [a] p2) k := fun σ H HE H0 S Qv kk whole pins s I => (pw_and1 (pt_tw X a)).run whole pins s σ H Qv I (h σ H HE H0 S Qv fun c H' g q => by rw [q]; exact kk H' g)
theorem tw_or1 {p2 : Pos} (h : TD X m ρ a k) : TW X m ρ (.BoolOp .Or [a] p2) k := fun σ H HE H0 S Qv kk whole pins s I => (pw_or1 (pt_tw X a)).run whole pins s σ H Qv I (h σ H HE H0 S Qv fun c H' g q => by rw [q]; exact kk H' g)
theorem tw_and (h : TD X m ρ a k) (h2 : k = true → TW X m ρ (.BoolOp .And (b :: rest) pos) l) : TW X m ρ (.BoolOp .And (a :: b :: rest) pos) (k && l) := fun σ H HE H0 S Qv kk whole pins s I =>
  (pw_and (pt_tw X a) (pw_ww X _)).run whole pins s σ H Qv I (tw_then h S fun c H1 g1 S1 e1 => by
    subst e1
    cases c with
    | true => exact h2 rfl σ H1 HE H0 S1 Qv fun H' g => kk H' (g1.trans g)
    | false => exact kk H1 g1)
theorem tw_or (h : TD X m ρ a k) (h2 : k = false → TW X m ρ (.BoolOp .Or (b :: rest) pos) l) : TW X m ρ (.BoolOp .Or (a :: b :: rest) pos) (k || l) := fun σ H HE H0 S Qv kk whole pins s I =>
  (pw_or (pt_tw X a) (pw_ww X _)).run whole pins s σ H Qv I (tw_then h S fun c H1 g1 S1 e1 => by
    subst e1
    cases c with
    | false => exact h2 rfl σ H1 HE H0 S1 Qv fun H' g => kk H' (g1.trans g)
    | true => exact kk H1 g1)
theorem td_not (h : TD X m ρ a k) : TD X m ρ (.UnaryOp .Not a pos) (!k) := fun σ H HE H0 S Qv kk pins s I => (pt_not (pt_tw X a)).run pins s σ H Qv I (h σ H HE H0 S (fun c H1 => Qv (!c) H1) fun c H' g q => kk (!c) H' g (by rw [q]))
/-- two words, both no -/
theorem td_or2F (h : TD X m ρ a false) (h2 : TD X m ρ b false) : TD X m ρ (.BoolOp .Or [a, b] pos) false := (tw_or (k := false) (l := false) h fun _ => tw_or1 h2).td
theorem td_or3F {c : Expr} (h : TD X m ρ a false) (h2 : TD X m ρ b false) (h3 : TD X m ρ c false) : TD X m ρ (.BoolOp .Or [a, b, c] pos) false := (tw_or (k := false) (l := false) h fun _ => tw_or (k := false) (l := false) h2 fun _ => tw_or1 h3).td
theorem td_isN {j : Nat} {p2 : Pos} {d : PyData} (h : ED X m ρ a d) : TD X m ρ (.Compare a [.Is] [.Constant .none j p2] pos) (isNoneD d) := by
  intro σ H HE H0 S Qv kk pins s I
  refine (pt_cmp (pc_isN (pe_ew X a)) rfl).run pins s σ H Qv I (ew_then h S fun v b1 H1 g1 S1 r1 e1 => ?_)
  subst e1
  exact ⟨isNoneD d, by rw [DV.isN r1], kk _ H1 g1 rfl⟩
theorem td_notN {j : Nat} {p2 : Pos} {d : PyData} (h : ED X m ρ a d) : TD X m ρ (.Compare a [.IsNot] [.Constant .none j p2] pos) (!isNoneD d) := by
  intro σ H HE H0 S Qv kk pins s I
  refine (pt_cmp (pc_notN (pe_ew X a)) rfl).run pins s σ H Qv I (ew_then h S fun v b1 H1 g1 S1 r1 e1 => ?_)
  subst e1
  exact ⟨!isNoneD d, by rw [DV.isN r1], kk _ H1 g1 rfl⟩
theorem td_eqNat {i j : Nat} {k : Nat} (r : Room k X.A) (h1 : ED X m ρ a (enc i)) (h2 : ED X m ρ b (enc j)) : TD X m ρ (.Compare a [.Eq] [b] pos) (decide (i = j)) := td_eqE r h1 h2
end
end W97
end
section
set_option Elab.async false
set_option linter.all false
set_option maxRecDepth 100000
set_option maxHeartbeats 2000000
namespace W97
open PySem PySem.Spec PyProof.Rows L2 PyEnc
section
variable {P : Program} {w : World} {K : PySem.W.Frag} {mg : Str → Option Value} {base : Heap}
theorem sc_is_by_form : FnScope ["thing", "one"] ["thing"] (defScope (topS 32)) := ⟨rfl, rfl, rfl, by decide +kernel, rfl, by decide +kernel, by decide +kernel⟩
theorem f_is_by_form (E : En K mg) : Fn P w K mg base "is_by_form" 3 ["thing"] none false (Fdd fun ds d => ∃ r : List (Nat × Nat), 0 < r.length ∧ r.length ≤ 1000 ∧ ds = [enc r] ∧ d = .bool true) := by
  refine mkFn E 21 sc_is_by_form (by decide) (fun bs R h => by obtain ⟨_, _, rfl, ⟨_, _, _, rfl, _⟩, _⟩ := h; rfl) (fun _ _ _ _ _ _ us hl => match us, hl with | [_], _ => rfl) fun f cdv A outer s H X fa ca bs R hr hf h => ?_
  obtain ⟨_, _, rfl, ⟨r, h0, hl, rfl, rfl⟩, rfl⟩ := h
  refine sq_cons (s1_if (k := false) (td_or2F (td_not (k := true) (td_val ?_)) ?_) (fun z => by cases z) fun _ => sq_nil ?_)
  · exact ed_isi (d := enc r) rfl E.isinstance_ rfl E.tuple_ boot_tuple2 (EQ.asD (v 0)) kb_tuple_tuple
  · have e : decide (r.length = 0) = false := decide_eq_false (by omega)
    rw [← e]
    exact td_eqNat hr (lenE rfl E.len_ (v 0)) ed_int
  · refine sq_cons (s1_retD ?_ rfl)
    rw [← map_true r]
    refine ed_all (bl := r.map fun _ => true) rfl rfl E.all_ (o := .own) ?_
    refine el_mapE (β := Bool) [("one", 1)] rfl sc_is_by_form.nd (itc_tup (ds := r.map enc) (v 0)) (blkOk_by (by kernel_rfl)) (by omega) fun x hxm => ⟨[1], _, by decide, fun _ _ _ _ _ => t1 1 sc_is_by_form.nd, fun _ _ _ _ _ => ?_⟩
    refine ed_andT ?_ (ed_andT ?_ (ed_and1 ?_))
    · exact ed_call (f_is_pair E) (hr.mono (by decide)) rfl rfl (ad_cons (d := enc x) (v 1) ad_nil) ⟨enc x.1, enc x.2, rfl, rfl⟩
    · exact ed_call (f_is_number E) (hr.mono (by decide)) rfl rfl (ad_cons (fstE (x := x) (v 1) ed_int) ad_nil) ⟨x.1, rfl, rfl⟩
    · exact ed_call (f_is_number E) (hr.mono (by decide)) rfl rfl (ad_cons (sndE (x := x) (v 1) ed_int) ad_nil) ⟨x.2, rfl, rfl⟩
theorem enD_at {α : Type} [DecidableEq α] [PyEnc α] {l : List α} {i : Nat} {d : PyData} (h : (enD 0 (l.map enc))[i]? = some d) : ∃ x, l[i]? = some x ∧ d = .tuple [.int (i : Nat), enc x] := by
  rw [enD_get, List.getElem?_map, Nat.zero_add] at h
  obtain ⟨y, h1, h2⟩ := Option.map_eq_some_iff.mp h
  obtain ⟨x, h3, h4⟩ := Option.map_eq_some_iff.mp h1
  exact ⟨x, h3, by rw [← h2, ← h4]⟩
theorem td_geE {X : Cx} {m : Mo} {ρ : Ab} {a b : Expr} {pos : Pos} {i j : Nat} (h1 : ED X m ρ a (enc i)) (h2 : ED X m ρ b (enc j)) : TD X m ρ (.Compare a [.GtE] [b] pos) (decide (j ≤ i)) := by
  have e : decide ((j : Int) ≤ (i : Int)) = decide (j ≤ i) := decide_eq_decide.mpr Int.ofNat_le
  rw [← e]
  exact td_cmp (ed_ge h1 h2) (nomark _) ⟨_, op_ge, two h1 h2 (ar_I0 (gd := fun i j => .bool (decide (j ≤ i))) fun _ _ _ => .bl _)⟩
theorem sc_machine_fault : FnScope ["thing", "k", "standing", "x", "late", "answer"] ["thing"] (defScope (topS 33)) := ⟨rfl, rfl, rfl, by decide +kernel, rfl, by decide +kernel, by decide +kernel⟩
theorem f_machine_fault (E : En K mg) : Fn P w K mg base "machine_fault" 4 ["thing"] none false (Fdd fun ds d => ∃ (m : Mc) (wd : Nat), OkS m wd ∧ ds = [enc m] ∧ d = .none) := by
  refine mkFn E 22 sc_machine_fault (by decide) (fun bs R h => by obtain ⟨_, _, rfl, ⟨_, _, _, rfl, _⟩, _⟩ := h; rfl) (fun _ _ _ _ _ _ us hl => match us, hl with | [_], _ => rfl) fun f cdv A outer s H X fa ca bs R hr hf h => ?_
  obtain ⟨_, _, rfl, ⟨m, wd, ⟨ok, sm⟩, rfl, rfl⟩, rfl⟩ := h
  have hml : m.length < 64 := Nat.lt_of_le_of_lt (Nat.le_mul_of_pos_left _ ok.wp) sm
  have hwl : wd < 64 := Nat.lt_of_le_of_lt (Nat.le_mul_of_pos_right _ ok.ne) sm
  refine sq_cons (s1_if (k := false) (td_or2F (td_not (k := true) (td_val ?_)) ?_) (fun z => by cases z) fun _ => sq_nil ?_)
  · exact ed_isi (d := enc m) rfl E.isinstance_ rfl E.tuple_ boot_tuple2 (EQ.asD (v 0)) kb_tuple_tuple
  · have e : decide (m.length = 0) = false := decide_eq_false (by have := ok.ne; omega)
    rw [← e]
    exact td_eqNat hr (lenE rfl E.len_ (v 0)) ed_int
  refine sq_cons (s1_for PassesOwn.never rfl (itl_enumT (ds := m.map enc) rfl E.enumerate_ (v 0)) (fun i ρ' => ρ' = [some (.dat (enc m)), none, none, none, none, none]) rfl ?_ ?_ ?_)
  · rintro ρ' rfl; rfl
  · rintro i d ρ' hd rfl
    obtain ⟨r, hrm, rfl⟩ := enD_at hd
    have hrw : r.length = wd := ok.wide r (List.mem_of_getElem? hrm)
    refine ⟨[1, 2], _, t2 1 2 rfl sc_machine_fault.nd, sq_cons (s1_if (k := false) (td_not (k := true) (td_val ?_)) (fun z => by cases z) fun _ => sq_nil (sq_cons (s1_if (k := false) ?_ (fun z => by cases z) fun _ => sq_nil (sq_nilF [1, 2] rfl))))⟩
    · exact ed_call (f_is_by_form E) hr rfl rfl (ad_cons (v 2) ad_nil) ⟨r, by rw [hrw]; exact ok.wp, by omega, rfl, rfl⟩
    · have e : (!decide (r.length = (st m 0).length)) = false := by rw [hrw, ok.wst ok.ne, decide_eq_true rfl]; rfl
      rw [← e]
      exact td_neE hr (lenE rfl E.len_ (v 2)) (lenE (l := st m 0) rfl E.len_ (ixE (n := 0) (v 0) ed_int (st_at ok.ne)))
  rintro ρ' rfl
  refine sq_cons (s1_for PassesOwn.never rfl (itl_enumT (ds := m.map enc) rfl E.enumerate_ (v 0)) (fun i ρ' => ρ' = [some (.dat (enc m)), none, none, none, none, none]) rfl ?_ ?_ ?_)
  · rintro ρ' rfl; rfl
  · rintro i d ρ' hd rfl
    obtain ⟨r, hrm, rfl⟩ := enD_at hd
    refine ⟨[1, 2], _, t2 1 2 rfl sc_machine_fault.nd, sq_cons (s1_for PassesOwn.never rfl (itl_enumT (ds := r.map enc) rfl E.enumerate_ (v 2)) (fun j ρ' => ρ' = [some (.dat (enc m)), some (.dat (.int (i : Nat))), some (.dat (enc r)), none, none, none]) rfl ?_ ?_ ?_)⟩
    · rintro ρ' rfl; rfl
    · rintro j d ρ' hd rfl
      obtain ⟨p, hp, rfl⟩ := enD_at hd
      have hlt : p.1 < m.length := ok.lt r (List.mem_of_getElem? hrm) p (List.mem_of_getElem? hp)
      refine ⟨[3, 4, 5], _, tgd_tup (ds := [.int (j : Nat), enc p]) rfl (tgds_cons (t1 3 sc_machine_fault.nd) (tgds_cons (is := [4, 5]) (t2 4 5 rfl sc_machine_fault.nd) tgds_nil)) rfl, sq_cons (s1_if (k := false) ?_ (fun z => by cases z) fun _ => sq_nil (sq_nilF [3, 4, 5] rfl))⟩
      have e : decide (m.length ≤ p.1) = false := decide_eq_false (by omega)
      rw [← e]
      exact td_geE (v 4) (lenE rfl E.len_ (v 0))
    · rintro ρ' rfl
      exact sq_nilF [1, 2] rfl
  · rintro ρ' rfl
    exact sq_cons (s1_retD ed_non rfl)
theorem sc_is_machine : FnScope ["thing"] ["thing"] (defScope (topS 34)) := ⟨rfl, rfl, rfl, by decide +kernel, rfl, by decide +kernel, by decide +kernel⟩
theorem f_is_machine (E : En K mg) : Fn P w K mg base "is_machine" 5 ["thing"] none false (Fdd fun ds d => ∃ (m : Mc) (wd : Nat), OkS m wd ∧ ds = [enc m] ∧ d = .bool true) := by
  refine mkFn E 23 sc_is_machine (by decide) (fun bs R h => by obtain ⟨_, _, rfl, ⟨_, _, _, rfl, _⟩, _⟩ := h; rfl) (fun _ _ _ _ _ _ us hl => match us, hl with | [_], _ => rfl) fun f cdv A outer s H X fa ca bs R hr hf h => ?_
  obtain ⟨_, _, rfl, ⟨m, wd, k, rfl, rfl⟩, rfl⟩ := h
  exact sq_cons (s1_retD (ed_isN (d1 := .none) (ed_call (f_machine_fault E) hr rfl rfl (ad_cons (v 0) ad_nil) ⟨m, wd, k, rfl, rfl⟩)) rfl)
end
end W97
end
section
set_option Elab.async false
set_option linter.all false
set_option maxRecDepth 100000
set_option maxHeartbeats 2000000
namespace W97
open PySem PySem.Spec PyProof.Rows L2 PyEnc
/-- a def called with fewer arguments: dvs, what the others are -/
structure FnV (P : Program) (w : World) (K : PySem.W.Frag) (mg : Str → Option Value) (base : Heap) (x : Str) (k : Nat) (ps : List Str) (Fs : List Bd → (Bd → Prop) → Prop) (dvs : List V) : Prop where
  ex : ∃ (f : Addr) (fd : FuncData) (ds : List Value), FnOk P w K mg base CX0 k f fd ps (Pr K w none false Fs) ∧ mg x = some (.ref f) ∧ PySem.W.keepIn K (.ref f) = true ∧ Vals dvs ds ∧ Binds K fd ps ds
section
variable {X : Cx} {m : Mo} {HE H0 H H1 : Hp} {ρ : Ab} {σ : L2.St} {e : Expr} {es : List Expr} {pos p : Pos} {Fs : List Bd → (Bd → Prop) → Prop} {dvs : List V} {dds : List PyData}
theorem eq_callV {x : Str} {k : Nat} {ps : List Str} {Q : Bd → Prop} (F : FnV X.prog X.w X.K X.mg X.base x k ps Fs dvs) (hr' : Room k X.A) (hg : Gl X x) (hw : m.wd = some X.w) (hd : ∀ H, DVs X.K H dvs dds)
    (ha : AQ X m ρ (e :: es) fun bs => noFeed bs ∧ ∃ bs' R, bs'.map Bd.read = bs.map Bd.read ∧ Fs (bs' ++ dds.map Bd.dat) R ∧ ∀ b, R b → Q b) (hdb : (x == ("__debug__" : Str)) = false := by decide)
    (he : starEach (e :: es) X.env = (false, eval e X.env) :: starEach es X.env := by rfl) (hpl : (backTo pos (starEach es X.env)).any (·.1) = false := by rfl) : EQ X m ρ (.Call (.Name x p) (e :: es) [] pos) Q := by
  obtain ⟨f, fd, ds, hF, hm, hk, hv, hb⟩ := F.ex
  intro σ H HE H0 S Qv kk
  refine ew_of (pe_call hF hr' hg hm hk hb hv pass0 (pa_aw X (e :: es)) hdb he hpl) (ha σ H HE H0 S _ fun vs bs H1 g1 r1 q => ?_)
  obtain ⟨hn, bs', R, eb, hfs, hR⟩ := q
  have S1 := S.go g1
  show Pr X.K X.w none false Fs (vs ++ dvs) H1 Qv E0
  refine ⟨none, 0, bs' ++ dds.map Bd.dat, R, fun _ => rfl, (fun a e => by cases e), (fun T e => by cases e), hfs, ?_, fun v b H' g r q => kk v b H' (g1.trans (g.into S1.fe1 (.inl rfl) (.inl rfl))) (hr_back (hr_mode hw (.inl rfl) r) g1) (hR b q)⟩
  have r2 : HRs X.K { tb := none, fa := none, ca := 0, wd := some X.w } H1 H1 vs (bs.map Bd.read) := r1.read.mode hw.symm (.inr rfl) fun _ c hc z => by
    obtain ⟨d, hd, e⟩ := List.mem_map.mp hc
    rw [z] at e
    cases d with
    | feed => exact hn _ hd rfl
    | _ => cases e
  rw [List.map_append, eb]
  refine r2.app ?_
  rw [read_dat]
  exact HRs.of_data (hd H1)
theorem ed_callV {x : Str} {k : Nat} {ps : List Str} {f : List PyData → PyData → Prop} {ds : List PyData} {d : PyData} (F : FnV X.prog X.w X.K X.mg X.base x k ps (Fdd f) dvs) (hr' : Room k X.A) (hg : Gl X x) (hw : m.wd = some X.w) (hd : ∀ H, DVs X.K H dvs dds) (ha : AD X m ρ (e :: es) ds) (hf : f (ds ++ dds) d) (hdb : (x == ("__debug__" : Str)) = false := by decide)
    (he : starEach (e :: es) X.env = (false, eval e X.env) :: starEach es X.env := by rfl) (hpl : (backTo pos (starEach es X.env)).any (·.1) = false := by rfl) : ED X m ρ (.Call (.Name x p) (e :: es) [] pos) d :=
  eq_callV F hr' hg hw hd (fun σ H HE H0 S Qv k => ha σ H HE H0 S Qv fun vs bs H' g r q => k vs bs H' g r ⟨(fun b hb z => by
    rw [q] at hb
    obtain ⟨d, _, e⟩ := List.mem_map.mp hb
    rw [z] at e
    cases e), ds.map Bd.dat, _, by rw [q], ⟨ds ++ dds, d, by rw [List.map_append], hf, rfl⟩, fun b h => h⟩) hdb he hpl
end
section
variable {P : Program} {w : World} {K : PySem.W.Frag} {mg : Str → Option Value} {base : Heap} {Fs : List Bd → (Bd → Prop) → Prop}
theorem mkFnV (En : En K mg) (i : Nat) {x : Str} {j k : Nat} {dfl : List He.Dv} {kwd : List (Str × He.Dv)} {N ps : List Str} {dvs : List V} (S : FnScope N ps (defScope (topS j))) (hps : ps.length ≤ N.length) (len : ∀ bs R, Fs bs R → bs.length = ps.length)
    (bnd : ∀ fd, FunD K x x (defArgs (topS j)) (defBody (topS j)) (defScope (topS j)) (dfl.map (He.Dv.v K)) (kwd.map fun q => (q.1, q.2.v K)) (He.ga K x) fd → ∃ ds, Vals dvs ds ∧ Binds K fd ps ds)
    (hb : ∀ (f : Addr) (cdv : Value) (A : Around) (outer : List Env) (s : Shared) (H : Hp) (E : XK) (fa : Option Addr) (ca : Addr) (bs : List Bd) (R : Bd → Prop), Room k (cxB P w K mg base N x j f cdv A outer s H E).A → Fs bs R →
      SQ (cxB P w K mg base N x j f cdv A outer s H E) { tb := none, fa := fa, ca := ca, wd := some w } (rho N (bs.map Bd.read)) (defBody (topS j)) { nx := fun _ => R (.dat .none), rt := R })
    (h : fn[i]? = some (dAt x j dfl kwd) := by rfl) (h2 : fa[i]? = some (.glo x) := by rfl) : FnV P w K mg base x (k + 1) ps Fs dvs := by
  obtain ⟨fd, F⟩ := En.def i h
  obtain ⟨ds, hv, hbn⟩ := bnd fd F
  exact ⟨_, fd, ds, fn_by F S hps len fun cdv A outer s H E fa ca bs R hr hf hq => hb _ cdv A outer s H E fa ca bs R hr hq, En.glo i h2, F.kp, hv, hbn⟩
end
end W97
end
section
set_option Elab.async false
set_option linter.all false
set_option maxRecDepth 100000
set_option maxHeartbeats 2000000
namespace W97
open PySem PySem.Spec PyProof.Rows L2 PyEnc
section
variable {P : Program} {w : World} {K : PySem.W.Frag} {mg : Str → Option Value} {base : Heap}
theorem sc_want : FnScope ["is_right", "word", "at"] ["is_right", "word", "at"] (defScope (topS 36)) := ⟨rfl, rfl, rfl, by decide +kernel, rfl, by decide +kernel, by decide +kernel⟩
theorem f_want (E : En K mg) : FnV P w K mg base "want" 1 ["is_right", "word", "at"] (Fdd fun ds d => ∃ y z, ds = [.bool true, y, z] ∧ d = .none) [.int (-1)] := by
  refine mkFnV E 24 (dfl := [.int (-1)]) (kwd := []) sc_want (by decide) (fun bs R h => by obtain ⟨_, _, rfl, ⟨_, _, rfl, _⟩, _⟩ := h; rfl) (fun fd F => F.binds1 2 0 (by intro z; cases z) rfl fun T kV doc pm an cdv ct us its hu hi => match us, its, hu, hi with | [_, _], [_], _, _ => ⟨_, rfl, rfl⟩) fun f cdv A outer s H X fa ca bs R hr h => ?_
  obtain ⟨_, _, rfl, ⟨y, z, rfl, rfl⟩, rfl⟩ := h
  exact sq_cons (s1_if (k := false) (td_not (k := true) (td_val (v 0))) (fun z => by cases z) fun _ => sq_nil (sq_nil rfl))
theorem sc_want_machine : FnScope ["machine", "word"] ["machine", "word"] (defScope (topS 37)) := ⟨rfl, rfl, rfl, by decide +kernel, rfl, by decide +kernel, by decide +kernel⟩
def Fwm : List PyData → PyData → Prop := fun ds d => ∃ (m : Mc) (wd : Nat) (z : PyData), OkS m wd ∧ ds = [enc m, z] ∧ d = .none
theorem body_want_machine (E : En K mg) (f : Addr) (cdv : Value) (A : Around) (outer : List Env) (s : Shared) (H : Hp) (X : XK) (fa : Option Addr) (ca : Addr) (bs : List Bd) (R : Bd → Prop) (hr : Room 5 (cxB P w K mg base ["machine", "word"] "want_machine" 37 f cdv A outer s H X).A) (h : Fdd Fwm bs R) :
    SQ (cxB P w K mg base ["machine", "word"] "want_machine" 37 f cdv A outer s H X) { tb := none, fa := fa, ca := ca, wd := some w } (rho ["machine", "word"] (bs.map Bd.read)) (defBody (topS 37)) { nx := fun _ => R (.dat .none), rt := R } := by
  obtain ⟨_, _, rfl, ⟨m, wd, z, k, rfl, rfl⟩, rfl⟩ := h
  refine sq_cons (s1_expr (d := .none) ?_ (sq_nil rfl))
  exact ed_callV (dds := [.int (-1)]) (ds := [.bool true, z]) (f_want E) (hr.mono (by decide)) rfl rfl (fun H => .cons (.int _) .nil) (ad_cons (ed_call (f_is_machine E) hr rfl rfl (ad_cons (v 0) ad_nil) ⟨m, wd, k, rfl, rfl⟩) (ad_cons (v 1) ad_nil)) ⟨z, .int (-1), rfl, rfl⟩
theorem f_want_machine2 (E : En K mg) : FnV P w K mg base "want_machine" 6 ["machine", "word"] (Fdd Fwm) [] := by
  refine mkFnV E 25 (dfl := [.str "machine"]) (kwd := []) sc_want_machine (by decide) (fun bs R h => by obtain ⟨_, _, rfl, ⟨_, _, _, _, rfl, _⟩, _⟩ := h; rfl) (fun fd F => F.binds1 2 1 (by intro z; cases z) rfl fun T kV doc pm an cdv ct us its hu hi => match us, its, hu, hi with | [_, _], [_], _, _ => ⟨_, rfl, rfl⟩) fun f cdv A outer s H X fa ca bs R hr h => ?_
  exact body_want_machine E f cdv A outer s H X fa ca bs R hr h
theorem f_want_machine1 (E : En K mg) : FnV P w K mg base "want_machine" 6 ["machine", "word"] (Fdd Fwm) [.str "machine"] := by
  refine mkFnV E 25 (dfl := [.str "machine"]) (kwd := []) sc_want_machine (by decide) (fun bs R h => by obtain ⟨_, _, rfl, ⟨_, _, _, _, rfl, _⟩, _⟩ := h; rfl) (fun fd F => F.binds1 1 0 (by intro z; cases z) rfl fun T kV doc pm an cdv ct us its hu hi => match us, its, hu, hi with | [_], [_], _, _ => ⟨_, rfl, rfl⟩) fun f cdv A outer s H X fa ca bs R hr h => ?_
  exact body_want_machine E f cdv A outer s H X fa ca bs R hr h
theorem sc_want_both : FnScope ["one", "other"] ["one", "other"] (defScope (topS 44)) := ⟨rfl, rfl, rfl, by decide +kernel, rfl, by decide +kernel, by decide +kernel⟩
def F2n : List PyData → PyData → Prop := fun ds d => ∃ (one other : Mc) (wd : Nat), Two one other wd ∧ ds = [enc one, enc other] ∧ d = .none
theorem f_want_both (E : En K mg) : Fn P w K mg base "want_both" 7 ["one", "other"] none false (Fdd F2n) := by
  refine mkFn E 30 sc_want_both (by decide) (fun bs R h => by obtain ⟨_, _, rfl, ⟨_, _, _, _, rfl, _⟩, _⟩ := h; rfl) (fun _ _ _ _ _ _ us hl => match us, hl with | [_, _], _ => rfl) fun f cdv A outer s H X fa ca bs R hr hf h => ?_
  obtain ⟨_, _, rfl, ⟨one, other, wd, T, rfl, rfl⟩, rfl⟩ := h
  refine sq_cons (s1_expr (d := .none) ?_ (sq_cons (s1_expr (d := .none) ?_ (sq_nil rfl))))
  · exact ed_callV (dds := []) (ds := [enc one, .str "one"]) (f_want_machine2 E) hr rfl rfl (fun H => .nil) (ad_cons (v 0) (ad_cons ed_str ad_nil)) ⟨one, wd, .str "one", T.k1, rfl, rfl⟩
  · refine ed_callV (dds := [.int (-1)]) (ds := [.bool true, .str "other"]) (f_want E) (hr.mono (by decide)) rfl rfl (fun H => .cons (.int _) .nil) (ad_cons (ed_andT ?_ (ed_and1 ?_)) (ad_cons ed_str ad_nil)) ⟨_, _, rfl, rfl⟩
    · exact ed_call (f_is_machine E) (hr.mono (by decide)) rfl rfl (ad_cons (v 1) ad_nil) ⟨other, wd, T.k2, rfl, rfl⟩
    · have e : decide ((st other 0).length = (st one 0).length) = true := by rw [T.k2.ok.wst T.k2.ok.ne, T.k1.ok.wst T.k1.ok.ne]; exact decide_eq_true rfl
      rw [← e]
      refine eqE (x := (st other 0).length) (y := (st one 0).length) hr ?_ ?_
      · exact lenE (l := st other 0) rfl E.len_ (ixE (n := 0) (v 1) ed_int (st_at T.k2.ok.ne))
      · exact lenE (l := st one 0) rfl E.len_ (ixE (n := 0) (v 0) ed_int (st_at T.k1.ok.ne))
end
end W97
end
section
set_option Elab.async false
set_option linter.all false
set_option maxRecDepth 100000
set_option maxHeartbeats 2000000
namespace W97
open PySem PySem.Spec PyProof.Rows L2 PyEnc
/-- a tuple of three -/
def T3 (α β γ : Type) : Type := α × β × γ
instance {α β γ : Type} [DecidableEq α] [DecidableEq β] [DecidableEq γ] : DecidableEq (T3 α β γ) := inferInstanceAs (DecidableEq (α × β × γ))
def tri {α β γ : Type} (a : α) (b : β) (c : γ) : T3 α β γ := (a, b, c)
instance {α β γ : Type} [DecidableEq α] [DecidableEq β] [DecidableEq γ] [PyEnc α] [PyEnc β] [PyEnc γ] : PyEnc (T3 α β γ) where
  enc t := .tuple [enc t.1, enc t.2.1, enc t.2.2]
  eqv s t := by
    obtain ⟨a1, b1, c1⟩ := s
    obtain ⟨a2, b2, c2⟩ := t
    simp only [PyData.eqv, PyData.eqvAll, PyEnc.eqv, Bool.and_true, ← Bool.decide_and]
    refine decide_eq_decide.mpr ⟨fun ⟨h1, h2, h3⟩ => by rw [h1, h2, h3], fun h => ?_⟩
    injection h with h1 h2
    injection h2 with h2 h3
    exact ⟨h1, h2, h3⟩
  lay t := by simp [PyData.canLay0, PyData.canLayAll0, PyEnc.lay]
  dep := max (PyEnc.dep α) (max (PyEnc.dep β) (PyEnc.dep γ)) + 1
  depth t := by
    have := PyEnc.depth t.1
    have := PyEnc.depth t.2.1
    have := PyEnc.depth t.2.2
    simp only [PyData.depth, PyData.depthAll]
    omega
section
variable {X : Cx} {m : Mo} {ρ : Ab} {a b c e : Expr} {p pos : Pos} {α β γ : Type} [DecidableEq α] [PyEnc α] [DecidableEq β] [PyEnc β] [DecidableEq γ] [PyEnc γ]
theorem trE {x1 : Nat} {x : α} {y : β} {z : γ} (h1 : ED X m ρ a (enc x)) (h2 : ED X m ρ b (enc y)) (h3 : ED X m ρ c (enc z)) (hs : starEach [a, b, c] X.env = (false, eval a X.env) :: starEach [b, c] X.env := by rfl) (hs2 : starEach [b, c] X.env = (false, eval b X.env) :: starEach [c] X.env := by rfl) (hs3 : starEach [c] X.env = (false, eval c X.env) :: starEach [] X.env := by rfl) :
    ED X m ρ (.Tuple [a, b, c] x1 pos) (enc (tri x y z)) := ed_tup (ds := [enc x, enc y, enc z]) (ad_cons h1 (ad_cons h2 (ad_cons h3 ad_nil hs3) hs2) hs) (show 3 ≤ sizeLine by rw [sizeLine_eq]; decide)
theorem t3 (i j l : Nat) {x y z : Str} {p1 p2 p3 : Pos} {k : Nat} {d1 d2 d3 : PyData} (hc : X.calm = true) (hN : X.N.Nodup) (hi : X.N[i]? = some x := by rfl) (hj : X.N[j]? = some y := by rfl) (hl : X.N[l]? = some z := by rfl) (hx : Loc X.env.scope x := by first | exact .inl rfl | exact .inr rfl) (hy : Loc X.env.scope y := by first | exact .inl rfl | exact .inr rfl) (hz : Loc X.env.scope z := by first | exact .inl rfl | exact .inr rfl)
    (hf : X.fn x = true ∨ X.env.scope.names.lookup x = some .local := by first | exact .inl rfl | exact .inr rfl) (hg : X.fn y = true ∨ X.env.scope.names.lookup y = some .local := by first | exact .inl rfl | exact .inr rfl) (hh : X.fn z = true ∨ X.env.scope.names.lookup z = some .local := by first | exact .inl rfl | exact .inr rfl)
    (hn : (assignEach [.Name x p1, .Name y p2, .Name z p3] X.env).length = 3 := by rfl) (hst : (assignEach [.Name x p1, .Name y p2, .Name z p3] X.env).findIdx? (·.1) = none := by rfl)
    (hs : (assignEach [.Name x p1, .Name y p2, .Name z p3] X.env).map (·.2) = assign (.Name x p1) X.env :: (assignEach [.Name y p2, .Name z p3] X.env).map (·.2) := by rfl) (hs2 : (assignEach [.Name y p2, .Name z p3] X.env).map (·.2) = assign (.Name y p2) X.env :: (assignEach [.Name z p3] X.env).map (·.2) := by rfl) (hs3 : (assignEach [.Name z p3] X.env).map (·.2) = assign (.Name z p3) X.env :: (assignEach [] X.env).map (·.2) := by rfl) :
    TGD X (.Tuple [.Name x p1, .Name y p2, .Name z p3] k pos) [i, j, l] (.tuple [d1, d2, d3]) ρ (((ρ.set i (some (.dat d1))).set j (some (.dat d2))).set l (some (.dat d3))) :=
  tgd_tup hc (tgds_cons (tgd_name hN hi hx hf) (tgds_cons (tgd_name hN hj hy hg) (tgds_cons (tgd_name hN hl hz hh) tgds_nil hs3) hs2) hs) rfl hn hst
end
/-- a standing, what the other may stand in -/
abbrev Trip := T3 Nat Nat (List Nat)
def trip (q : Sta) : Trip := tri 0 q.1 q.2
section
variable {P : Program} {w : World} {K : PySem.W.Frag} {mg : Str → Option Value} {base : Heap}
theorem sc_goal_by : FnScope ["guard", "place", "letter"] ["guard", "place", "letter"] (defScope (topS 49)) := ⟨rfl, rfl, rfl, by decide +kernel, rfl, by decide +kernel, by decide +kernel⟩
theorem f_goal_by (E : En K mg) : Fn P w K mg base "goal_by" 1 ["guard", "place", "letter"] none false (Fdd fun ds d => ∃ x y, ds = [.none, x, y] ∧ d = .int 0) := by
  refine mkFn E 33 sc_goal_by (by decide) (fun bs R h => by obtain ⟨_, _, rfl, ⟨_, _, rfl, _⟩, _⟩ := h; rfl) (fun _ _ _ _ _ _ us hl => match us, hl with | [_, _, _], _ => rfl) fun f cdv A outer s H X fa ca bs R hr hf h => ?_
  obtain ⟨_, _, rfl, ⟨x, y, rfl, rfl⟩, rfl⟩ := h
  exact sq_cons (s1_retD (eq_if (k := true) (td_isN (d := .none) (v 0)) (fun _ => ed_int) fun z => by cases z) rfl)
/-- what follows a state, by letter -/
def behindOf (one other : Mc) (w : Nat) (q : Sta) : List (Nat × Trip) := (List.range w).map fun x => (x, trip (succS one other q x))
def Fbehind : List Bd → (Bd → Prop) → Prop := fun bs R => ∃ (one other : Mc) (wd : Nat) (q : Sta), Two one other wd ∧ Fits one.length other.length q ∧ bs = [.dat (enc one), .dat (enc other), .dat .none, .dat (enc (trip q))] ∧ R = (· = .lst .own ((behindOf one other wd q).map enc))
theorem sc_states_behind : FnScope ["one", "other", "guard", "state", "place", "standing", "standings", "found", "letter", "late", "answer", "goal"] ["one", "other", "guard", "state"] (defScope (topS 50)) := ⟨rfl, rfl, rfl, by decide +kernel, rfl, by decide +kernel, by decide +kernel⟩
theorem f_states_behind (E : En K mg) : Fn P w K mg base "states_behind" 3 ["one", "other", "guard", "state"] none false Fbehind := by
  refine mkFn E 34 sc_states_behind (by decide) (fun bs R h => by obtain ⟨_, _, _, _, _, _, rfl, _⟩ := h; rfl) (fun _ _ _ _ _ _ us hl => match us, hl with | [_, _, _, _], _ => rfl) fun f cdv A outer s H X fa ca bs R hr hf h => ?_
  obtain ⟨one, other, wd, q, T, ft, rfl, rfl⟩ := h
  have lS : q.2.length ≤ other.length := up_few ft.2.1 ft.2.2
  have l2 := T.l2
  have lw := T.lw
  have k1 := T.k1.ok
  refine sq_cons (s1_tgt (d := enc (trip q)) (v 3) (t3 4 5 6 rfl sc_states_behind.nd) ?_)
  refine sq_cons (s1_setB (i := 7) (bd := .lst .own []) sc_states_behind.nd rfl (.inl rfl) (el_lst ad_nil (Nat.zero_le _)) ?_)
  refine sq_cons (s1_for PassesOwn.never rfl (itl_enumT (ds := (st one q.1).map enc) rfl E.enumerate_ (ixE (l := one) (n := q.1) (v 0) (v 5) (st_at ft.1))) (fun i ρ' => ρ' = [some (.dat (enc one)), some (.dat (enc other)), some (.dat .none), some (.dat (enc (trip q))), some (.dat (enc 0)), some (.dat (enc q.1)), some (.dat (enc q.2)), some (.lst .own (((List.range i).map fun x => (x, trip (succS one other q x))).map enc)), none, none, none, none]) rfl ?_ ?_ ?_)
  · rintro ρ' rfl; rfl
  · rintro i d ρ' hd rfl
    obtain ⟨c, hc, rfl⟩ := enD_at hd
    have hiw : i < wd := by
      have z := (List.getElem?_eq_some_iff.mp hc).1
      rwa [k1.wst ft.1] at z
    have hcell : c = cell one q.1 i := by
      have z := k1.cell_at ft.1 hiw
      rw [hc] at z
      exact Option.some.inj z
    refine ⟨[8, 9, 10], _, tgd_tup (ds := [.int (i : Nat), enc c]) rfl (tgds_cons (t1 8 sc_states_behind.nd) (tgds_cons (is := [9, 10]) (t2 9 10 rfl sc_states_behind.nd) tgds_nil)) rfl, ?_⟩
    refine sq_cons (s1_setD (i := 11) (d := .int 0) sc_states_behind.nd rfl (.inl rfl) (ed_call (f_goal_by E) (hr.mono (by decide)) rfl rfl (ad_cons (v 2) (ad_cons (v 4) (ad_cons (v 8) ad_nil))) ⟨_, _, rfl, rfl⟩) ?_)
    refine sq_cons (s1_if (k := true) (td_notN (d := .int 0) (v 11)) (fun _ => ?_) fun z => by cases z)
    refine sq_cons (s1_append (i := 7) rfl rfl (.inl rfl) (EQ.mono (Q := (· = .dat (enc (i, trip (succS one other q i))))) ?_ fun b e => ⟨_, e, sq_nil (sq_nilF [8, 9, 10, 11] ?_)⟩) ?_)
    · refine prE (v 8) (trE (v 11) ?_ ?_)
      · rw [show (succS one other q i).1 = c.1 by rw [hcell]; rfl]
        exact v 9
      · rw [show (succS one other q i).2 = leftBy other q.2 i c.2 by rw [hcell]; rfl]
        exact ed_call (f_left_by E) hr rfl rfl (ad_cons (v 1) (ad_cons (v 6) (ad_cons (v 8) (ad_cons (v 10) ad_nil)))) ⟨other, wd, i, c.2, q.2, T.k2.ok, ft.2.2, hiw, by omega, rfl, rfl⟩
    · show _ = _
      rw [List.range_succ, List.map_append, List.map_append]; rfl
    · rw [List.length_map, List.length_map, List.length_range, sizeLine_eq]; omega
  · rintro ρ' rfl
    rw [enD_len, List.length_map, k1.wst ft.1]
    exact sq_cons (s1_retOwn (i := 7) rfl rfl (.inl rfl) rfl)
end
end W97
end
section
set_option Elab.async false
set_option linter.all false
set_option maxRecDepth 100000
set_option maxHeartbeats 2000000
namespace W97
open PySem PySem.Spec PyProof.Rows L2 PyEnc
/-- kinds of ints and tuples alone: two of a kind can be ordered -/
class Nst (α : Type) [DecidableEq α] [PyEnc α] : Prop where
  nst : ∀ x : α, nest (enc x) = true
  alk : ∀ x y : α, PySem.W.alike (enc x) (enc y) = true
theorem nest_map {α : Type} [DecidableEq α] [PyEnc α] [Nst α] : ∀ l : List α, nestAll (l.map enc) = true
  | [] => by rw [List.map_nil, nestAll]
  | x :: l => by rw [List.map_cons, nestAll, Nst.nst, nest_map l]; rfl
theorem alike_map {α : Type} [DecidableEq α] [PyEnc α] [Nst α] : ∀ l k : List α, PySem.W.alikeAll (l.map enc) (k.map enc) = true
  | [], _ => by simp only [List.map_nil, PySem.W.alikeAll]
  | _ :: _, [] => by simp only [List.map_nil, List.map_cons, PySem.W.alikeAll]
  | x :: l, y :: k => by rw [List.map_cons, List.map_cons, PySem.W.alikeAll, Nst.alk, alike_map l k]; rfl
instance : Nst Nat := ⟨fun n => by show nest (.int n) = true; rw [nest], fun i j => by show PySem.W.alike (.int i) (.int j) = true; simp only [PySem.W.alike]⟩
instance {α : Type} [DecidableEq α] [PyEnc α] [Nst α] : Nst (List α) := ⟨fun l => by show nest (.tuple (l.map enc)) = true; rw [nest, nest_map], fun l k => by show PySem.W.alike (.tuple (l.map enc)) (.tuple (k.map enc)) = true; rw [PySem.W.alike, alike_map]⟩
instance {α β : Type} [DecidableEq α] [PyEnc α] [Nst α] [DecidableEq β] [PyEnc β] [Nst β] : Nst (α × β) := ⟨fun p => by show nest (.tuple [enc p.1, enc p.2]) = true; rw [nest, nestAll, Nst.nst, nestAll, Nst.nst, nestAll]; rfl, fun p q => by
  show PySem.W.alike (.tuple [enc p.1, enc p.2]) (.tuple [enc q.1, enc q.2]) = true
  rw [PySem.W.alike, PySem.W.alikeAll, Nst.alk, PySem.W.alikeAll, Nst.alk, PySem.W.alikeAll]; rfl⟩
instance {α β γ : Type} [DecidableEq α] [PyEnc α] [Nst α] [DecidableEq β] [PyEnc β] [Nst β] [DecidableEq γ] [PyEnc γ] [Nst γ] : Nst (T3 α β γ) := ⟨fun p => by show nest (.tuple [enc p.1, enc p.2.1, enc p.2.2]) = true; rw [nest, nestAll, Nst.nst, nestAll, Nst.nst, nestAll, Nst.nst, nestAll]; rfl, fun p q => by
  show PySem.W.alike (.tuple [enc p.1, enc p.2.1, enc p.2.2]) (.tuple [enc q.1, enc q.2.1, enc q.2.2]) = true
  rw [PySem.W.alike, PySem.W.alikeAll, Nst.alk, PySem.W.alikeAll, Nst.alk, PySem.W.alikeAll, Nst.alk, PySem.W.alikeAll]; rfl⟩
section
variable {α β γ : Type} [DecidableEq α] [PyEnc α] [Nst α] [DecidableEq β] [PyEnc β] [Nst β] [DecidableEq γ] [PyEnc γ] [Nst γ]
theorem tk_list (hd : PyEnc.dep (List α) ≤ 8) (l : List α) : TKey (enc l) := ⟨Nst.nst l, Nat.le_trans (PyEnc.depth l) hd, ⟨_, rfl⟩⟩
theorem tk_pair (hd : PyEnc.dep (α × β) ≤ 8) (p : α × β) : TKey (enc p) := ⟨Nst.nst p, Nat.le_trans (PyEnc.depth p) hd, ⟨_, rfl⟩⟩
theorem tk_tri (hd : PyEnc.dep (T3 α β γ) ≤ 8) (p : T3 α β γ) : TKey (enc p) := ⟨Nst.nst p, Nat.le_trans (PyEnc.depth p) hd, ⟨_, rfl⟩⟩
theorem si_tri (hd : PyEnc.dep (T3 α β γ) ≤ 8) (p : T3 α β γ) : SItem (enc p) := ⟨Nst.nst p, Nat.le_trans (PyEnc.depth p) hd, ⟨_, _, rfl⟩⟩
theorem si_list (hd : PyEnc.dep (List α) ≤ 8) {l : List α} (h : l ≠ []) : SItem (enc l) := ⟨Nst.nst l, Nat.le_trans (PyEnc.depth l) hd, by
  cases l with
  | nil => exact absurd rfl h
  | cons x l => exact ⟨_, _, rfl⟩⟩
theorem al_map (l : List α) : PySem.W.AllAlike (l.map enc) := by
  intro d h d' h'
  obtain ⟨x, _, rfl⟩ := List.mem_map.mp h
  obtain ⟨y, _, rfl⟩ := List.mem_map.mp h'
  exact Nst.alk x y
/-- what comes out is of the kind -/
theorem sout_map {l : List α} {out : List PyData} (s : SOut (l.map enc) out) : ∃ k : List α, out = k.map enc ∧ (∀ x, x ∈ k ↔ x ∈ l) ∧ k.length ≤ l.length := by
  have key : ∀ out : List PyData, (∀ d ∈ out, d ∈ l.map enc) → ∃ k : List α, out = k.map enc := by
    intro out
    induction out with
    | nil => exact fun _ => ⟨[], rfl⟩
    | cons d out ih =>
      intro h
      obtain ⟨k, e⟩ := ih fun d hd => h d (List.mem_cons_of_mem _ hd)
      obtain ⟨x, _, e2⟩ := List.mem_map.mp (h d List.mem_cons_self)
      exact ⟨x :: k, by rw [e, ← e2]; rfl⟩
  obtain ⟨k, e⟩ := key out s.sub
  refine ⟨k, e, fun x => ⟨fun h => ?_, fun h => ?_⟩, ?_⟩
  · obtain ⟨y, hy, e2⟩ := List.mem_map.mp (s.sub (enc x) (by rw [e]; exact List.mem_map.mpr ⟨x, h, rfl⟩))
    exact enc_inj e2 ▸ hy
  · have z := s.all (enc x) (List.mem_map.mpr ⟨x, h, rfl⟩)
    rw [e] at z
    obtain ⟨y, hy, e2⟩ := List.mem_map.mp z
    exact enc_inj e2 ▸ hy
  · have z := s.len
    rwa [e, List.length_map, List.length_map] at z
end
section
variable {X : Cx} {m : Mo} {ρ : Ab} {a b c e : Expr} {es : List Expr} {p pos : Pos} {α β γ : Type} [DecidableEq α] [PyEnc α] [DecidableEq β] [PyEnc β] [DecidableEq γ] [PyEnc γ]
theorem tri2E {x : T3 α β γ} (h1 : ED X m ρ a (enc x)) (h2 : ED X m ρ b (.int 1)) (hs : PlainIx b := by intro _ _; rfl) : ED X m ρ (.Subscript a b pos) (enc x.2.1) :=
  ed_ixT (ds := [enc x.1, enc x.2.1, enc x.2.2]) (n := 1) h1 h2 rfl hs
theorem tri3E {x : T3 α β γ} (h1 : ED X m ρ a (enc x)) (h2 : ED X m ρ b (.int 2)) (hs : PlainIx b := by intro _ _; rfl) : ED X m ρ (.Subscript a b pos) (enc x.2.2) :=
  ed_ixT (ds := [enc x.1, enc x.2.1, enc x.2.2]) (n := 2) h1 h2 rfl hs
/-- is it None, where only that is known -/
theorem td_isQ {j : Nat} {p2 : Pos} {t : Bool} (h : EQ X m ρ a fun b => ∃ d, b = .dat d ∧ isNoneD d = t) : TD X m ρ (.Compare a [.Is] [.Constant .none j p2] pos) t := by
  intro σ H HE H0 S Qv kk pins s I
  refine (pt_cmp (pc_isN (pe_ew X a)) rfl).run pins s σ H Qv I (ew_then h S fun v b1 H1 g1 S1 r1 e1 => ?_)
  obtain ⟨d, rfl, hd⟩ := e1
  exact ⟨isNoneD d, by rw [DV.isN r1], kk _ H1 g1 hd⟩
theorem td_notQ {j : Nat} {p2 : Pos} {t : Bool} (h : EQ X m ρ a fun b => ∃ d, b = .dat d ∧ isNoneD d = t) : TD X m ρ (.Compare a [.IsNot] [.Constant .none j p2] pos) (!t) := by
  intro σ H HE H0 S Qv kk pins s I
  refine (pt_cmp (pc_notN (pe_ew X a)) rfl).run pins s σ H Qv I (ew_then h S fun v b1 H1 g1 S1 r1 e1 => ?_)
  obtain ⟨d, rfl, hd⟩ := e1
  exact ⟨!isNoneD d, by rw [DV.isN r1], kk _ H1 g1 (by rw [hd])⟩
/-- a call on data, whatever it gives -/
theorem eq_callD {x : Str} {k : Nat} {ps : List Str} {Fs : List Bd → (Bd → Prop) → Prop} {ds : List PyData} {R : Bd → Prop} (F : Fn X.prog X.w X.K X.mg X.base x k ps none false Fs) (hr' : Room k X.A) (hg : Gl X x) (hw : m.wd = some X.w) (ha : AD X m ρ (e :: es) ds) (hf : Fs (ds.map Bd.dat) R) (hdb : (x == ("__debug__" : Str)) = false := by decide)
    (he : starEach (e :: es) X.env = (false, eval e X.env) :: starEach es X.env := by rfl) (hpl : (backTo pos (starEach es X.env)).any (·.1) = false := by rfl) : EQ X m ρ (.Call (.Name x p) (e :: es) [] pos) R :=
  eq_call F hr' hg hw (.inl rfl) (fun σ H HE H0 S Qv k => ha σ H HE H0 S Qv fun vs bs H' g r q => k vs bs H' g r ⟨(fun _ b hb z => by
    rw [q] at hb
    obtain ⟨d, _, e⟩ := List.mem_map.mp hb
    rw [z] at e
    cases e), ds.map Bd.dat, _, by rw [q], hf, fun b h => h⟩) hdb he hpl
end
section
variable {X : Cx} {m : Mo} {ρ : Ab} {ds : List PyData}
/-- one statement over a list that it does not change -/
theorem s1_freeze {i : Nat} {st : Stmt} {E : AE} (hi : ρ[i]? = some (some (.lst .own ds))) (n0 : noFz ρ)
    (h : S1 X m (ρ.set i (some (.lst .fz ds))) st { nx := fun ρ' => noFz (ρ'.set i none) ∧ E.nx (ρ'.set i none), rt := E.rt, bk := fun ρ' => noFz (ρ'.set i none) ∧ E.bk (ρ'.set i none), ct := fun ρ' => noFz (ρ'.set i none) ∧ E.ct (ρ'.set i none) }) : S1 X m ρ st E := by
  intro σ H HE H0 S D d
  obtain ⟨v, hv, p, vs, ev, h1, h2, h3⟩ := S.slots i _ hi
  -- the heap that stands, with this list
  let H0' : Hp := frzH (ρ.set i none) σ H
  have Sd : SSt X.K m HE H0 (ρ.set i none) σ H := S.drop
  have g0 : Gr m H0 H0' := frz_gr0 Sd
  have S1 := Sd.frz Gr.refl
  have hp : H0' p = some (.lst vs) := frz_some h1 fun j es hj ho hw => by
    have hne : j ≠ i := fun z => by
      subst z
      rw [List.getElem?_set] at hj
      simp only [if_true] at hj
      split at hj <;> cases hj
    rw [List.getElem?_set_ne (fun z => hne z.symm)] at hj
    exact S.apart i j _ _ v (fun z => hne z.symm) hi hj rfl ho hv (by rw [hw, ev])
  have S2 : SSt X.K m HE H0' (ρ.set i (some (.lst .fz ds))) σ H := by
    refine ⟨S.phi, S1.ent, S1.gr, S.fe, S.tb, by rw [List.length_set]; exact S.len, fun j b e => ?_, fun j j' c c' u n e1 e2 o1 o2 => ?_⟩
    · rcases set_at e with ⟨rfl, rfl⟩ | ⟨n, e⟩
      · exact ⟨v, hv, p, vs, ev, .of hp, h2.keep (tk_frz Sd)⟩
      · exact S1.slots j b (by rw [List.getElem?_set_ne (fun z => n z.symm)]; exact e)
    · have old : ∀ {k : Nat} {c : Bd}, (ρ.set i (some (.lst .fz ds)))[k]? = some (some c) → c.own = true → ρ[k]? = some (some c) := fun {k c} ek hk => by
        rcases set_at ek with ⟨rfl, rfl⟩ | ⟨_, ek⟩
        · cases hk
        · exact ek
      exact S.apart j j' c c' u n (old e1 o1) (old e2 o2) o1 o2
  have back : ∀ {ρ' : Ab} {σ' : L2.St} {H' : Hp}, SSt X.K m HE H0' ρ' σ' H' → noFz (ρ'.set i none) → SSt X.K m HE H0 (ρ'.set i none) σ' H' := fun S' n => S'.drop.unfrz g0 S.ent n
  exact h σ H HE H0' S2 D ⟨fun ρ' σ' H' S' q => d.nx _ σ' H' (back S' q.1) q.2, d.rt, fun ρ' σ' H' S' q => d.bk _ σ' H' (back S' q.1) q.2, fun ρ' σ' H' S' q => d.ct _ σ' H' (back S' q.1) q.2⟩
theorem SSt.putN {HE H0 H : Hp} {σ : L2.St} {k : Nat} {b : Bd} {u : V} (S : SSt X.K m HE H0 ρ σ H) (hu : σ[k]? = some (some u)) (hb : holds X.K m HE H0 H u b) (no : b.own = false) : SSt X.K m HE H0 (ρ.set k (some b)) σ H := by
  refine ⟨S.phi, S.ent, S.gr, S.fe, S.tb, by rw [List.length_set]; exact S.len, fun j c e => ?_, fun j j' c c' v n e1 e2 o1 o2 => ?_⟩
  · rcases set_at e with ⟨rfl, rfl⟩ | ⟨_, e⟩
    · exact ⟨u, hu, hb⟩
    · exact S.slots j c e
  · have old : ∀ {i : Nat} {c : Bd}, (ρ.set k (some b))[i]? = some (some c) → c.own = true → ρ[i]? = some (some c) := fun {i c} ek hk => by
      rcases set_at ek with ⟨rfl, rfl⟩ | ⟨_, ek⟩
      · rw [no] at hk; cases hk
      · exact ek
    exact S.apart j j' c c' v n (old e1 o1) (old e2 o2) o1 o2
/-- a list that does not change stands aside for one statement -/
theorem s1_park {k : Nat} {st : Stmt} {E : AE} (hk : ρ[k]? = some (some (.lst .fz ds)))
    (h : ∀ u, S1 X m (ρ.set k (some (.val u))) st { nx := fun ρ' => ρ'[k]? = some (some (.val u)) ∧ E.nx (ρ'.set k (some (.lst .fz ds))), rt := E.rt, bk := fun ρ' => ρ'[k]? = some (some (.val u)) ∧ E.bk (ρ'.set k (some (.lst .fz ds))), ct := fun ρ' => ρ'[k]? = some (some (.val u)) ∧ E.ct (ρ'.set k (some (.lst .fz ds))) }) : S1 X m ρ st E := by
  intro σ H HE H0 S D d
  obtain ⟨u, hu, hh⟩ := S.slots k _ hk
  have back : ∀ {ρ' : Ab} {σ' : L2.St} {H' : Hp}, SSt X.K m HE H0 ρ' σ' H' → ρ'[k]? = some (some (.val u)) → SSt X.K m HE H0 (ρ'.set k (some (.lst .fz ds))) σ' H' := fun S' e => by
    obtain ⟨v, hv, e2⟩ := S'.slots k _ e
    have e2 : v = u := e2
    subst e2
    exact S'.putN hv hh rfl
  exact h u σ H HE H0 (S.putN hu (show u = u from rfl) rfl) D ⟨fun ρ' σ' H' S' q => d.nx _ σ' H' (back S' q.1) q.2, d.rt, fun ρ' σ' H' S' q => d.bk _ σ' H' (back S' q.1) q.2, fun ρ' σ' H' S' q => d.ct _ σ' H' (back S' q.1) q.2⟩
theorem sw_trueD {kx vx : Expr} {gs : List Comprehension} {scope : Scope} {pos py : Pos} {y : Str} {l : Nat} {env : Env} (hk : env.scope.kind = .function) (hy : env.scope.names.lookup y = some .local) (hl : (py.line == pos.line) = true)
    (ha : (scope.names.any fun (n, k) => n == y && (k == .local || k == .cell)) = false) : swapsWith (.DictComp kx vx gs scope pos) (some (.Name y py)) l env = pure true := by
  have ky : env.kindOf y = some .local := hy
  have hb : env.blockKind = .function := by unfold Env.blockKind; rw [hk]; rfl
  unfold swapsWith
  simp only [hb, ky, ha, Expr.pos, hl]
  rfl
/-- for over a tuple of which only something is known -/
theorem s1_forQ {tg iter : Expr} {pos : Pos} {body : List Stmt} {E : AE} {G : List PyData → Prop} (hp : PassesOwn (model X.prog X.w) X.A X.env X.xe) (hc : X.calm = true) (h : EQ X m ρ iter fun b => ∃ ds, b = .dat (.tuple ds) ∧ G ds)
    (hs : ∀ ds, G ds → ∃ I : Nat → Ab → Prop, I 0 ρ ∧ (∀ ρ', I ds.length ρ' → noFz ρ' ∧ E.nx ρ') ∧ ∀ (i : Nat) d ρ', ds[i]? = some d → I i ρ' → ∃ is ρ'', TGD X tg is d ρ' ρ'' ∧ SQ X m ρ'' body { nx := I (i + 1), rt := E.rt, ct := I (i + 1) })
    (hf : ∀ x, foldedSetIterable iter X.env x = pure x := by intro _; rfl) : S1 X m ρ (.For tg iter body [] pos) E := by
  intro σ H HE H0 S D d
  refine s1_of (ps_for hp hc (pi_tup (pe_ew X iter)) (pg_gw X tg) (pss_sw X body) hf) (ew_then h S fun v b H1 g1 S1 r1 e1 => ?_)
  obtain ⟨ds, rfl, hG⟩ := e1
  obtain ⟨I, h0, hd, hst⟩ := hs ds hG
  obtain ⟨p, xs, ev, h1, h2⟩ := DV.tup_eq r1
  exact ⟨p, ev, ⟨xs, h1⟩, for_core (S.frz g1) (src_tup (sqt_frz S1 h1) (h2.keep (tk_frz S1))) h0 hst (fun ρ' σ' H' S' q => d.nx ρ' σ' H' (S'.unfrz (frz_gr0 S1) S.ent (hd ρ' q).1) (hd ρ' q).2) d.rt⟩
theorem lift_map {α β : Type} {f : α → β} {U : List α} : ∀ {k : List β}, (∀ x ∈ k, x ∈ U.map f) → ∃ k' : List α, k = k'.map f ∧ ∀ e ∈ k', e ∈ U
  | [], _ => ⟨[], rfl, fun _ h => by cases h⟩
  | x :: k, h => by
    obtain ⟨k', e, hk⟩ := lift_map (k := k) fun y hy => h y (List.mem_cons_of_mem _ hy)
    obtain ⟨a, ha, e2⟩ := List.mem_map.mp (h x List.mem_cons_self)
    refine ⟨a :: k', by rw [e, ← e2]; rfl, fun b hb => ?_⟩
    rcases List.mem_cons.mp hb with e | e
    · rw [e]; exact ha
    · exact hk b e
end
end W97
end
section
set_option Elab.async false
set_option linter.all false
set_option maxRecDepth 100000
set_option maxHeartbeats 2000000
namespace W97
open PySem PySem.Spec PyProof.Rows L2 PyEnc
section
variable {P : Program} {w : World} {K : PySem.W.Frag} {mg : Str → Option Value} {base : Heap}
def Fbegun : List Bd → (Bd → Prop) → Prop := fun bs R => ∃ (one other : Mc) (wd b : Nat), Two one other wd ∧ bs = [.dat (enc one), .dat (enc other), .dat (enc b)] ∧ R = (· = .lst .own (((begun one other (min b one.length)).map trip).map enc))
theorem sc_states_begun : FnScope ["one", "other", "beats", "standing"] ["one", "other", "beats"] (defScope (topS 51)) := ⟨rfl, rfl, rfl, by decide +kernel, rfl, by decide +kernel, by decide +kernel⟩
theorem f_states_begun (E : En K mg) : Fn P w K mg base "states_begun" 4 ["one", "other", "beats"] none false Fbegun := by
  refine mkFn E 35 sc_states_begun (by decide) (fun bs R h => by obtain ⟨_, _, _, _, _, rfl, _⟩ := h; rfl) (fun _ _ _ _ _ _ us hl => match us, hl with | [_, _, _], _ => rfl) fun f cdv A outer s H X fa ca bs R hr hf h => ?_
  obtain ⟨one, other, wd, b, T, rfl, rfl⟩ := h
  have l1 := T.l1
  have l2 := T.l2
  obtain ⟨hu, hs⟩ := afterI_sub T.k1.ok (min b one.length)
  have hl := up_few hu hs
  refine sq_cons (s1_ret (EQ.mono (Q := (· = .lst .own (((afterI one (min b one.length)).map fun s => trip (s, List.range other.length)).map enc))) ?_ fun x e => by
    rw [e]
    show _ = _
    unfold begun
    simp only [List.map_map]; rfl))
  refine el_mapE [("standing", 3)] rfl sc_states_begun.nd ?it (blkOk_by (by kernel_rfl)) (by omega) fun s hs =>
    ⟨[3], _, by decide, fun _ _ _ _ _ => t1 3 sc_states_begun.nd, fun _ _ _ _ _ => ?_⟩
  case it => exact itc_tup (ds := (afterI one (min b one.length)).map enc) (ed_call (f_after_by E) hr rfl rfl (ad_cons (v 0) (ad_cons (v 2) ad_nil)) ⟨one, wd, b, T.k1, rfl, rfl⟩)
  exact trE ed_int (v 3) (ed_call (f_all_standings E) (hr.mono (by decide)) rfl rfl (ad_cons (v 1) ad_nil) ⟨other, rfl, by omega, rfl⟩)
/-- what a level keeps of a state: the letters, the standing at first, the state -/
abbrev E3 := List Nat × Nat × Sta
def en3 (e : E3) : T3 (List Nat) Nat Trip := tri e.1 e.2.1 (trip e.2.2)
def sD (S : List Sta) : List (PyData × PyData) := S.map fun q => (enc (trip q), .bool true)
theorem trip_inj {p q : Sta} (h : trip p = trip q) : p = q := congrArg Prod.snd (show ((0 : Nat), p) = (0, q) from h)
theorem sD_keys (S : List Sta) : (sD S).map (·.1) = S.map fun q => enc (trip q) := by
  unfold sD
  rw [List.map_map]; rfl
theorem sD_in {S : List Sta} {q : Sta} : decide (q ∈ S) = true ↔ enc (trip q) ∈ (sD S).map (·.1) := by
  rw [sD_keys, List.mem_map, decide_eq_true_eq]
  exact ⟨fun h => ⟨q, h, rfl⟩, fun ⟨y, h, e⟩ => trip_inj (enc_inj e) ▸ h⟩
theorem sD_tup (S : List Sta) : TupKeys (sD S) := fun kv h => by
  obtain ⟨q, _, rfl⟩ := List.mem_map.mp h
  exact ⟨_, rfl⟩
theorem sD_snoc (S : List Sta) (q : Sta) : sD S ++ [(enc (trip q), .bool true)] = sD (S ++ [q]) := by
  unfold sD
  rw [List.map_append]; rfl
theorem tk_trip (q : Sta) : TKey (enc (trip q)) := tk_tri (by decide) _
def stepE (one other : Mc) (wd : Nat) (e : E3) : List E3 := (List.range wd).map fun x => (e.1 ++ [x], e.2.1, succS one other e.2.2 x)
theorem stepE_len (one other : Mc) (wd : Nat) (e : E3) : (stepE one other wd e).length = wd := by
  unfold stepE
  rw [List.length_map, List.length_range]
theorem steps_len (one other : Mc) (wd : Nat) : ∀ L : List E3, (L.flatMap (stepE one other wd)).length = L.length * wd
  | [] => (Nat.zero_mul _).symm
  | e :: L => by rw [List.flatMap_cons, List.length_append, stepE_len, steps_len one other wd L, List.length_cons, Nat.succ_mul, Nat.add_comm]
def Ffails : List Bd → (Bd → Prop) → Prop := fun bs R => ∃ (one other : Mc) (wd : Nat) (qs : List Sta) (t : Bool), Two one other wd ∧ one.length * 2 ^ other.length * wd ≤ 1200 ∧ qs.Nodup ∧ (∀ q ∈ qs, Fits one.length other.length q ∧ q.2 ≠ []) ∧ (t = true ↔ ¬ Bad wd one other qs) ∧
  bs = [.dat (enc one), .dat (enc other), .dat .none, .lst .par ((qs.map trip).map enc)] ∧ R = fun b => ∃ d, b = .dat d ∧ isNoneD d = t
theorem sc_failing_from : FnScope ["one", "other", "guard", "states", "level", "seen", "late", "letters", "begun", "state", "letter", "behind"] ["one", "other", "guard", "states"] (defScope (topS 52)) := ⟨rfl, rfl, rfl, by decide +kernel, rfl, by decide +kernel, by decide +kernel⟩
theorem f_failing_from (E : En K mg) : Fn P w K mg base "failing_from" 4 ["one", "other", "guard", "states"] none false Ffails := by
  refine mkFn E 36 sc_failing_from (by decide) (fun bs R h => by obtain ⟨_, _, _, _, _, _, _, _, _, _, rfl, _⟩ := h; rfl) (fun _ _ _ _ _ _ us hl => match us, hl with | [_, _, _, _], _ => rfl) fun f cdv A outer s H X fa ca bs R hr hf h => ?_
  obtain ⟨one, other, wd, qs, t, T, hsz, hnd, hq, ht, rfl, rfl⟩ := h
  have l1 := T.l1
  have l2 := T.l2
  have lw := T.lw
  have k1 := T.k1.ok
  have k2 := T.k2.ok
  have hqs : qs.length ≤ one.length * 2 ^ other.length := seen_bd hnd fun q h => (hq q h).1
  have hbd : one.length * 2 ^ other.length ≤ 1200 := Nat.le_trans (Nat.le_mul_of_pos_right _ k1.wp) hsz
  refine sq_cons (s1_setMapE (l := qs.map trip) (g := fun q : Trip => (tri [] q.2.1 q : T3 (List Nat) Nat Trip)) [("state", 9)] rfl sc_failing_from.nd (i := 4) rfl rfl (itc_lst (vl 3)) (blkOk_by (by kernel_rfl)) (by rw [List.length_map]; omega) (fun q hqm =>
    ⟨[9], _, by decide, fun _ _ _ _ _ => t1 9 sc_failing_from.nd, fun _ _ _ _ _ => ?_⟩) ?_ (sw_true rfl rfl rfl (by decide +kernel)))
  · exact trE (ed_tup ad_nil (Nat.zero_le _)) (tri2E (v 9) ed_int) (v 9)
  refine sq_cons (s1_setDcN (i := 5) hr rfl rfl sc_failing_from.nd rfl rfl (itc_lst (vl 3)) (blkOk_by (own := [("state", 9)]) (by kernel_rfl)) (by rw [List.length_map, List.length_map]; omega) (fun d => d) (fun _ => .bool true) ?_ ?_ (fun d hd => ⟨[9], _, by decide, fun _ _ _ _ _ => t1 9 sc_failing_from.nd, fun _ _ _ _ _ => v 9, fun _ _ _ _ _ => ed_bl⟩) ?_ (sw_trueD rfl rfl rfl (by decide +kernel)))
  · rw [List.map_map, List.map_map]
    exact List.pairwise_map.mpr (hnd.imp fun hne e => hne (trip_inj (enc_inj e)))
  · intro d hd
    obtain ⟨x, _, rfl⟩ := List.mem_map.mp hd
    exact tk_tri (by decide) x
  refine sq_cons (s1_while PassesOwn.never (fun n ρ' => ∃ (seen : List Sta) (L : List E3), n = 2 * (one.length * 2 ^ other.length - seen.length) + (if L = [] then 0 else 1) ∧ seen.Nodup ∧ (∀ q ∈ seen, Fits one.length other.length q) ∧ Lev wd one other qs seen (L.map (·.2.2)) ∧ L.length ≤ seen.length ∧ (∀ e ∈ L, e.1.length ≤ seen.length) ∧
    ρ' = [some (.dat (enc one)), some (.dat (enc other)), some (.dat .none), some (.lst .par ((qs.map trip).map enc)), some (.lst .own ((L.map en3).map enc)), some (.dct .own (sD seen)), none, none, none, none, none, none]) ⟨_, qs, qs.map fun q => ([], q.1, q), rfl, hnd, fun q h => (hq q h).1, ?_, ?_, ?_, ?_⟩ ?_)
  · rw [List.map_map]
    show Lev wd one other qs qs (qs.map fun q => q)
    rw [List.map_id']
    exact Lev.start fun q h => (hq q h).2
  · rw [List.length_map]; exact Nat.le_refl _
  · intro e he
    obtain ⟨q, _, rfl⟩ := List.mem_map.mp he
    exact Nat.zero_le _
  · show [_, _, _, _, some (Bd.lst .own _), some (Bd.dct .own _), _, _, _, _, _, _] = _
    simp only [sD, List.map_map]
    rfl
  rintro n ρ' ⟨seen, L, rfl, hnd', hfit, V, hLl, hel0, rfl⟩
  refine ⟨_, td_gt (lenL (l := L.map en3) rfl E.len_ (vl 4)) ed_int, fun hc => ?_, fun hc => ?_⟩
  · have hpos : L ≠ [] := by
      rintro rfl
      simp at hc
    have bnd : L.length * wd ≤ 1200 := Nat.le_trans (Nat.mul_le_mul_right _ (Nat.le_trans hLl (seen_bd hnd' hfit))) hsz
    refine sq_cons (s1_setB (i := 6) (bd := .lst .own []) sc_failing_from.nd rfl (.inl rfl) (el_lst ad_nil (Nat.zero_le _)) ?_)
    refine sq_cons (s1_freeze (i := 4) rfl rfl (s1_forS PassesOwn.never rfl (its_var (k := .fz) (i := 4) (by intro z; cases z) rfl rfl (.inl rfl)) (fun i ρ' => ρ' = [some (.dat (enc one)), some (.dat (enc other)), some (.dat .none), some (.lst .par ((qs.map trip).map enc)), some (.lst .fz ((L.map en3).map enc)), some (.dct .own (sD seen)), some (.lst .own ((((L.take i).flatMap (stepE one other wd)).map en3).map enc)), none, none, none, none, none]) rfl ?_ ?_))
    · rintro i d ρ' hd rfl
      obtain ⟨y, hy, rfl⟩ := take_map hd
      rw [List.getElem?_map] at hy
      obtain ⟨e, he, rfl⟩ := Option.map_eq_some_iff.mp hy
      have hil : i < L.length := (List.getElem?_eq_some_iff.mp he).1
      have fe : Fits one.length other.length e.2.2 := hfit _ (V.sub _ (List.mem_map.mpr ⟨e, List.mem_of_getElem? he, rfl⟩))
      refine ⟨[7, 8, 9], _, t3 7 8 9 rfl sc_failing_from.nd, sq_cons (s1_park (k := 4) rfl fun u => s1_for PassesOwn.never rfl (itl_lst (ds := (behindOf one other wd e.2.2).map enc) (eq_callD (f_states_behind E) hr rfl rfl (ad_cons (v 0) (ad_cons (v 1) (ad_cons (v 2) (ad_cons (v 9) ad_nil)))) ⟨one, other, wd, e.2.2, T, fe, rfl, rfl⟩)) (fun j ρ' => ρ' = [some (.dat (enc one)), some (.dat (enc other)), some (.dat .none), some (.lst .par ((qs.map trip).map enc)), some (.val u), some (.dct .own (sD seen)), some (.lst .own ((((L.take i).flatMap (stepE one other wd) ++ (stepE one other wd e).take j).map en3).map enc)), some (.dat (enc e.1)), some (.dat (enc e.2.1)), some (.dat (enc (trip e.2.2))), none, none]) ?_ ?_ ?_ ?_)⟩
      · rw [List.take_zero, List.append_nil]; rfl
      · rintro ρ' rfl; rfl
      · rintro j d ρ' hd rfl
        obtain ⟨y, hy, rfl⟩ := take_map hd
        unfold behindOf at hy
        rw [List.getElem?_map] at hy
        obtain ⟨x, hx, rfl⟩ := Option.map_eq_some_iff.mp hy
        have hst : (stepE one other wd e)[j]? = some (e.1 ++ [x], e.2.1, succS one other e.2.2 x) := by
          unfold stepE
          rw [List.getElem?_map, hx]; rfl
        have hcat : enc (e.1 ++ [x]) = .tuple (e.1.map enc ++ [enc x]) := by
          show PyData.tuple ((e.1 ++ [x]).map enc) = _
          rw [List.map_append]; rfl
        have hel : e.1.length ≤ 2000 := by
          have z := hel0 e (List.mem_of_getElem? he)
          have z2 := seen_bd hnd' hfit
          omega
        refine ⟨[10, 11], _, t2 10 11 rfl sc_failing_from.nd, sq_cons (s1_append (i := 6) rfl rfl (.inl rfl) (EQ.mono (Q := (· = .dat (enc (en3 (e.1 ++ [x], e.2.1, succS one other e.2.2 x))))) (trE (x := e.1 ++ [x]) (y := e.2.1) (z := trip (succS one other e.2.2 x)) ?_ (v 8) (v 11)) fun b eb => ⟨_, eb, sq_nilF [10, 11] ?_⟩) ?_)⟩
        · rw [hcat]
          exact ed_tup (ad_star (EQ.items (ds := e.1.map enc) (v 7)) (ad_cons (v 10) ad_nil)) (by rw [List.length_append, List.length_map, sizeLine_eq]; show e.1.length + 1 ≤ _; omega)
        · show _ = _
          rw [take_next hst, ← List.append_assoc, List.map_append (l₁ := _ ++ _), List.map_append (l₁ := List.map _ _)]; rfl
        · rw [List.length_map, List.length_map, List.length_append, steps_len, List.length_take, List.length_take, stepE_len]
          have : min i L.length * wd ≤ L.length * wd := Nat.mul_le_mul_right _ (Nat.min_le_right _ _)
          rw [sizeLine_eq]
          omega
      · rintro ρ' rfl
        refine ⟨rfl, sq_nilF [7, 8, 9] ?_⟩
        show _ = _
        rw [take_next he, List.flatMap_append, show ((behindOf one other wd e.2.2).map enc).length = (stepE one other wd e).length by rw [stepE_len, List.length_map]; unfold behindOf; rw [List.length_map, List.length_range], List.take_length]
        simp only [List.flatMap_cons, List.flatMap_nil, List.append_nil]
        rfl
    · rintro ρ' rfl
      refine ⟨rfl, ?_⟩
      rw [List.length_map, List.length_map, List.take_length]
      generalize hU : L.flatMap (stepE one other wd) = U
      have hUm : ∀ e ∈ U, ∃ p ∈ L, ∃ x, x < wd ∧ e = (p.1 ++ [x], p.2.1, succS one other p.2.2 x) := fun e he => by
        rw [← hU] at he
        obtain ⟨p, hp, he⟩ := List.mem_flatMap.mp he
        obtain ⟨x, hx, rfl⟩ := List.mem_map.mp he
        exact ⟨p, hp, x, List.mem_range.mp hx, rfl⟩
      have hUl : U.length ≤ 1200 := by rw [← hU, steps_len]; exact bnd
      refine sq_cons (s1_setB (i := 4) (bd := .lst .own []) sc_failing_from.nd rfl (.inl rfl) (el_lst ad_nil (Nat.zero_le _)) ?_)
      refine sq_cons (s1_forQ (G := fun out => SOut ((U.map en3).map enc) out) PassesOwn.never rfl (eq_asSetD (f_as_set E) hr (by decide) rfl rfl (vl 6) (by rw [List.length_map, List.length_map]; exact hUl) (fun d hd => by
        obtain ⟨x, _, rfl⟩ := List.mem_map.mp hd
        exact si_tri (by decide) x) (al_map _)) fun out ho => ?_)
      obtain ⟨k3, rfl, hk, hkl⟩ := sout_map ho
      obtain ⟨k, rfl, hkU⟩ := lift_map fun x hx => (hk x).1 hx
      rw [List.length_map, List.length_map] at hkl
      have hall : ∀ e ∈ U, ∃ e' ∈ k, e'.2.2 = e.2.2 := fun e he => by
        obtain ⟨e', he', z⟩ := List.mem_map.mp ((hk (en3 e)).2 (List.mem_map.mpr ⟨e, he, rfl⟩))
        exact ⟨e', he', trip_inj (congrArg (fun t : T3 (List Nat) Nat Trip => t.2.2) z)⟩
      refine ⟨fun i ρ' => ∃ L' : List E3, (seen ++ L'.map (·.2.2)).Nodup ∧ (∀ e ∈ L', e ∈ U ∧ e.2.2.2 ≠ []) ∧ (∀ e ∈ k.take i, e.2.2 ∈ seen ++ L'.map (·.2.2)) ∧
        ρ' = [some (.dat (enc one)), some (.dat (enc other)), some (.dat .none), some (.lst .par ((qs.map trip).map enc)), some (.lst .own ((L'.map en3).map enc)), some (.dct .own (sD (seen ++ L'.map (·.2.2)))), some (.lst .own ((U.map en3).map enc)), none, none, none, none, none], ⟨[], ?_, ?_, ?_, ?_⟩, ?_, ?_⟩
      · rw [List.map_nil, List.append_nil]; exact hnd'
      · intro e he; cases he
      · intro e he; cases he
      · rw [show seen ++ ([] : List E3).map (·.2.2) = seen from List.append_nil _]; rfl
      · rintro ρ' ⟨L', hn2, hm2, hs2, rfl⟩
        refine ⟨rfl, sq_nilF [6] ?_⟩
        rw [List.length_map, List.length_map, List.take_length] at hs2
        have hfit2 : ∀ q ∈ seen ++ L'.map (·.2.2), Fits one.length other.length q := fun q hq => by
          rcases List.mem_append.mp hq with h | h
          · exact hfit q h
          · obtain ⟨e, he, rfl⟩ := List.mem_map.mp h
            obtain ⟨p, hp, x, hx, e2⟩ := hUm e (hm2 e he).1
            rw [e2]
            exact succ_fits k1 k2 (hfit _ (V.sub _ (List.mem_map.mpr ⟨p, hp, rfl⟩))) hx
        have hsl := seen_bd hn2 hfit2
        have hsl0 := seen_bd hnd' hfit
        have hln : (seen ++ L'.map (·.2.2)).length = seen.length + L'.length := by rw [List.length_append, List.length_map]
        refine ⟨_, ?_, seen ++ L'.map (·.2.2), L', rfl, hn2, hfit2, V.next (fun q h => List.mem_append_left _ h) (fun q h => List.mem_append_right _ h) (fun q h => List.mem_append.mp h) (fun q hq x hx => ?_) (fun q hq => ?_), ?_, fun e he => ?_, rfl⟩
        · rw [if_neg hpos, hln]
          rw [hln] at hsl
          by_cases c : L' = []
          · rw [if_pos c]; omega
          · rw [if_neg c]
            have := List.length_pos_iff.mpr c
            omega
        · obtain ⟨p, hp, rfl⟩ := List.mem_map.mp hq
          obtain ⟨e', he', z⟩ := hall (p.1 ++ [x], p.2.1, succS one other p.2.2 x) (by
            rw [← hU]
            exact List.mem_flatMap.mpr ⟨p, hp, List.mem_map.mpr ⟨x, List.mem_range.mpr hx, rfl⟩⟩)
          have z2 := hs2 e' he'
          rw [z] at z2
          exact z2
        · obtain ⟨e, he, rfl⟩ := List.mem_map.mp hq
          obtain ⟨p, hp, x, hx, e2⟩ := hUm e (hm2 e he).1
          exact ⟨(hm2 e he).2, p.2.2, List.mem_map.mpr ⟨p, hp, rfl⟩, x, hx, by rw [e2]⟩
        · rw [hln]; omega
        · obtain ⟨p, hp, x, hx, e2⟩ := hUm e (hm2 e he).1
          have z := hel0 p hp
          have z2 := List.length_pos_of_mem he
          rw [hln, e2, List.length_append]
          show p.1.length + 1 ≤ _
          omega
      · rintro i d ρ' hd ⟨L', hn2, hm2, hs2, rfl⟩
        obtain ⟨y, hy, rfl⟩ := take_map hd
        rw [List.getElem?_map] at hy
        obtain ⟨e, he, rfl⟩ := Option.map_eq_some_iff.mp hy
        have heU := hkU e (List.mem_of_getElem? he)
        refine ⟨[7, 8, 9], _, t3 7 8 9 rfl sc_failing_from.nd, sq_cons (s1_if (k := decide (e.2.2.2.length = 0)) (td_eqNat hr (lenE (l := e.2.2.2) rfl E.len_ (tri3E (x := trip e.2.2) (v 9) ed_int)) ed_int) (fun hc2 => ?_) fun hc2 => ?_)⟩
        · obtain ⟨p, hp, x, hx, e2⟩ := hUm e heU
          have hb : Bad wd one other qs := V.fails (q := p.2.2) (List.mem_map.mpr ⟨p, hp, rfl⟩) hx (by
            have z : e.2.2.2 = [] := List.length_eq_zero_iff.mp (of_decide_eq_true hc2)
            rw [e2] at z
            exact z)
          exact sq_cons (s1_retD (prE (v 8) (v 7)) ⟨_, rfl, show false = t from by
            cases t with
            | false => rfl
            | true => exact absurd hb (ht.1 rfl)⟩)
        have hne : e.2.2.2 ≠ [] := fun z => of_decide_eq_false hc2 (by rw [z]; rfl)
        have hfit2 : ∀ q ∈ seen ++ L'.map (·.2.2), Fits one.length other.length q := fun q hq => by
          rcases List.mem_append.mp hq with h | h
          · exact hfit q h
          · obtain ⟨e, he, rfl⟩ := List.mem_map.mp h
            obtain ⟨p, hp, x, hx, e2⟩ := hUm e (hm2 e he).1
            rw [e2]
            exact succ_fits k1 k2 (hfit _ (V.sub _ (List.mem_map.mpr ⟨p, hp, rfl⟩))) hx
        have hsl := seen_bd hn2 hfit2
        have hll : L'.length ≤ (seen ++ L'.map (·.2.2)).length := by rw [List.length_append, List.length_map]; omega
        refine sq_nil (sq_cons (s1_if (td_dnin (i := 5) (lk := .own) hr rfl (by intro z; cases z) rfl rfl (by first | exact .inl rfl | exact .inr (.inl rfl) | exact .inr (.inr rfl)) (sD_tup _) (tk_trip e.2.2) (v 9) sD_in) (fun hc3 => ?_) fun hc3 => ?_))
        · have hn : e.2.2 ∉ seen ++ L'.map (·.2.2) := by simpa using hc3
          refine sq_cons (s1_dput (i := 5) (kvs := sD (seen ++ L'.map (·.2.2))) (d := enc (trip e.2.2)) (dv := .bool true) hr rfl rfl rfl (by first | exact .inl rfl | exact .inr (.inl rfl) | exact .inr (.inr rfl)) (sD_tup _) (tk_trip e.2.2) ed_bl (v 9) (fun h => hn (of_decide_eq_true (sD_in.2 h))) (by unfold sD; rw [List.length_map]; omega) ?_)
          refine sq_cons (s1_append (i := 4) rfl rfl (.inl rfl) (EQ.mono (Q := (· = .dat (enc (en3 e)))) (trE (x := e.1) (y := e.2.1) (z := trip e.2.2) (v 7) (v 8) (v 9)) fun b eb => ⟨_, eb, sq_nil (sq_nilF [7, 8, 9] ⟨L' ++ [e], ?_, fun e2 h2 => ?_, fun e2 h2 => ?_, ?_⟩)⟩) (by rw [List.length_map, List.length_map, sizeLine_eq]; omega))
          · rw [List.map_append, ← List.append_assoc]
            exact List.nodup_append.mpr ⟨hn2, List.nodup_cons.mpr ⟨(fun z => by cases z), List.nodup_nil⟩, fun a ha b hb z => hn (by
              have z : a = e.2.2 := by rw [z]; exact List.mem_singleton.mp hb
              rw [← z]; exact ha)⟩
          · rcases List.mem_append.mp h2 with h | h
            · exact hm2 e2 h
            · rw [List.mem_singleton.mp h]; exact ⟨heU, hne⟩
          · rw [take_next he] at h2
            rw [List.map_append, ← List.append_assoc]
            rcases List.mem_append.mp h2 with h | h
            · exact List.mem_append_left _ (hs2 e2 h)
            · rw [List.mem_singleton.mp h]; exact List.mem_append_right _ List.mem_cons_self
          · show _ = _
            rw [show seen ++ (L' ++ [e]).map (fun x : E3 => x.2.2) = (seen ++ L'.map (fun x : E3 => x.2.2)) ++ [e.2.2] by rw [List.map_append, ← List.append_assoc]; rfl, ← sD_snoc, List.map_append (f := en3), List.map_append (f := enc)]
            rfl
        · have hn : e.2.2 ∈ seen ++ L'.map (·.2.2) := by simpa using hc3
          refine sq_nil (sq_nilF [7, 8, 9] ⟨L', hn2, hm2, fun e2 h2 => ?_, rfl⟩)
          rw [take_next he] at h2
          rcases List.mem_append.mp h2 with h | h
          · exact hs2 e2 h
          · rw [List.mem_singleton.mp h]; exact hn
  · have hL : L = [] := by
      cases L with
      | nil => rfl
      | cons e L => simp at hc
    subst hL
    exact sq_cons (s1_retD ed_non ⟨_, rfl, (ht.mpr V.stop).symm⟩)
end
end W97
end
section
set_option Elab.async false
set_option linter.all false
set_option maxRecDepth 100000
set_option maxHeartbeats 2000000
namespace W97
open PySem PySem.Spec PyProof.Rows L2 PyEnc
section
variable {X : Cx} {m : Mo} {ρ : Ab} {e : Expr} {es : List Expr} {d : PyData} {ds : List PyData} {o : LK}
theorem aq_dat {Q : List Bd → Prop} (h : ED X m ρ e d) (h2 : AQ X m ρ es fun bs => Q (.dat d :: bs)) (hs : starEach (e :: es) X.env = (false, eval e X.env) :: starEach es X.env := by rfl) : AQ X m ρ (e :: es) Q :=
  aq_cons (h.mono fun b eb => by subst eb; exact h2) hs
theorem aq_lst {Q : List Bd → Prop} (h : EQ X m ρ e (· = .lst o ds)) (h2 : AQ X m ρ es fun bs => Q (.lst o ds :: bs)) (hs : starEach (e :: es) X.env = (false, eval e X.env) :: starEach es X.env := by rfl) : AQ X m ρ (e :: es) Q :=
  aq_cons (h.mono fun b eb => by subst eb; exact h2) hs
theorem ed_isQ {a : Expr} {j : Nat} {pos pos' : Pos} {t : Bool} (h : EQ X m ρ a fun b => ∃ d, b = .dat d ∧ isNoneD d = t) : ED X m ρ (.Compare a [.Is] [.Constant .none j pos'] pos) (.bool t) := by
  intro σ H HE H0 S Qv k
  refine ew_of (pe_cmp (pc_isN (pe_ew X a)) rfl) (ew_then h S fun x b1 H1 g1 S1 r1 e1 => ?_)
  obtain ⟨d, rfl, hd⟩ := e1
  refine k _ (.dat (.bool t)) H1 g1 ?_ rfl
  rw [DV.isN r1, hd]
  exact .bl _
end
/-- small enough for the search by levels -/
def Small (one other : Mc) (wd : Nat) : Prop := one.length * 2 ^ other.length * wd ≤ 1200
theorem begun_ok {one other : Mc} {wd b : Nat} (T : Two one other wd) : (begun one other b).Nodup ∧ ∀ q ∈ begun one other b, Fits one.length other.length q ∧ q.2 ≠ [] := by
  obtain ⟨hu, hs⟩ := afterI_sub T.k1.ok b
  refine ⟨List.pairwise_map.mpr ((up_nodup hu).imp fun hne e => hne (congrArg Prod.fst e)), fun q hq => ?_⟩
  obtain ⟨s, h, rfl⟩ := List.mem_map.mp hq
  exact ⟨⟨hs s h, up_range _, fun t ht => List.mem_range.mp ht⟩, fun z => Nat.ne_of_gt T.k2.ok.ne (by rw [← List.length_range (n := other.length), show List.range other.length = [] from z]; rfl)⟩
section
variable {P : Program} {w : World} {K : PySem.W.Frag} {mg : Str → Option Value} {base : Heap}
def Ffby : List Bd → (Bd → Prop) → Prop := fun bs R => ∃ (one other : Mc) (wd b : Nat) (t : Bool), Two one other wd ∧ Small one other wd ∧ (t = true ↔ ¬ Bad wd one other (begun one other (min b one.length))) ∧ bs = [.dat (enc one), .dat (enc other), .dat (enc b), .dat .none] ∧ R = fun b => ∃ d, b = .dat d ∧ isNoneD d = t
theorem sc_failing_by : FnScope ["one", "other", "beats", "guard"] ["one", "other", "beats", "guard"] (defScope (topS 53)) := ⟨rfl, rfl, rfl, by decide +kernel, rfl, by decide +kernel, by decide +kernel⟩
theorem f_failing_by (E : En K mg) : Fn P w K mg base "failing_by" 5 ["one", "other", "beats", "guard"] none false Ffby := by
  refine mkFn E 37 sc_failing_by (by decide) (fun bs R h => by obtain ⟨_, _, _, _, _, _, _, _, rfl, _⟩ := h; rfl) (fun _ _ _ _ _ _ us hl => match us, hl with | [_, _, _, _], _ => rfl) fun f cdv A outer s H X fa ca bs R hr hf h => ?_
  obtain ⟨one, other, wd, b, t, T, sm, ht, rfl, rfl⟩ := h
  have hq := begun_ok (b := min b one.length) T
  refine sq_cons (s1_ret (eq_call (f_failing_from E) hr rfl rfl (.inl rfl) (aq_dat (v 0) (aq_dat (v 1) (aq_dat (v 3) (aq_lst (eq_callD (f_states_begun E) hr rfl rfl (ad_cons (v 0) (ad_cons (v 1) (ad_cons (v 2) ad_nil))) ⟨one, other, wd, b, T, rfl, rfl⟩) (aq_nil ⟨fun _ c hc => ?_, [.dat (enc one), .dat (enc other), .dat .none, .lst .par (((begun one other (min b one.length)).map trip).map enc)], _, rfl, ⟨one, other, wd, begun one other (min b one.length), t, T, sm, hq.1, hq.2, ht, rfl, rfl⟩, fun b h => h⟩)))))))
  rcases List.mem_cons.mp hc with e | hc
  · rw [e]; exact fun z => by cases z
  rcases List.mem_cons.mp hc with e | hc
  · rw [e]; exact fun z => by cases z
  rcases List.mem_cons.mp hc with e | hc
  · rw [e]; exact fun z => by cases z
  rw [List.mem_singleton.mp hc]; exact fun z => by cases z
theorem sc_may_by : FnScope ["one", "other", "beats", "guard"] ["one", "other", "beats", "guard"] (defScope (topS 54)) := ⟨rfl, rfl, rfl, by decide +kernel, rfl, by decide +kernel, by decide +kernel⟩
def Fmay : List PyData → PyData → Prop := fun ds d => ∃ (one other : Mc) (wd b : Nat) (t : Bool), Two one other wd ∧ Small one other wd ∧ (t = true ↔ ¬ Bad wd one other (begun one other (min b one.length))) ∧ ds = [enc one, enc other, enc b, .none] ∧ d = .bool t
theorem f_may_by (E : En K mg) : Fn P w K mg base "may_by" 6 ["one", "other", "beats", "guard"] none false (Fdd Fmay) := by
  refine mkFn E 38 sc_may_by (by decide) (fun bs R h => by obtain ⟨_, _, rfl, ⟨_, _, _, _, _, _, _, _, rfl, _⟩, _⟩ := h; rfl) (fun _ _ _ _ _ _ us hl => match us, hl with | [_, _, _, _], _ => rfl) fun f cdv A outer s H X fa ca bs R hr hf h => ?_
  obtain ⟨_, _, rfl, ⟨one, other, wd, b, t, T, sm, ht, rfl, rfl⟩, rfl⟩ := h
  exact sq_cons (s1_retD (ed_isQ (eq_callD (f_failing_by E) hr rfl rfl (ad_cons (v 0) (ad_cons (v 1) (ad_cons (v 2) (ad_cons (v 3) ad_nil)))) ⟨one, other, wd, b, t, T, sm, ht, rfl, rfl⟩)) rfl)
theorem sc_least_by : FnScope ["one", "other", "guard", "beats"] ["one", "other", "guard"] (defScope (topS 55)) := ⟨rfl, rfl, rfl, by decide +kernel, rfl, by decide +kernel, by decide +kernel⟩
/-- with no plain row there is no least -/
theorem f_least_by (E : En K mg) : Fn P w K mg base "least_by" 7 ["one", "other", "guard"] none false (Fdd fun ds d => ∃ (one other : Mc) (wd : Nat), Two one other wd ∧ Small one other wd ∧ (¬ ∃ r, Plain wd one other r) ∧ ds = [enc one, enc other, .none] ∧ d = .none) := by
  refine mkFn E 39 sc_least_by (by decide) (fun bs R h => by obtain ⟨_, _, rfl, ⟨_, _, _, _, _, _, rfl, _⟩, _⟩ := h; rfl) (fun _ _ _ _ _ _ us hl => match us, hl with | [_, _, _], _ => rfl) fun f cdv A outer s H X fa ca bs R hr hf h => ?_
  obtain ⟨_, _, rfl, ⟨one, other, wd, T, sm, np, rfl, rfl⟩, rfl⟩ := h
  have l1 := T.l1
  refine sq_cons (s1_for PassesOwn.never rfl (itl_rg1 (n := one.length + 1) rfl E.range_ (addE (i := one.length) (j := 1) (lenE rfl E.len_ (v 0)) ed_int) (by omega)) (fun i ρ' => ρ' = [some (.dat (enc one)), some (.dat (enc other)), some (.dat .none), none]) rfl ?_ ?_ ?_)
  · rintro ρ' rfl; rfl
  · rintro i d ρ' hd rfl
    obtain ⟨x, hx, rfl⟩ := take_map hd
    have hb : false = true ↔ ¬ Bad wd one other (begun one other (min x one.length)) := ⟨(fun z => by cases z), fun h => absurd (may_plain T.k1.ok T.k2.ok h) np⟩
    refine ⟨[3], _, t1 3 sc_least_by.nd, sq_cons (s1_if (k := false) (td_val (ed_call (f_may_by E) hr rfl rfl (ad_cons (v 0) (ad_cons (v 1) (ad_cons (v 3) (ad_cons (v 2) ad_nil)))) ⟨one, other, wd, x, false, T, sm, hb, rfl, rfl⟩)) (fun z => by cases z) fun _ => sq_nil (sq_nilF [3] rfl))⟩
  · rintro ρ' rfl
    exact sq_cons (s1_retD ed_non rfl)
theorem sc_is_alike_to : FnScope ["one", "other", "standing", "late"] ["one", "other", "standing", "late"] (defScope (topS 56)) := ⟨rfl, rfl, rfl, by decide +kernel, rfl, by decide +kernel, by decide +kernel⟩
def Falike : List PyData → PyData → Prop := fun ds d => ∃ (one other : Mc) (wd s u : Nat) (t : Bool), Two one other wd ∧ Small one other wd ∧ s < one.length ∧ u < other.length ∧ (t = true ↔ Alike wd one s other u) ∧ ds = [enc one, enc other, enc s, enc u] ∧ d = .bool t
theorem f_is_alike_to (E : En K mg) : Fn P w K mg base "is_alike_to" 5 ["one", "other", "standing", "late"] none false (Fdd Falike) := by
  refine mkFn E 40 sc_is_alike_to (by decide) (fun bs R h => by obtain ⟨_, _, rfl, ⟨_, _, _, _, _, _, _, _, _, _, _, rfl, _⟩, _⟩ := h; rfl) (fun _ _ _ _ _ _ us hl => match us, hl with | [_, _, _, _], _ => rfl) fun f cdv A outer s H X fa ca bs R hr hf h => ?_
  obtain ⟨_, _, rfl, ⟨one, other, wd, s, u, t, T, sm, hs, hu, ht, rfl, rfl⟩, rfl⟩ := h
  refine sq_cons (s1_retD (ed_isQ (eq_call (f_failing_from E) hr rfl rfl (.inl rfl) (aq_dat (v 0) (aq_dat (v 1) (aq_dat ed_non (aq_lst (el_lst (ds := [enc (trip (s, [u]))]) (ad_cons (trE (x := 0) (y := s) (z := [u]) ed_int (v 2) ?_) ad_nil) (show 1 ≤ sizeLine by rw [sizeLine_eq]; decide)) (aq_nil ⟨fun _ c hc => ?_, [.dat (enc one), .dat (enc other), .dat .none, .lst .par ((([(s, [u])] : List Sta).map trip).map enc)], _, rfl, ⟨one, other, wd, [(s, [u])], t, T, sm, ?_, ?_, ?_, rfl, rfl⟩, fun b h => h⟩))))))) rfl)
  · exact ed_tup (ad_cons (v 3) ad_nil) (show 1 ≤ sizeLine by rw [sizeLine_eq]; decide)
  · rcases List.mem_cons.mp hc with e | hc
    · rw [e]; exact fun z => by cases z
    rcases List.mem_cons.mp hc with e | hc
    · rw [e]; exact fun z => by cases z
    rcases List.mem_cons.mp hc with e | hc
    · rw [e]; exact fun z => by cases z
    rw [List.mem_singleton.mp hc]; exact fun z => by cases z
  · exact List.nodup_cons.mpr ⟨(fun z => by cases z), List.nodup_nil⟩
  · intro q hq
    rw [List.mem_singleton.mp hq]
    exact ⟨⟨hs, List.pairwise_cons.mpr ⟨(fun a h => by cases h), .nil⟩, fun x hx => by rw [List.mem_singleton.mp hx]; exact hu⟩, fun z => by cases z⟩
  · rw [ht, bad_one]
end
end W97
end
section
set_option Elab.async false
set_option linter.all false
set_option maxRecDepth 100000
set_option maxHeartbeats 2000000
namespace W97
open PySem PySem.Spec PyProof.Rows L2 PyEnc
section
variable {P : Program} {w : World} {K : PySem.W.Frag} {mg : Str → Option Value} {base : Heap}
theorem sc_is_plain : FnScope ["one", "other", "standing", "late"] ["one", "other"] (defScope (topS 58)) := ⟨rfl, rfl, rfl, by decide +kernel, rfl, by decide +kernel, by decide +kernel⟩
def Fplain : List PyData → PyData → Prop := fun ds d => ∃ (one other : Mc) (wd : Nat), Two one other wd ∧ Small one other wd ∧ ds = [enc one, enc other] ∧ d = .bool (decide (good one other = List.range one.length))
noncomputable def alB (wd : Nat) (one : Mc) (s : Nat) (other : Mc) (u : Nat) : Bool := @decide (Alike wd one s other u) (Classical.propDecidable _)
theorem alB_iff {wd : Nat} {one other : Mc} {s u : Nat} : alB wd one s other u = true ↔ Alike wd one s other u := by
  unfold alB
  exact @decide_eq_true_iff _ (Classical.propDecidable _)
theorem any_in {l : List Nat} {g : Nat → Bool} : ((l.map g).any id) = true ↔ ∃ x, x ∈ l ∧ g x = true := by
  rw [List.any_map, List.any_eq_true]; rfl
theorem good_all {one other : Mc} (h : ∀ s, s < one.length → s ∈ good one other) : good one other = List.range one.length := by
  unfold good
  rw [List.filter_eq_self]
  intro s hs
  exact (List.mem_filter.mp (h s (List.mem_range.mp hs))).2
theorem f_is_plain (E : En K mg) : Fn P w K mg base "is_plain" 8 ["one", "other"] none false (Fdd Fplain) := by
  refine mkFn E 41 sc_is_plain (by decide) (fun bs R h => by obtain ⟨_, _, rfl, ⟨_, _, _, _, _, rfl, _⟩, _⟩ := h; rfl) (fun _ _ _ _ _ _ us hl => match us, hl with | [_, _], _ => rfl) fun f cdv A outer s H X fa ca bs R hr hf h => ?_
  obtain ⟨_, _, rfl, ⟨one, other, wd, T, sm, rfl, rfl⟩, rfl⟩ := h
  have l1 := T.l1
  have l2 := T.l2
  have k1 := T.k1.ok
  have k2 := T.k2.ok
  refine sq_cons (s1_expr (d := .none) (ed_call (f_want_both E) hr rfl rfl (ad_cons (v 0) (ad_cons (v 1) ad_nil)) ⟨one, other, wd, T, rfl, rfl⟩) ?_)
  refine sq_cons (s1_for PassesOwn.never rfl (itl_tup (ds := (List.range one.length).map enc) (ed_call (f_all_standings E) (hr.mono (by decide)) rfl rfl (ad_cons (v 0) ad_nil) ⟨one, rfl, by omega, rfl⟩)) (fun i ρ' => (∀ s, s < i → s < one.length → s ∈ good one other) ∧ ρ' = [some (.dat (enc one)), some (.dat (enc other)), none, none]) ⟨(fun s h => absurd h (Nat.not_lt_zero _)), rfl⟩ ?_ ?_ ?_)
  · rintro ρ' ⟨_, rfl⟩; rfl
  · rintro i d ρ' hd ⟨hs, rfl⟩
    obtain ⟨x, hx, rfl⟩ := take_map hd
    obtain ⟨hxl, hxi⟩ := List.getElem?_eq_some_iff.mp hx
    rw [List.getElem_range] at hxi
    rw [List.length_range] at hxl
    subst hxi
    refine ⟨[2], _, t1 2 sc_is_plain.nd, sq_cons (s1_if (td_not (td_val (ed_any (o := .own) (bl := (List.range other.length).map (alB wd one i other)) rfl rfl E.any_ ?_))) (fun hc => ?_) fun hc => ?_)⟩
    · refine el_mapE (g := alB wd one i other) [("late", 3)] rfl sc_is_plain.nd ?it (blkOk_by (by kernel_rfl)) (by rw [List.length_range]; omega) fun u hu =>
        ⟨[3], _, by decide, fun _ _ _ _ _ => t1 3 sc_is_plain.nd, fun _ _ _ _ _ => ?_⟩
      case it => exact itc_tup (ds := (List.range other.length).map enc) (ed_call (f_all_standings E) (hr.mono (by decide)) rfl rfl (ad_cons (v 1) ad_nil) ⟨other, rfl, by omega, rfl⟩)
      exact ed_call (f_is_alike_to E) (hr.mono (by decide)) rfl rfl (ad_cons (v 0) (ad_cons (v 1) (ad_cons (v 2) (ad_cons (v 3) ad_nil)))) ⟨one, other, wd, i, u, alB wd one i other u, T, sm, hxl, List.mem_range.mp hu, alB_iff, rfl, rfl⟩
    · have hn : ¬ good one other = List.range one.length := fun z => by
        have hi : i ∈ good one other := by rw [z]; exact List.mem_range.mpr hxl
        obtain ⟨_, u, hu, a⟩ := (mem_good k1 k2).mp hi
        have z2 : ((List.range other.length).map (alB wd one i other)).any id = true := any_in.mpr ⟨u, List.mem_range.mpr hu, alB_iff.mpr a⟩
        rw [z2] at hc
        cases hc
      rw [decide_eq_false hn]
      exact sq_cons (s1_retD ed_bl rfl)
    · refine sq_nil (sq_nilF [2] ⟨fun s h hl => ?_, rfl⟩)
      rcases Nat.lt_or_ge s i with lt | ge
      · exact hs s lt hl
      · have e : s = i := by omega
        subst e
        have z2 : ((List.range other.length).map (alB wd one s other)).any id = true := by simpa using hc
        obtain ⟨u, hu, a⟩ := any_in.mp z2
        exact (mem_good k1 k2).mpr ⟨hl, u, List.mem_range.mp hu, alB_iff.mp a⟩
  · rintro ρ' ⟨hs, rfl⟩
    rw [List.length_map, List.length_range] at hs
    have e := good_all (one := one) (other := other) fun s h => hs s h h
    rw [decide_eq_true e]
    exact sq_cons (s1_retD ed_bl rfl)
end
end W97
end
section
set_option Elab.async false
set_option linter.all false
set_option maxRecDepth 100000
set_option maxHeartbeats 2000000
namespace W97
open PySem PySem.Spec PyProof.Rows L2 PyEnc
section
variable {P : Program} {w : World} {K : PySem.W.Frag} {mg : Str → Option Value} {base : Heap}
/-- few standings -/
structure OkF (m : Mc) (w : Nat) : Prop where
  s : OkS m w
  few : m.length < 32
def preLed (m : Mc) (s : Nat) : Nat → List Nat
  | 0 => []
  | j + 1 => ledI m s j
theorem sc_led_from : FnScope ["machine", "standing", "found", "late"] ["machine", "standing"] (defScope (topS 60)) := ⟨rfl, rfl, rfl, by decide +kernel, rfl, by decide +kernel, by decide +kernel⟩
theorem f_led_from (E : En K mg) : Fn P w K mg base "led_from" 3 ["machine", "standing"] none false (Fdd fun ds d => ∃ (m : Mc) (wd s : Nat), OkF m wd ∧ s < m.length ∧ ds = [enc m, enc s] ∧ d = enc (ledF m s)) := by
  refine mkFn E 42 sc_led_from (by decide) (fun bs R h => by obtain ⟨_, _, rfl, ⟨_, _, _, _, _, rfl, _⟩, _⟩ := h; rfl) (fun _ _ _ _ _ _ us hl => match us, hl with | [_, _], _ => rfl) fun f cdv A outer s H X fa ca bs R hr hf h => ?_
  obtain ⟨_, _, rfl, ⟨m, wd, s, ok, hs, rfl, rfl⟩, rfl⟩ := h
  have k := ok.s.ok
  have few := ok.few
  have one1 : (1 : Nat) ≤ sizeLine := by rw [sizeLine_eq]; decide
  refine sq_cons (s1_par (i := 2) (j := 3) rfl sc_led_from.nd rfl rfl (by decide) rfl rfl (EQ.mono (Q := (· = .dat (enc ([] : List Nat)))) (ed_tup ad_nil (Nat.zero_le _)) fun b e => ⟨by rw [e]; exact True.intro, (ed_tup (ds := [enc s]) (ad_cons (v 1) ad_nil) one1).mono fun b2 e2 => ⟨by rw [e2]; exact True.intro, ?_⟩⟩))
  subst e
  subst e2
  obtain ⟨q, hq1, hq2, hq3⟩ := led_fix k hs
  refine sq_cons (s1_while PassesOwn.never (fun n ρ' => ∃ j, n = q + 1 - j ∧ j ≤ q + 1 ∧ ρ' = [some (.dat (enc m)), some (.dat (enc s)), some (.dat (enc (preLed m s j))), some (.dat (enc (ledI m s j)))]) ⟨q + 1, 0, rfl, Nat.zero_le _, rfl⟩ ?_)
  rintro n ρ' ⟨j, rfl, hj, rfl⟩
  refine ⟨!decide (ledI m s j = preLed m s j), td_neE hr (v 3) (v 2), fun hc => ?_, fun hc => ?_⟩
  · have hne : ledI m s j ≠ preLed m s j := by simpa using hc
    have hjq : j ≤ q := by
      rcases Nat.eq_or_lt_of_le hj with e | lt
      · rw [e] at hne
        exact absurd hq1 hne
      · omega
    have lt : ∀ u ∈ ledI m s j, u < m.length := fun u hu => by
      obtain ⟨r, hr, _, rfl⟩ := (mem_ledI k hs).mp hu
      exact k.runlt hs hr
    have hl := up_few (up_ledI j) lt
    have hl2 : (nextsOf m (ledI m s j)).length ≤ m.length := up_few (up_asSet _) fun u hu => by
      obtain ⟨a, ha, x, hx, rfl⟩ := (mem_nextsOf k lt).mp hu
      exact k.nxlt (lt a ha) hx
    refine sq_cons (s1_setD (i := 2) (d := enc (ledI m s j)) sc_led_from.nd rfl (.inl rfl) (v 3) ?_)
    refine sq_cons (s1_setD (i := 3) (d := enc (ledI m s (j + 1))) sc_led_from.nd rfl (.inl rfl) (ed_asSetL (l := ledI m s j ++ nextsOf m (ledI m s j)) (f_as_set E) hr (by decide) rfl rfl ?_ ?_) (sq_nilF [] ⟨q + 1 - (j + 1), by omega, j + 1, rfl, by omega, rfl⟩))
    · rw [List.map_append, ← List.append_nil ((nextsOf m (ledI m s j)).map enc)]
      refine el_lst (ad_star (EQ.items (ds := (ledI m s j).map enc) (v 2)) (ad_star (EQ.items (ds := (nextsOf m (ledI m s j)).map enc) ?_) ad_nil)) (by rw [List.length_append, List.length_append, List.length_map, List.length_map, sizeLine_eq]; show _ + (_ + 0) ≤ _; omega)
      exact ed_call (f_nexts_of E) hr rfl rfl (ad_cons (v 0) (ad_cons (v 2) ad_nil)) ⟨m, wd, ledI m s j, k, lt, Nat.lt_of_le_of_lt (Nat.mul_le_mul_left _ hl) ok.s.sm, rfl, rfl⟩
    · rw [List.length_append]; omega
  · have he : ledI m s j = preLed m s j := by simpa using hc
    have hjq : j = q + 1 := by
      cases j with
      | zero => cases he
      | succ i =>
        rcases Nat.lt_or_ge i q with lt | ge
        · exact absurd he (hq2 i lt)
        · omega
    subst hjq
    rw [← hq3]
    exact sq_cons (s1_retD (v 2) rfl)
end
end W97
end
section
set_option Elab.async false
set_option linter.all false
set_option maxRecDepth 100000
set_option maxHeartbeats 2000000
namespace W97
open PySem PySem.Spec PyProof.Rows L2 PyEnc
section
variable {P : Program} {w : World} {K : PySem.W.Frag} {mg : Str → Option Value} {base : Heap}
def Fleast : List Bd → (Bd → Prop) → Prop := fun bs R => ∃ (m : Mc) (wd : Nat), OkF m wd ∧ bs = [.dat (enc m)] ∧ R = fun b => ∃ Ps : List (List Nat), b = .lst .own (Ps.map enc) ∧ (∀ L, L ∈ Ps ↔ IsLeast m L) ∧ Ps.length ≤ m.length
theorem sc_least_parts : FnScope ["machine", "parts", "found", "standing", "part"] ["machine"] (defScope (topS 61)) := ⟨rfl, rfl, rfl, by decide +kernel, rfl, by decide +kernel, by decide +kernel⟩
theorem f_least_parts (E : En K mg) : Fn P w K mg base "least_parts" 4 ["machine"] none false Fleast := by
  refine mkFn E 43 sc_least_parts (by decide) (fun bs R h => by obtain ⟨_, _, _, rfl, _⟩ := h; rfl) (fun _ _ _ _ _ _ us hl => match us, hl with | [_], _ => rfl) fun f cdv A outer s H X fa ca bs R hr hf h => ?_
  obtain ⟨m, wd, ok, rfl, rfl⟩ := h
  have k := ok.s.ok
  have few := ok.few
  have hPl : ((List.range m.length).map (ledF m)).length = m.length := by rw [List.length_map, List.length_range]
  refine sq_cons (s1_setB (i := 1) (bd := .lst .own (((List.range m.length).map (ledF m)).map enc)) sc_least_parts.nd rfl (.inr rfl) (el_mapE [("standing", 3)] rfl sc_least_parts.nd ?it (blkOk_by (by kernel_rfl)) (by rw [List.length_range]; omega) fun s hs =>
    ⟨[3], _, by decide, fun _ _ _ _ _ => t1 3 sc_least_parts.nd, fun _ _ _ _ _ => ed_call (f_led_from E) hr rfl rfl (ad_cons (v 0) (ad_cons (v 3) ad_nil)) ⟨m, wd, s, ok, List.mem_range.mp hs, rfl, rfl⟩⟩) ?_)
  case it => exact itc_tup (ds := (List.range m.length).map enc) (ed_call (f_all_standings E) (hr.mono (by decide)) rfl rfl (ad_cons (v 0) ad_nil) ⟨m, rfl, by omega, rfl⟩)
  refine sq_cons (s1_setFilE (l := (List.range m.length).map fun s => ledF m s) (q := fun L => (L.map fun t => decide (ledF m t = L)).all id) (g := fun L => L) [("part", 4), ("standing", 3)] rfl sc_least_parts.nd (i := 2) rfl rfl (itc_lst (vl 1)) (blkOk_by (by kernel_rfl)) (by rw [hPl]; omega) (fun L hL =>
    ⟨[4], _, by decide, fun _ _ _ _ _ => t1 4 sc_least_parts.nd, fun _ _ _ _ _ => td_val (ed_all (o := .own) (bl := L.map fun t => decide (ledF m t = L)) rfl rfl E.all_ ?_), fun _ _ _ _ _ _ => v 4⟩) ?_ (sw_true rfl rfl rfl (by decide +kernel)))
  · obtain ⟨s, hs, rfl⟩ := List.mem_map.mp hL
    have hsl := List.mem_range.mp hs
    have lt : ∀ t ∈ ledF m s, t < m.length := fun t ht => ledF_lt k hsl ht
    have hl := up_few up_ledF lt
    refine el_mapE (l := ledF m s) (g := fun t => decide (ledF m t = ledF m s)) [("standing", 3)] rfl sc_least_parts.nd (itc_tup (v 4)) (blkOk_by (by kernel_rfl)) (by omega) fun t ht =>
      ⟨[3], _, by decide, fun _ _ _ _ _ => t1 3 sc_least_parts.nd, fun _ _ _ _ _ => eqE hr (ixL (l := (List.range m.length).map (ledF m)) (n := t) (vl 1) (v 3) ?_) (v 4)⟩
    rw [List.getElem?_map, List.getElem?_range (lt t ht)]; rfl
  · rw [List.map_id']
    generalize hF : ((List.range m.length).map fun s => ledF m s).filter (fun L => (L.map fun t => decide (ledF m t = L)).all id) = F
    have hFl : F.length ≤ m.length := by
      rw [← hF]
      exact Nat.le_trans (List.length_filter_le _ _) (Nat.le_of_eq hPl)
    have hFm : ∀ L, L ∈ F ↔ IsLeast m L := fun L => by
      rw [← hF, List.mem_filter, List.mem_map]
      constructor
      · rintro ⟨⟨s, hs, rfl⟩, hq⟩
        refine ⟨s, List.mem_range.mp hs, rfl, fun t ht => ?_⟩
        rw [List.all_map, List.all_eq_true] at hq
        exact of_decide_eq_true (hq t ht)
      · rintro ⟨s, hs, rfl, hq⟩
        refine ⟨⟨s, List.mem_range.mpr hs, rfl⟩, ?_⟩
        rw [List.all_map, List.all_eq_true]
        exact fun t ht => decide_eq_true (hq t ht)
    refine sq_cons (s1_ret ((eq_ssetD (ds := F.map enc) hr rfl rfl E.sorted_ rfl E.set_ (vl 2) (by rw [List.length_map]; omega) (fun d hd => ?_) (al_map _)).mono fun b ⟨out, e, ho⟩ => ?_))
    · obtain ⟨L, hL, rfl⟩ := List.mem_map.mp hd
      obtain ⟨s, hs, rfl, _⟩ := (hFm L).mp hL
      refine si_list (by decide) fun z => ?_
      have q : s ∈ ledF m s := (mem_ledF k hs).mpr Reach.refl
      rw [z] at q
      cases q
    · obtain ⟨Ps, rfl, h1, h2⟩ := sout_map ho
      exact ⟨Ps, e, fun L => (h1 L).trans (hFm L), Nat.le_trans h2 hFl⟩
end
end W97
end
section
set_option Elab.async false
set_option linter.all false
set_option maxRecDepth 100000
set_option maxHeartbeats 2000000
namespace W97
open PySem PySem.Spec PyProof.Rows L2 PyEnc
/-! ### the order of data: two that are not less than one another are equal -/
theorem data_anti {x y : PyData} (al : PySem.W.alike x y = true) (h1 : PySem.W.dataLt x y = false) (h2 : PySem.W.dataLt y x = false) : PyData.eqv x y = true := by
  have e : PySem.W.keyToks x = PySem.W.keyToks y := PyProof.Rows.lex_total _ _ h1 h2
  cases q : PyData.eqv x y with
  | true => rfl
  | false =>
    have z := (PySem.W.toks_eqv x y al).2 q [] [.inl 0]
    rw [e, PySem.W.lex_pre, PyProof.Rows.lex_irrefl] at z
    cases z
/-- one machine is not behind another one -/
def leM (c d : Mc) : Prop := PySem.W.dataLe false (fun z : PyData => z) (enc c) (enc d) = true
theorem leM_anti {c d : Mc} (h1 : leM c d) (h2 : leM d c) : c = d := by
  have h1 : (!PySem.W.dataLt (enc d) (enc c)) = true := h1
  have h2 : (!PySem.W.dataLt (enc c) (enc d)) = true := h2
  have z := data_anti (Nst.alk c d) (by simpa using h2) (by simpa using h1)
  rw [PyEnc.eqv] at z
  exact of_decide_eq_true z
theorem leM_refl (c : Mc) : leM c c := by
  show (!PySem.W.dataLt (enc c) (enc c)) = true
  unfold PySem.W.dataLt
  rw [PyProof.Rows.lex_irrefl]; rfl
section
variable {X : Cx} {m : Mo} {HE H0 H H1 : Hp} {ρ ρ' : Ab} {σ : L2.St} {a b c e elt tg iter : Expr} {es : List Expr} {pos p : Pos} {α : Type} [DecidableEq α] [PyEnc α]
theorem td_niLE {l : List α} {x : α} {k : Nat} {o : LK} (r : Room k X.A) (h1 : ED X m ρ a (enc x)) (h2 : EQ X m ρ b (· = .lst o (l.map enc))) (hm : behindInMarks .NotIn b = false := by rfl) (hd : PyEnc.dep α ≤ 63 := by decide) : TD X m ρ (.Compare a [.NotIn] [b] pos) (!decide (x ∈ l)) :=
  td_cmp (niLE r h1 h2 hm hd) hm ⟨_, op_notInD (units65 r), twoD (d2 := .list (l.map enc)) (Q := (· = .dat (.bool (!decide (x ∈ l))))) h1.asD (EQ.asL h2) fun b1 b2 e1 e2 Ha Hb H u v _ r1 r2 Qv kk => ⟨enc x, l.map enc, e1.dp r1, e2.dp r2, shaped_enc (by omega), shaped_list hd, by
    rw [any_eqv]
    exact kk _ (.dat (.bool (!decide (x ∈ l)))) H Gr.refl (.bl _) rfl⟩⟩
theorem td_ltE {i j : Nat} (h1 : ED X m ρ a (enc i)) (h2 : ED X m ρ b (enc j)) : TD X m ρ (.Compare a [.Lt] [b] pos) (decide (i < j)) := by
  have q := td_lt (pos := pos) (i := (i : Int)) (j := (j : Int)) h1 h2
  rwa [show decide ((i : Int) < (j : Int)) = decide (i < j) from decide_eq_decide.mpr Int.ofNat_lt] at q
theorem td_gtE {i j : Nat} (h1 : ED X m ρ a (enc i)) (h2 : ED X m ρ b (enc j)) : TD X m ρ (.Compare a [.Gt] [b] pos) (decide (j < i)) := by
  have q := td_gt (pos := pos) (i := (i : Int)) (j := (j : Int)) h1 h2
  rwa [show decide ((j : Int) < (i : Int)) = decide (j < i) from decide_eq_decide.mpr Int.ofNat_lt] at q
/-- l[n], l a list of which only something is known -/
theorem eq_ixQ {n : Nat} {Q : Bd → Prop} (h : EQ X m ρ a fun b => ∃ o ds, b = .lst o ds ∧ ∃ d, ds[n]? = some d ∧ Q (.dat d)) (h2 : ED X m ρ b (.int (n : Int))) (hs : PlainIx b := by intro _ _; rfl) : EQ X m ρ (.Subscript a b pos) Q :=
  eq_ix ix_list hs (h.mono fun b1 e1 => h2.mono fun b2 e2 => by
    obtain ⟨o, ds, rfl, d, hd, hq⟩ := e1
    subst e2
    intro Ha Hb H x y _ r1 r2 Qv k
    obtain ⟨q, xs, e, k1, k2⟩ := hr_lst r1
    obtain ⟨v, hv, dv⟩ := k2.at hd
    exact ⟨q, xs, n, v, e, DV.int_eq r2, k1, atI_nat hv, k v (.dat d) H Gr.refl dv hq⟩)
theorem eq_allQ {Q : Bd → Prop} (hc : X.calm = true) (hg : Gl X "all") (hm : X.mg "all" = none) (h : EQ X m ρ a fun b => ∃ (o : LK) (bl : List Bool), b = .lst o (bl.map PyData.bool) ∧ Q (.dat (.bool (bl.all id)))) (hs : starEach [a] X.env = (false, eval a X.env) :: starEach [] X.env := by rfl) (hpl : (backTo pos (starEach [] X.env)).any (·.1) = false := by rfl) :
    EQ X m ρ (.Call (.Name "all" p) [a] [] pos) Q :=
  eq_cb (pe_callB (cr_all hc) hg hm (by decide +kernel) (pa_aw X [a]) (he := hs) (hpl := hpl)) (aq_cons (h.mono fun b e => aq_nil (by
    obtain ⟨o, bl, rfl, hq⟩ := e
    intro Ha H vs _ r Qv k
    cases r with
    | cons r1 r2 =>
      cases r2
      obtain ⟨q, xs, e, h1, h2⟩ := hr_lst r1
      exact ⟨q, bl, by rw [e], by rw [← DVs.of_bools h2]; exact h1, k _ (.dat (.bool (bl.all id))) H Gr.refl (.bl _) hq⟩)) hs)
/-- a comprehension over a list, or a tuple, of which only something is known -/
theorem lc_at {ds : List PyData} {ifs : List Expr} {scope : Scope} {ws : List Nat} {J : It} (S : SSt X.K m HE H0 ρ σ H) (w : Src X.K J ds H) (hlen : ds.length < 100000)
    (I : Nat → List PyData → Prop) (h0 : I 0 []) (hs : ∀ (i : Nat) d acc, ds[i]? = some d → I i acc → Turn1 X m ρ scope ws tg elt ifs I i d acc) {Qv : VK}
    (k : ∀ D H' acc vs, Gr m H H' → H D = none → H' D = some (.lst vs) → DVs X.K H' vs acc → I ds.length acc → Qv (.ref D) H') : tLc (fun σ' H' R => H' = H → R J H) (gB X scope tg) (tIfs X scope ifs) (eB X scope elt) ws σ H Qv :=
  lc_read (wi := fun σ' H' R => H' = H → R J H) S (fun σ' H' HE' H0' S' R kk e => kk J H (by rw [e]; exact Gr.refl) w) hlen I h0 hs k
theorem eq_lcQ {ifs : List Expr} {scope : Scope} {Q : Bd → Prop} {G : List PyData → Prop} (own : List (Str × Nat)) (hc : X.calm = true) (hN : X.N.Nodup) (h : EQ X m ρ iter fun b => ∃ k ds, b = .lst k ds ∧ G ds) (ok : BlkOk X.N X.env.scope scope own) (h1 : ifs.length ≤ 1)
    (hG : ∀ ds, G ds → ds.length < 100000 ∧ ∃ I : Nat → List PyData → Prop, I 0 [] ∧ (∀ (i : Nat) d acc, ds[i]? = some d → I i acc → Turn1 X m ρ scope (own.map (·.2)) tg elt ifs I i d acc) ∧ ∀ acc, I ds.length acc → Q (.lst .own acc))
    (hf : ∀ x, foldedSetIterable iter X.env x = pure x := by intro _; rfl) : EQ X m ρ (.ListComp elt [⟨tg, iter, ifs, 0⟩] scope pos) Q := by
  intro σ H HE H0 S Qv k
  refine ew_of (pe_lc (g := gB X scope tg) (tt := tIfs X scope ifs) (te := eB X scope elt) hc hN (pi_list (pe_ew X iter)) ok (fun s H C cl fp => ⟨fun pins s' σ H' v u Q I r h => h s H C cl fp pins s' u I r⟩) (fun s H C cl fp => pts_ifs h1) (fun s H C cl fp => ⟨fun pins s' σ H' Q I h => h s H C cl fp pins s' I⟩) hf)
    (ew_then h S fun v b H1 g1 S1 r1 e1 => ?_)
  obtain ⟨lk, ds, rfl, hg⟩ := e1
  obtain ⟨q, xs, ev, k1, k2⟩ := hr_lst r1
  obtain ⟨hlen, I, i0, is, iq⟩ := hG ds hg
  exact ⟨q, ev, ⟨xs, k1⟩, lc_at S1 (src_lst k1 k2) hlen I i0 is (fun D H' acc vs g hD hD' dv hI => k _ (.lst .own acc) H' (g1.trans g) ⟨D, vs, rfl, g1.free D hD, hD', dv⟩ (iq acc hI)) rfl⟩
theorem eq_lcQT {ifs : List Expr} {scope : Scope} {Q : Bd → Prop} {G : List PyData → Prop} (own : List (Str × Nat)) (hc : X.calm = true) (hN : X.N.Nodup) (h : EQ X m ρ iter fun b => ∃ ds, b = .dat (.tuple ds) ∧ G ds) (ok : BlkOk X.N X.env.scope scope own) (h1 : ifs.length ≤ 1)
    (hG : ∀ ds, G ds → ds.length < 100000 ∧ ∃ I : Nat → List PyData → Prop, I 0 [] ∧ (∀ (i : Nat) d acc, ds[i]? = some d → I i acc → Turn1 X m ρ scope (own.map (·.2)) tg elt ifs I i d acc) ∧ ∀ acc, I ds.length acc → Q (.lst .own acc))
    (hf : ∀ x, foldedSetIterable iter X.env x = pure x := by intro _; rfl) : EQ X m ρ (.ListComp elt [⟨tg, iter, ifs, 0⟩] scope pos) Q := by
  intro σ H HE H0 S Qv k
  refine ew_of (pe_lc (g := gB X scope tg) (tt := tIfs X scope ifs) (te := eB X scope elt) hc hN (pi_tup (pe_ew X iter)) ok (fun s H C cl fp => ⟨fun pins s' σ H' v u Q I r h => h s H C cl fp pins s' u I r⟩) (fun s H C cl fp => pts_ifs h1) (fun s H C cl fp => ⟨fun pins s' σ H' Q I h => h s H C cl fp pins s' I⟩) hf)
    (ew_then h S fun v b H1 g1 S1 r1 e1 => ?_)
  obtain ⟨ds, rfl, hg⟩ := e1
  obtain ⟨q, xs, ev, k1, k2⟩ := DV.tup_eq r1
  obtain ⟨hlen, I, i0, is, iq⟩ := hG ds hg
  exact ⟨q, ev, ⟨xs, k1⟩, lc_at S1 (src_tup k1 k2) hlen I i0 is (fun D H' acc vs g hD hD' dv hI => k _ (.lst .own acc) H' (g1.trans g) ⟨D, vs, rfl, g1.free D hD, hD', dv⟩ (iq acc hI)) rfl⟩
/-- for over a new list of which only something is known -/
theorem s1_forLQ {body : List Stmt} {E : AE} {G : List PyData → Prop} (hp : PassesOwn (model X.prog X.w) X.A X.env X.xe) (hc : X.calm = true) (h : EQ X m ρ iter fun b => ∃ ds, b = .lst .own ds ∧ G ds)
    (hs : ∀ ds, G ds → ∃ I : Nat → Ab → Prop, I 0 ρ ∧ (∀ ρ', I ds.length ρ' → noFz ρ' ∧ E.nx ρ') ∧ ∀ (i : Nat) d ρ', ds[i]? = some d → I i ρ' → ∃ is ρ'', TGD X tg is d ρ' ρ'' ∧ SQ X m ρ'' body { nx := I (i + 1), rt := E.rt, ct := I (i + 1) })
    (hf : ∀ x, foldedSetIterable iter X.env x = pure x := by intro _; rfl) : S1 X m ρ (.For tg iter body [] pos) E := by
  intro σ H HE H0 S D d
  refine s1_of (ps_for hp hc (pi_list (pe_ew X iter)) (pg_gw X tg) (pss_sw X body) hf) (ew_then h S fun v b H1 g1 S1 r1 e1 => ?_)
  obtain ⟨ds, rfl, hG⟩ := e1
  obtain ⟨I, h0, hd, hst⟩ := hs ds hG
  obtain ⟨q, xs, ev, k0, k1, k2⟩ := r1
  refine ⟨q, ev, ⟨xs, .of k1⟩, for_core (S.frz g1) (src_lst (.of (frz_some k1 fun i ds' hi ho hv => ?_)) (k2.keep (tk_frz S1))) h0 hst (fun ρ' σ' H' S' q => d.nx ρ' σ' H' (S'.unfrz (frz_gr0 S1) S.ent (hd ρ' q).1) (hd ρ' q).2) d.rt⟩
  obtain ⟨z, vs, eq, hq, _⟩ := own_at S hi ho hv
  cases eq
  rw [k0] at hq
  cases hq
end
end W97
end
section
set_option Elab.async false
set_option linter.all false
set_option maxRecDepth 100000
set_option maxHeartbeats 2000000
namespace W97
open PySem PySem.Spec PyProof.Rows L2 PyEnc
theorem cls_at {m : Mc} {s : Nat} (hs : s < m.length) : (cls m)[s]? = some (cl m s) := getD_at (by rw [cls_len]; exact hs)
theorem numGo_done {m : Mc} {f j : Nat} {o : List Nat} (h : o.length ≤ j) : numGo m f o j = o := by
  cases f with
  | zero => rfl
  | succ f =>
    unfold numGo
    rw [if_neg (by omega)]
section
variable {P : Program} {w : World} {K : PySem.W.Frag} {mg : Str → Option Value} {base : Heap}
theorem sc_merged_by : FnScope ["machine", "marks", "firsts", "mark", "late", "answer", "first"] ["machine"] (defScope (topS 13)) := ⟨rfl, rfl, rfl, by decide +kernel, rfl, by decide +kernel, by decide +kernel⟩
theorem f_merged_by (E : En K mg) : Fn P w K mg base "merged_by" 3 ["machine"] none false (Fdd fun ds d => ∃ (m : Mc) (wd : Nat), OkS m wd ∧ ds = [enc m] ∧ d = enc (W97.mg m)) := by
  refine mkFn E 11 sc_merged_by (by decide) (fun bs R h => by obtain ⟨_, _, rfl, ⟨_, _, _, rfl, _⟩, _⟩ := h; rfl) (fun _ _ _ _ _ _ us hl => match us, hl with | [_], _ => rfl) fun f cdv A outer s H X fa ca bs R hr hf h => ?_
  obtain ⟨_, _, rfl, ⟨m, wd, ok, rfl, rfl⟩, rfl⟩ := h
  have k := ok.ok
  have hml : m.length < 64 := Nat.lt_of_le_of_lt (Nat.le_mul_of_pos_left _ k.wp) ok.sm
  have hwl : wd < 64 := Nat.lt_of_le_of_lt (Nat.le_mul_of_pos_right _ k.ne) ok.sm
  refine sq_cons (s1_setB (i := 1) (bd := .ft K ((cls m).map enc)) sc_merged_by.nd rfl (.inr rfl) (eq_callM (f_marks_by E) (hr.mono (by decide)) rfl rfl (v 0) ⟨m, wd, k, by omega, by omega, rfl, rfl⟩) ?_)
  have hal : (asSet (cls m)).length ≤ m.length := by
    refine up_few (up_asSet _) fun c hc => ?_
    have z := mem_cls.mp (mem_asSet.mp hc)
    have z2 : (W97.mg m).length ≤ m.length := by
      rw [mg_len]
      refine Nat.le_trans (cnt_le _) (Nat.le_of_eq ?_)
      unfold keysL
      rw [List.length_map, List.length_range]
    omega
  refine sq_cons (s1_setMapE (l := asSet (cls m)) (g := fun c => (cls m).idxOf c) [("mark", 3)] rfl sc_merged_by.nd (i := 2) rfl rfl (itc_tup (ds := (asSet (cls m)).map enc) (ed_asSetT (f_as_set E) hr (by decide) rfl rfl (ed_ft (vp 1)) (by rw [cls_len]; exact hml))) (blkOk_by (by kernel_rfl)) (by omega) (fun c hc =>
    ⟨[3], _, by decide, fun _ _ _ _ _ => t1 3 sc_merged_by.nd, fun _ _ _ _ _ => ed_tupIx (l := cls m) (vp 1) (v 3) (mem_asSet.mp hc)⟩) ?_ (sw_true rfl rfl rfl (by decide +kernel)))
  refine sq_cons (s1_retD (d := enc (W97.mg m)) (ed_tuple rfl E.tuple_ (EQ.itemsL (el_mapE (l := rep m) (g := fun f => (st m f).map fun p => (cl m p.1, p.2)) [("first", 6)] rfl sc_merged_by.nd (itc_lst (vl 2)) (blkOk_by (by kernel_rfl)) (by unfold rep; rw [List.length_map]; omega) fun f hf =>
    ⟨[6], _, by decide, fun _ _ _ _ _ => t1 6 sc_merged_by.nd, fun _ _ _ _ _ => ?_⟩))) rfl)
  obtain ⟨c, hc, rfl⟩ := List.mem_map.mp hf
  have hfl := (rep_ok (mem_cls.mp (mem_asSet.mp hc))).1
  refine ed_tuple rfl E.tuple_ (EQ.itemsL (el_mapE (l := st m ((cls m).idxOf c)) (g := fun p => (cl m p.1, p.2)) [("late", 4), ("answer", 5)] rfl sc_merged_by.nd (itc_tup (ds := (st m ((cls m).idxOf c)).map enc) (ixE (v 0) (v 6) (st_at hfl))) (blkOk_by (by kernel_rfl)) (by rw [k.wst hfl]; omega) fun p hp =>
    ⟨[4, 5], _, by decide, fun _ _ _ _ _ => t2 4 5 rfl sc_merged_by.nd, fun _ _ _ _ _ => ?_⟩))
  exact prE (ixE (l := cls m) (ed_ft (vp 1)) (v 4) (cls_at (k.lt _ (st_mem hfl) p hp))) (v 5)
theorem sc_numbered_from : FnScope ["machine", "standing", "order", "spot", "late", "answer"] ["machine", "standing"] (defScope (topS 62)) := ⟨rfl, rfl, rfl, by decide +kernel, rfl, by decide +kernel, by decide +kernel⟩
theorem f_numbered_from (E : En K mg) : Fn P w K mg base "numbered_from" 2 ["machine", "standing"] none false (Fdd fun ds d => ∃ (m : Mc) (wd s : Nat), OkS m wd ∧ s < m.length ∧ ds = [enc m, enc s] ∧ d = enc (numbered m s)) := by
  refine mkFn E 44 sc_numbered_from (by decide) (fun bs R h => by obtain ⟨_, _, rfl, ⟨_, _, _, _, _, rfl, _⟩, _⟩ := h; rfl) (fun _ _ _ _ _ _ us hl => match us, hl with | [_, _], _ => rfl) fun f cdv A outer s H X fa ca bs R hr hf h => ?_
  obtain ⟨_, _, rfl, ⟨m, wd, s, ok, hs, rfl, rfl⟩, rfl⟩ := h
  have k := ok.ok
  have hml : m.length < 64 := Nat.lt_of_le_of_lt (Nat.le_mul_of_pos_left _ k.wp) ok.sm
  have one1 : (1 : Nat) ≤ sizeLine := by rw [sizeLine_eq]; decide
  refine sq_cons (s1_setB (i := 2) (bd := .lst .own (([s] : List Nat).map enc)) sc_numbered_from.nd rfl (.inl rfl) (el_lst (ds := [enc s]) (ad_cons (v 1) ad_nil) one1) ?_)
  refine sq_cons (s1_setD (i := 3) (d := enc 0) sc_numbered_from.nd rfl (.inl rfl) ed_int ?_)
  refine sq_cons (s1_while PassesOwn.never (fun n ρ' => ∃ (o : List Nat) (j f : Nat), n = m.length + 1 - j ∧ j ≤ o.length ∧ f + j = m.length + 1 ∧ numGo m f o j = order m s ∧ Num wd m s o j ∧ ρ' = [some (.dat (enc m)), some (.dat (enc s)), some (.lst .own (o.map enc)), some (.dat (enc j)), none, none]) ⟨_, [s], 0, m.length + 1, rfl, Nat.zero_le _, rfl, rfl, ⟨by simp, rfl, fun t ht => by rw [List.mem_singleton.mp ht]; exact hs, fun i t h => absurd h (Nat.not_lt_zero _)⟩, rfl⟩ ?_)
  rintro n ρ' ⟨o, j, f, rfl, hjl, hfj, hgo, N, rfl⟩
  have hol := N.len k
  refine ⟨_, td_ltE (v 3) (lenL (l := o) rfl E.len_ (vl 2)), fun hc => ?_, fun hc => ?_⟩
  · have hj : j < o.length := of_decide_eq_true hc
    obtain ⟨f, rfl⟩ : ∃ f', f = f' + 1 := ⟨f - 1, by omega⟩
    have hoj : o[j]? = some (o.getD j 0) := getD_at hj
    have htl : o.getD j 0 < m.length := N.lt _ (List.mem_of_getElem? hoj)
    have hnx := N.next k hj
    refine sq_cons (s1_for PassesOwn.never rfl (itl_tup (ds := (st m (o.getD j 0)).map enc) (ixE (v 0) (ixL (l := o) (vl 2) (v 3) hoj) (st_at htl))) (fun i ρ' => ρ' = [some (.dat (enc m)), some (.dat (enc s)), some (.lst .own (((((st m (o.getD j 0)).map (·.1)).take i).foldl putK o).map enc)), some (.dat (enc j)), none, none]) rfl ?_ ?_ ?_)
    · rintro ρ' rfl; rfl
    · rintro i d ρ' hd rfl
      obtain ⟨p, hp, rfl⟩ := take_map hd
      have hp2 : ((st m (o.getD j 0)).map (·.1))[i]? = some p.1 := by rw [List.getElem?_map, hp]; rfl
      have hl2 : (((((st m (o.getD j 0)).map (·.1)).take i).foldl putK o)).length ≤ m.length := by
        obtain ⟨a, b, _⟩ := foldl_putK (ls := ((st m (o.getD j 0)).map (·.1)).take i) (o := o)
        have q := nodup_len (l' := List.range m.length) (b N.nodup) fun t ht => List.mem_range.mpr (by
          rcases (a t).mp ht with h | h
          · exact N.lt t h
          · obtain ⟨p2, hp2, rfl⟩ := List.mem_map.mp (List.mem_of_mem_take h)
            exact k.lt _ (st_mem htl) p2 hp2)
        rwa [List.length_range] at q
      refine ⟨[4, 5], _, t2 4 5 rfl sc_numbered_from.nd, sq_cons (s1_if (td_niLE hr (v 4) (vl 2)) (fun hc2 => ?_) fun hc2 => ?_)⟩
      · refine sq_cons (s1_append (i := 2) rfl rfl (.inl rfl) ((v 4).mono fun b e => ⟨_, e, sq_nil (sq_nilF [4, 5] ?_)⟩) (by rw [List.length_map, sizeLine_eq]; omega))
        show _ = _
        rw [take_next hp2, List.foldl_append, List.foldl_cons, List.foldl_nil, putK_new (by simpa using hc2), List.map_append]; rfl
      · refine sq_nil (sq_nilF [4, 5] ?_)
        show _ = _
        rw [take_next hp2, List.foldl_append, List.foldl_cons, List.foldl_nil, putK_same (by simpa using hc2)]; rfl
    · rintro ρ' rfl
      have e : ((st m (o.getD j 0)).map (·.1)).take ((st m (o.getD j 0)).map (enc : Nat × Nat → PyData)).length = (st m (o.getD j 0)).map (·.1) := List.take_of_length_le (by rw [List.length_map, List.length_map]; exact Nat.le_refl _)
      rw [e]
      refine sq_cons (s1_setD (i := 3) (d := enc (j + 1)) sc_numbered_from.nd rfl (.inl rfl) (addE (v 3) ed_int) (sq_nilF [] ⟨m.length + 1 - (j + 1), by omega, numStep m o j, j + 1, f, rfl, ?_, by omega, ?_, hnx, rfl⟩))
      · obtain ⟨_, _, M, c⟩ := foldl_putK (ls := (st m (o.getD j 0)).map (·.1)) (o := o)
        show j + 1 ≤ (((st m (o.getD j 0)).map (·.1)).foldl putK o).length
        rw [c, List.length_append]; omega
      · rw [← hgo, show numGo m (f + 1) o j = if j < o.length then numGo m f (numStep m o j) (j + 1) else o from rfl, if_pos hj]
  · have hj : o.length ≤ j := Nat.le_of_not_lt (of_decide_eq_false hc)
    have ho : o = order m s := by rw [← hgo, numGo_done hj]
    subst ho
    refine sq_cons (s1_retD (d := enc (numbered m s)) (eq_call (f_part_by E) (hr.mono (by decide)) rfl rfl (.inl rfl) (aq_dat (v 0) (aq_lst (vl 2) (aq_nil ⟨fun _ c hc => ?_, [.dat (enc m), .lst .par ((order m s).map enc)], _, rfl, ⟨m, wd, order m s, ok, ⟨fun z => ?_, N.nodup, N.lt, fun t ht p hp => ?_⟩, rfl, rfl⟩, fun b h => h⟩)))) rfl)
    · rcases List.mem_cons.mp hc with e | hc
      · rw [e]; exact fun z => by cases z
      rw [List.mem_singleton.mp hc]; exact fun z => by cases z
    · have q := N.zero
      rw [z] at q
      cases q
    · obtain ⟨x, hx, e⟩ := List.getElem_of_mem hp
      have hxw : x < wd := by rw [← k.wst (N.lt t ht)]; exact hx
      have q := order_closed k hs ht hxw
      have e2 : nx m t x = p.1 := by
        unfold nx cell
        rw [List.getD_eq_getElem?_getD, List.getElem?_eq_getElem hx, e]; rfl
      rwa [e2] at q
end
end W97
end
section
set_option Elab.async false
set_option linter.all false
set_option maxRecDepth 100000
set_option maxHeartbeats 2000000
namespace W97
open PySem PySem.Spec PyProof.Rows L2 PyEnc
section
variable {X : Cx} {m : Mo} {ρ : Ab} {e : Expr} {p pos : Pos}
theorem eq_asSetQ {k : Nat} {Q : Bd → Prop} (F : Fn X.prog X.w X.K X.mg X.base "as_set" 1 ["things"] none false FasSet) (r : Room k X.A) (hk : 1 ≤ k) (hg : Gl X "as_set") (hw : m.wd = some X.w)
    (h : EQ X m ρ e fun b => ∃ o ds, b = .lst o ds ∧ ds.length ≤ 1200 ∧ (∀ d ∈ ds, SItem d) ∧ PySem.W.AllAlike ds ∧ ∀ out, SOut ds out → Q (.dat (.tuple out)))
    (he : starEach [e] X.env = (false, eval e X.env) :: starEach [] X.env := by rfl) (hpl : (backTo pos (starEach [] X.env)).any (·.1) = false := by rfl) : EQ X m ρ (.Call (.Name "as_set" p) [e] [] pos) Q :=
  eq_call F (r.mono hk) hg hw (.inl rfl) (aq_cons (h.mono fun b eb => aq_nil (by
    obtain ⟨o, ds, rfl, hl, hi, hal, hq⟩ := eb
    exact ⟨(fun _ c hc z => by rw [List.mem_singleton.mp hc] at z; cases z), [.lst .par ds], _, rfl, .inr ⟨ds, rfl, hl, hi, hal, rfl⟩, fun b ⟨out, e, ho⟩ => by rw [e]; exact hq out ho⟩)) he) (he := he) (hpl := hpl)
end
theorem numbered_ne {m : Mc} {wd s : Nat} (k : Ok m wd) (hs : s < m.length) : numbered m s ≠ [] := fun z => by
  obtain ⟨j, N, _⟩ := order_num k hs
  have q := N.zero
  have e : order m s = [] := List.map_eq_nil_iff.mp z
  rw [e] at q
  cases q
theorem mg_le {m : Mc} : (mg m).length ≤ m.length := by
  rw [mg_len]
  refine Nat.le_trans (cnt_le _) (Nat.le_of_eq ?_)
  unfold keysL
  rw [List.length_map, List.length_range]
theorem OkF.mg {m : Mc} {wd : Nat} (k : OkF m wd) : OkF (W97.mg m) wd :=
  ⟨⟨mg_ok k.s.ok, Nat.lt_of_le_of_lt (Nat.mul_le_mul_left _ mg_le) k.s.sm⟩, Nat.lt_of_le_of_lt mg_le k.few⟩
theorem least_lt {m : Mc} {wd : Nat} (k : Ok m wd) {L : List Nat} (h : IsLeast m L) : L ≠ [] ∧ (∀ s ∈ L, s < m.length) ∧ L.length ≤ m.length := by
  obtain ⟨s, hs, rfl, _⟩ := h
  refine ⟨fun z => ?_, fun t ht => ledF_lt k hs ht, up_few up_ledF fun t ht => ledF_lt k hs ht⟩
  have q : s ∈ ledF m s := (mem_ledF k hs).mpr Reach.refl
  rw [z] at q
  cases q
section
variable {P : Program} {w : World} {K : PySem.W.Frag} {mg : Str → Option Value} {base : Heap}
def Fcore : List Bd → (Bd → Prop) → Prop := fun bs R => ∃ (m : Mc) (wd : Nat) (L : List Nat), OkF m wd ∧ L ≠ [] ∧ (∀ s ∈ L, s < m.length) ∧ L.length ≤ m.length ∧ bs = [.dat (enc m), .dat (enc L)] ∧ R = fun b => ∃ c : Mc, b = .dat (enc c) ∧ c ≠ [] ∧ IsCore leM m L c
theorem sc_core_by : FnScope ["machine", "part", "standing"] ["machine", "part"] (defScope (topS 63)) := ⟨rfl, rfl, rfl, by decide +kernel, rfl, by decide +kernel, by decide +kernel⟩
theorem f_core_by (E : En K mg) : Fn P w K mg base "core_by" 3 ["machine", "part"] none false Fcore := by
  refine mkFn E 45 sc_core_by (by decide) (fun bs R h => by obtain ⟨_, _, _, _, _, _, _, rfl, _⟩ := h; rfl) (fun _ _ _ _ _ _ us hl => match us, hl with | [_, _], _ => rfl) fun f cdv A outer s H X fa ca bs R hr hf h => ?_
  obtain ⟨m, wd, L, ok, hne, hlt, hLl, rfl, rfl⟩ := h
  have k := ok.s.ok
  have few := ok.few
  refine sq_cons (s1_ret (eq_ixQ (n := 0) (EQ.mono (eq_ssetD (o := .own) (ds := (L.map (numbered m)).map enc) hr rfl rfl E.sorted_ rfl E.set_ ?lc (by rw [List.length_map, List.length_map]; omega) (fun d hd => ?_) (al_map _)) fun b ⟨out, e, ho⟩ => ?_) ed_int))
  case lc =>
    exact el_mapE (l := L) (g := numbered m) [("standing", 2)] rfl sc_core_by.nd (itc_tup (v 1)) (blkOk_by (by kernel_rfl)) (by omega) fun s hs =>
      ⟨[2], _, by decide, fun _ _ _ _ _ => t1 2 sc_core_by.nd, fun _ _ _ _ _ => ed_call (f_numbered_from E) (hr.mono (by decide)) rfl rfl (ad_cons (v 0) (ad_cons (v 2) ad_nil)) ⟨m, wd, s, ok.s, hlt s hs, rfl, rfl⟩⟩
  · obtain ⟨c, hc, rfl⟩ := List.mem_map.mp hd
    obtain ⟨s, hs, rfl⟩ := List.mem_map.mp hc
    exact si_list (by decide) (numbered_ne k (hlt s hs))
  · obtain ⟨cs, rfl, h1, h2⟩ := sout_map ho
    refine ⟨.own, _, e, ?_⟩
    obtain ⟨s0, hs0⟩ := List.exists_mem_of_ne_nil L hne
    cases cs with
    | nil => exact absurd ((h1 (numbered m s0)).2 (List.mem_map.mpr ⟨s0, hs0, rfl⟩)) (fun z => by cases z)
    | cons c cs =>
      refine ⟨enc c, rfl, c, rfl, ?_⟩
      obtain ⟨u, hu, e2⟩ := List.mem_map.mp ((h1 c).1 List.mem_cons_self)
      refine ⟨by rw [← e2]; exact numbered_ne k (hlt u hu), ⟨u, hu, e2.symm⟩, fun t ht => ?_⟩
      have hm := (h1 (numbered m t)).2 (List.mem_map.mpr ⟨t, ht, rfl⟩)
      have po := ho.ord
      rw [List.map_cons, List.pairwise_cons] at po
      rcases List.mem_cons.mp hm with e3 | hm
      · rw [e3]; exact leM_refl c
      · exact po.1 _ (List.mem_map.mpr ⟨_, hm, rfl⟩)
def Fcores : List Bd → (Bd → Prop) → Prop := fun bs R => ∃ (m : Mc) (wd : Nat), OkF m wd ∧ bs = [.dat (enc m)] ∧ R = fun b => ∃ L : List Mc, b = .dat (enc L) ∧ TellsCores leM m L ∧ L.length ≤ m.length
theorem sc_cores_by : FnScope ["machine", "plain", "part"] ["machine"] (defScope (topS 64)) := ⟨rfl, rfl, rfl, by decide +kernel, rfl, by decide +kernel, by decide +kernel⟩
theorem f_cores_by (E : En K mg) : Fn P w K mg base "cores_by" 5 ["machine"] none false Fcores := by
  refine mkFn E 46 sc_cores_by (by decide) (fun bs R h => by obtain ⟨_, _, _, rfl, _⟩ := h; rfl) (fun _ _ _ _ _ _ us hl => match us, hl with | [_], _ => rfl) fun f cdv A outer s H X fa ca bs R hr hf h => ?_
  obtain ⟨m, wd, ok, rfl, rfl⟩ := h
  have okg := ok.mg
  have few := ok.few
  have fewg := okg.few
  have lg := mg_le (m := m)
  refine sq_cons (s1_setD (i := 1) (d := enc (W97.mg m)) sc_cores_by.nd rfl (.inr rfl) (ed_call (f_merged_by E) (hr.mono (by decide)) rfl rfl (ad_cons (v 0) ad_nil) ⟨m, wd, ok.s, rfl, rfl⟩) ?_)
  refine sq_cons (s1_ret (eq_asSetQ (f_as_set E) hr (by decide) rfl rfl (eq_lcQ (G := fun ds => ∃ Ps : List (List Nat), ds = Ps.map enc ∧ (∀ L, L ∈ Ps ↔ IsLeast (W97.mg m) L) ∧ Ps.length ≤ (W97.mg m).length) [("part", 2)] rfl sc_cores_by.nd
    ((eq_callM (f_least_parts E) (hr.mono (by decide)) rfl rfl (v 1) ⟨W97.mg m, wd, okg, rfl, rfl⟩).mono fun b ⟨Ps, e, h1, h2⟩ => ⟨.own, _, e, Ps, rfl, h1, h2⟩) (blkOk_by (by kernel_rfl)) (Nat.zero_le _) fun ds hG => ?_)))
  obtain ⟨Ps, rfl, h1, h2⟩ := hG
  refine ⟨by rw [List.length_map]; omega, fun i acc => ∃ cs : List Mc, acc = cs.map enc ∧ cs.length = i ∧ ∀ (j : Nat) (c : Mc) (L : List Nat), cs[j]? = some c → Ps[j]? = some L → c ≠ [] ∧ IsCore leM (W97.mg m) L c, ⟨[], rfl, rfl, fun j c L h => by cases h⟩, ?_, ?_⟩
  · rintro i d acc hd ⟨cs, rfl, hl, hcs⟩
    obtain ⟨L, hL, rfl⟩ := take_map hd
    obtain ⟨q1, q2, q3⟩ := least_lt okg.s.ok ((h1 L).1 (List.mem_of_getElem? hL))
    refine ⟨[2], _, by decide, fun _ _ _ _ _ => t1 2 sc_cores_by.nd, fun _ _ _ _ _ => EQ.mono (eq_callD (f_core_by E) (hr.mono (by decide)) rfl rfl (ad_cons (v 1) (ad_cons (v 2) ad_nil)) ⟨W97.mg m, wd, L, okg, q1, q2, q3, rfl, rfl⟩) fun b ⟨c, e, hc0, hc⟩ => ⟨enc c, e, cs ++ [c], by rw [List.map_append]; rfl, by rw [List.length_append, hl]; rfl, fun j c' L' e1 e2 => ?_⟩⟩
    rcases Nat.lt_or_ge j cs.length with lt | ge
    · rw [List.getElem?_append_left lt] at e1
      exact hcs j c' L' e1 e2
    · rw [List.getElem?_append_right ge] at e1
      have hj : j = cs.length := by
        have z := (List.getElem?_eq_some_iff.mp e1).1
        rw [List.length_singleton] at z
        omega
      subst hj
      rw [Nat.sub_self] at e1
      rw [hl, hL] at e2
      have e1 := Option.some.inj (show some c = some c' from e1)
      have e2 := Option.some.inj e2
      rw [← e1, ← e2]
      exact ⟨hc0, hc⟩
  · rintro acc ⟨cs, rfl, hl, hcs⟩
    rw [List.length_map] at hl
    have hmem : ∀ c ∈ cs, c ≠ [] ∧ ∃ L, IsLeast (W97.mg m) L ∧ IsCore leM (W97.mg m) L c := fun c hc => by
      obtain ⟨j, hj, e⟩ := List.getElem_of_mem hc
      have hj2 : j < Ps.length := by omega
      obtain ⟨z1, z2⟩ := hcs j c Ps[j] (by rw [List.getElem?_eq_getElem hj, e]) (List.getElem?_eq_getElem hj2)
      exact ⟨z1, Ps[j], (h1 _).1 (List.getElem_mem hj2), z2⟩
    refine ⟨.own, _, rfl, by rw [List.length_map]; omega, fun d hd => ?_, al_map _, fun out ho => ?_⟩
    · obtain ⟨c, hc, rfl⟩ := List.mem_map.mp hd
      exact si_list (by decide) (hmem c hc).1
    · obtain ⟨L, rfl, g1, g2⟩ := sout_map ho
      refine ⟨L, rfl, ⟨fun c hc => (hmem c ((g1 c).1 hc)).2, fun Q hQ => ?_⟩, by omega⟩
      obtain ⟨j, hj, e⟩ := List.getElem_of_mem ((h1 Q).2 hQ)
      have hj2 : j < cs.length := by omega
      exact ⟨cs[j], (g1 _).2 (List.getElem_mem hj2), (hcs j cs[j] Q (List.getElem?_eq_getElem hj2) (by rw [List.getElem?_eq_getElem hj, e])).2⟩
end
end W97
end
section
set_option Elab.async false
set_option linter.all false
set_option maxRecDepth 100000
set_option maxHeartbeats 2000000
namespace W97
open PySem PySem.Spec PyProof.Rows L2 PyEnc
/-- is it there (by the kind's own equality) -/
def memB {α : Type} [DecidableEq α] (l : List α) (x : α) : Bool := decide (x ∈ l)
theorem memB_iff {α : Type} [DecidableEq α] {l : List α} {x : α} : memB l x = true ↔ x ∈ l := decide_eq_true_iff
/-- two machines of at most five standings and four letters -/
structure P5 (one other : Mc) (wd : Nat) : Prop where
  k1 : Ok one wd
  k2 : Ok other wd
  l1 : one.length ≤ 5
  l2 : other.length ≤ 5
  lw : wd ≤ 4
section
variable {one other : Mc} {wd : Nat}
theorem P5.swap (T : P5 one other wd) : P5 other one wd := ⟨T.k2, T.k1, T.l2, T.l1, T.lw⟩
theorem P5.s1 (T : P5 one other wd) : OkS one wd := ⟨T.k1, Nat.lt_of_le_of_lt (Nat.mul_le_mul T.lw T.l1) (by decide)⟩
theorem P5.s2 (T : P5 one other wd) : OkS other wd := T.swap.s1
theorem P5.f1 (T : P5 one other wd) : OkF one wd := ⟨T.s1, Nat.lt_of_le_of_lt T.l1 (by decide)⟩
theorem P5.f2 (T : P5 one other wd) : OkF other wd := T.swap.f1
theorem P5.two (T : P5 one other wd) : Two one other wd := ⟨T.s1, T.s2⟩
theorem P5.small (T : P5 one other wd) : Small one other wd := by
  have h : 2 ^ other.length ≤ 2 ^ 5 := Nat.pow_le_pow_right (by decide) T.l2
  exact Nat.le_trans (Nat.mul_le_mul (Nat.mul_le_mul T.l1 h) T.lw) (by decide)
end
section
variable {P : Program} {w : World} {K : PySem.W.Frag} {mg : Str → Option Value} {base : Heap}
def Fsettled : List Bd → (Bd → Prop) → Prop := fun bs R => ∃ (m : Mc) (wd : Nat), OkF m wd ∧ bs = [.dat (enc m)] ∧ R = fun b => b = .dat .none ∨ ∃ n : Nat, b = .dat (enc n) ∧ n ≤ m.length ∧ ∀ t ∈ afterI m n, Settled m t
theorem sc_settled_by : FnScope ["machine", "marks", "settled", "part", "here", "beats", "standing"] ["machine"] (defScope (topS 65)) := ⟨rfl, rfl, rfl, by decide +kernel, rfl, by decide +kernel, by decide +kernel⟩
theorem f_settled_by (E : En K mg) : Fn P w K mg base "settled_by" 5 ["machine"] none false Fsettled := by
  refine mkFn E 47 sc_settled_by (by decide) (fun bs R h => by obtain ⟨_, _, _, rfl, _⟩ := h; rfl) (fun _ _ _ _ _ _ us hl => match us, hl with | [_], _ => rfl) fun f cdv A outer s H X fa ca bs R hr hf h => ?_
  obtain ⟨m, wd, ok, rfl, rfl⟩ := h
  have k := ok.s.ok
  have okg := ok.mg
  have few := ok.few
  have fewg := okg.few
  have lg := mg_le (m := m)
  have hwl : wd < 64 := Nat.lt_of_le_of_lt (Nat.le_mul_of_pos_right _ k.ne) ok.s.sm
  refine sq_cons (s1_setB (i := 1) (bd := .ft K ((cls m).map enc)) sc_settled_by.nd rfl (.inr rfl) (eq_callM (f_marks_by E) (hr.mono (by decide)) rfl rfl (v 0) ⟨m, wd, k, by omega, by omega, rfl, rfl⟩) ?_)
  refine sq_cons (s1_setB (i := 2) (bd := .lst .own []) sc_settled_by.nd rfl (.inr rfl) (el_lst ad_nil (Nat.zero_le _)) ?_)
  refine sq_cons (s1_forLQ (G := fun ds => ∃ Ps : List (List Nat), ds = Ps.map enc ∧ (∀ L, L ∈ Ps ↔ IsLeast (W97.mg m) L) ∧ Ps.length ≤ (W97.mg m).length) PassesOwn.never rfl
    ((eq_callM (f_least_parts E) (hr.mono (by decide)) rfl rfl (ed_call (f_merged_by E) (hr.mono (by decide)) rfl rfl (ad_cons (v 0) ad_nil) ⟨m, wd, ok.s, rfl, rfl⟩) ⟨W97.mg m, wd, okg, rfl, rfl⟩).mono fun b ⟨Ps, e, h1, h2⟩ => ⟨_, e, Ps, rfl, h1, h2⟩) fun ds hG => ?_)
  obtain ⟨Ps, rfl, h1, h2⟩ := hG
  have hfl : ∀ Qs : List (List Nat), (∀ L ∈ Qs, L ∈ Ps) → Qs.flatten.length ≤ Qs.length * m.length := by
    intro Qs
    induction Qs with
    | nil => intro _; exact Nat.zero_le _
    | cons L Qs ih =>
      intro hq
      rw [List.flatten_cons, List.length_append, List.length_cons, Nat.succ_mul]
      have z1 := ih fun L hL => hq L (List.mem_cons_of_mem _ hL)
      have z2 := (least_lt okg.s.ok ((h1 L).1 (hq L List.mem_cons_self))).2.2
      omega
  refine ⟨fun i ρ' => ρ' = [some (.dat (enc m)), some (.ft K ((cls m).map enc)), some (.lst .own ((Ps.take i).flatten.map enc)), none, none, none, none], rfl, ?_, ?_⟩
  rotate_left
  · rintro i d ρ' hd rfl
    obtain ⟨L, hL, rfl⟩ := take_map hd
    have hLm := List.mem_of_getElem? hL
    refine ⟨[3], _, t1 3 sc_settled_by.nd, sq_cons (s1_extend (i := 2) (es' := L.map enc) rfl rfl (.inr (.inl rfl)) (el_list rfl E.list_ (EQ.items (ds := L.map enc) (v 3))) (sq_nilF [3] ?_) ?_)⟩
    · show _ = _
      rw [take_next hL, List.flatten_append, List.map_append, List.flatten_singleton]; rfl
    · have z1 := hfl (Ps.take i) fun L hL => List.mem_of_mem_take hL
      have z2 := (least_lt okg.s.ok ((h1 L).1 hLm)).2.2
      have z3 : (Ps.take i).length ≤ Ps.length := List.length_take_le' _ _
      have z4 : (Ps.take i).length * m.length ≤ 32 * 32 := Nat.mul_le_mul (by omega) (by omega)
      rw [List.length_map, List.length_map, sizeLine_eq]
      omega
  · rintro ρ' rfl
    rw [List.length_map, List.take_length]
    refine ⟨rfl, ?_⟩
    have hSl := hfl Ps fun _ h => h
    have hin : ∀ t, (cl m t ∈ Ps.flatten ↔ Settled m t) := fun t => by
      rw [List.mem_flatten]
      exact ⟨fun ⟨L, hL, hc⟩ => ⟨L, (h1 L).1 hL, hc⟩, fun ⟨L, hL, hc⟩ => ⟨L, (h1 L).2 hL, hc⟩⟩
    generalize Ps.flatten = S at hSl hin
    have z4 : Ps.length * m.length ≤ 32 * 32 := Nat.mul_le_mul (by omega) (by omega)
    refine sq_cons (s1_setD (i := 4) (d := enc (afterI m 0)) sc_settled_by.nd rfl (.inl rfl) (ed_call (f_all_standings E) (hr.mono (by decide)) rfl rfl (ad_cons (v 0) ad_nil) ⟨m, rfl, by omega, rfl⟩) ?_)
    refine sq_cons (s1_for PassesOwn.never rfl (itl_rg1 (n := m.length + 1) rfl E.range_ (addE (i := m.length) (j := 1) (lenE rfl E.len_ (v 0)) ed_int) (by omega)) (fun i ρ' => ρ' = [some (.dat (enc m)), some (.ft K ((cls m).map enc)), some (.lst .own (S.map enc)), none, some (.dat (enc (afterI m i))), none, none]) rfl ?_ ?_ ?_)
    · rintro ρ' rfl; rfl
    · rintro i d ρ' hd rfl
      obtain ⟨x, hx, rfl⟩ := take_map hd
      obtain ⟨hxl, hxi⟩ := List.getElem?_eq_some_iff.mp hx
      rw [List.getElem_range] at hxi
      rw [List.length_range] at hxl
      subst hxi
      obtain ⟨hu, hlt⟩ := afterI_sub k i
      have hal := up_few hu hlt
      refine ⟨[5], _, t1 5 sc_settled_by.nd, sq_cons (s1_if (td_val (ed_all (o := .own) (bl := (afterI m i).map fun t => decide (cl m t ∈ S)) rfl rfl E.all_ ?_)) (fun hc => ?_) fun hc => ?_)⟩
      · exact el_mapE (l := afterI m i) (g := fun t => decide (cl m t ∈ S)) [("standing", 6)] rfl sc_settled_by.nd (itc_tup (v 4)) (blkOk_by (by kernel_rfl)) (by omega) fun t ht =>
          ⟨[6], _, by decide, fun _ _ _ _ _ => t1 6 sc_settled_by.nd, fun _ _ _ _ _ => inLE hr (ixE (l := cls m) (ed_ft (vp 1)) (v 6) (cls_at (hlt t ht))) (vl 2)⟩
      · refine sq_cons (s1_ret ((v 5).mono fun b e => .inr ⟨i, e, by omega, fun t ht => ?_⟩))
        rw [List.all_map, List.all_eq_true] at hc
        exact (hin t).1 (of_decide_eq_true (hc t ht))
      · refine sq_nil (sq_cons (s1_setD (i := 4) (d := enc (afterI m (i + 1))) sc_settled_by.nd rfl (.inl rfl) (ed_call (f_nexts_of E) (hr.mono (by decide)) rfl rfl (ad_cons (v 0) (ad_cons (v 4) ad_nil)) ⟨m, wd, afterI m i, k, hlt, Nat.lt_of_le_of_lt (Nat.mul_le_mul_left _ hal) ok.s.sm, rfl, rfl⟩) (sq_nilF [5] rfl)))
    · rintro ρ' rfl
      exact sq_cons (s1_ret (ed_non.mono fun b e => .inl e))
theorem sc_settled_after : FnScope ["machine"] ["machine"] (defScope (topS 67)) := ⟨rfl, rfl, rfl, by decide +kernel, rfl, by decide +kernel, by decide +kernel⟩
theorem f_settled_after (E : En K mg) : Fn P w K mg base "settled_after" 7 ["machine"] none false Fsettled := by
  refine mkFn E 48 sc_settled_after (by decide) (fun bs R h => by obtain ⟨_, _, _, rfl, _⟩ := h; rfl) (fun _ _ _ _ _ _ us hl => match us, hl with | [_], _ => rfl) fun f cdv A outer s H X fa ca bs R hr hf h => ?_
  obtain ⟨m, wd, ok, rfl, rfl⟩ := h
  refine sq_cons (s1_expr (d := .none) (ed_callV (dds := [.str "machine"]) (ds := [enc m]) (f_want_machine1 E) hr rfl rfl (fun H => .cons (.str _) .nil) (ad_cons (v 0) ad_nil) ⟨m, wd, .str "machine", ok.s, rfl, rfl⟩) ?_)
  exact sq_cons (s1_ret (eq_callM (f_settled_by E) (hr.mono (by decide)) rfl rfl (v 0) ⟨m, wd, ok, rfl, rfl⟩))
theorem sc_shares_cores : FnScope ["one", "other", "found", "core"] ["one", "other"] (defScope (topS 68)) := ⟨rfl, rfl, rfl, by decide +kernel, rfl, by decide +kernel, by decide +kernel⟩
def Fshares : List PyData → PyData → Prop := fun ds d => ∃ (one other : Mc) (wd : Nat) (t : Bool), P5 one other wd ∧ (t = true ↔ ∃ r, Plain wd one other r) ∧ ds = [enc one, enc other] ∧ d = .bool t
theorem f_shares_cores (E : En K mg) : Fn P w K mg base "shares_cores" 8 ["one", "other"] none false (Fdd Fshares) := by
  refine mkFn E 49 sc_shares_cores (by decide) (fun bs R h => by obtain ⟨_, _, rfl, ⟨_, _, _, _, _, _, rfl, _⟩, _⟩ := h; rfl) (fun _ _ _ _ _ _ us hl => match us, hl with | [_, _], _ => rfl) fun f cdv A outer s H X fa ca bs R hr hf h => ?_
  obtain ⟨_, _, rfl, ⟨one, other, wd, t, T, ht, rfl, rfl⟩, rfl⟩ := h
  have l1 := T.l1
  refine sq_cons (s1_expr (d := .none) (ed_call (f_want_both E) hr rfl rfl (ad_cons (v 0) (ad_cons (v 1) ad_nil)) ⟨one, other, wd, T.two, rfl, rfl⟩) ?_)
  refine sq_cons (s1_set (i := 2) sc_shares_cores.nd rfl (.inr rfl) ((eq_callM (f_cores_by E) (hr.mono (by decide)) rfl rfl (v 1) ⟨other, wd, T.f2, rfl, rfl⟩).mono fun b ⟨L2, e, h2, g2⟩ => ?_))
  subst e
  refine ⟨True.intro, ?_⟩
  refine sq_cons (s1_ret (eq_allQ rfl rfl E.all_ (eq_lcQT (G := fun ds => ∃ L1 : List Mc, ds = L1.map enc ∧ TellsCores leM one L1 ∧ L1.length ≤ one.length) [("core", 3)] rfl sc_shares_cores.nd
    ((eq_callM (f_cores_by E) (hr.mono (by decide)) rfl rfl (v 0) ⟨one, wd, T.f1, rfl, rfl⟩).mono fun b ⟨L1, e, h1, g1⟩ => ⟨L1.map enc, e, L1, rfl, h1, g1⟩) (blkOk_by (by kernel_rfl)) (Nat.zero_le _) fun ds hG => ?_)))
  obtain ⟨L1, rfl, h1, g1⟩ := hG
  refine ⟨by rw [List.length_map]; omega, fun i acc => acc = ((L1.take i).map fun c => memB L2 c).map enc, rfl, ?_, ?_⟩
  · rintro i d acc hd rfl
    obtain ⟨c, hc, rfl⟩ := take_map hd
    refine ⟨[3], _, by decide, fun _ _ _ _ _ => t1 3 sc_shares_cores.nd, fun _ _ _ _ _ => EQ.mono (inTE (l := L2) hr (v 3) (v 2)) fun b e => ⟨_, e, ?_⟩⟩
    show _ = _
    rw [take_next hc, List.map_append, List.map_append]; rfl
  · rintro acc rfl
    rw [List.length_map, List.take_length]
    refine ⟨.own, L1.map fun c => memB L2 c, rfl, ?_⟩
    have e : (L1.map fun c => memB L2 c).all id = t := by
      rw [Bool.eq_iff_iff, ht, ← share_iff T.k1 T.k2 (fun c _ d _ => leM_anti) h1 h2, List.all_map, List.all_eq_true]
      exact ⟨fun h c hc => memB_iff.mp (h c hc), fun h c hc => memB_iff.mpr (h c hc)⟩
    show Bd.dat _ = _
    rw [e]
end
end W97
end
section
set_option Elab.async false
set_option linter.all false
set_option maxRecDepth 100000
set_option maxHeartbeats 2000000
namespace W97
open PySem PySem.Spec PyProof.Rows L2 PyEnc
section
variable {X : Cx} {m : Mo} {ρ : Ab} {a b e : Expr} {p pos : Pos} {d1 d2 : PyData}
theorem ed_gstr {x z : Str} (hg : Gl X x) (hm : ∃ t, X.mg x = some (.str z t)) (hd : (x == ("__debug__" : Str)) = false := by decide) : ED X m ρ (.Name x pos) (.str z) := by
  obtain ⟨t, hm⟩ := hm
  exact eq_c (v := .str z) (pe_glob (v := .str z) hg hm ⟨t, rfl⟩ hd) fun _ => .str z
theorem td_eqD {k : Nat} {t : Bool} (r : Room k X.A) (h1 : ED X m ρ a d1) (h2 : ED X m ρ b d2) (s1 : SeqAt.shaped d1 = true) (s2 : SeqAt.shaped d2 = true) (e : PyData.eqv d1 d2 = t) : TD X m ρ (.Compare a [.Eq] [b] pos) t := by
  subst e
  exact td_cmp (ed_eqD (w := r) h1.asD h2.asD s1 s2) (nomark _) ⟨_, op_eqD r.units, twoD (r := rEqD X.K) (Q := (· = .dat (.bool (PyData.eqv d1 d2)))) h1.asD h2.asD fun b1 b2 e1 e2 Ha Hb H u v _ r1 r2 Qv kk => ⟨d1, d2, e1.dp r1, e2.dp r2, s1, s2, kk _ (.dat (.bool (PyData.eqv d1 d2))) H Gr.refl (.bl _) rfl⟩⟩
/-- x not in t, t a tuple of data -/
def rNiT (K : PySem.W.Frag) : R2 := fun x y H Q => ∃ d ds, Dp K H x d ∧ Dp K H y (.tuple ds) ∧ SeqAt.shaped d = true ∧ SeqAt.shaped (.tuple ds) = true ∧ Q (.bl (!ds.any fun z => PyData.eqv z d)) H
theorem op_niT (hu : X.A.units + 65 < cLine) : OpR X (compareOp .NotIn) (rNiT X.K) := by
  intro pins s σ H x y v u Q I rx ry h
  obtain ⟨d, ds, hd, he, sd, se, q⟩ := h
  obtain ⟨as, q1⟩ := Dp.reads I d x v hd rx
  obtain ⟨bs, q2⟩ := Dp.reads I (.tuple ds) y u he ry
  exact SeqAt.notIn_tuple_reads q2 q1 (SeqAt.canLay_of_shaped se) (SeqAt.canLay_of_shaped sd) (room_in_shaped sd hu) ⟨.bl _, H, I, rfl, q⟩
theorem td_niT {k : Nat} {ds : List PyData} {t : Bool} (r : Room k X.A) (h1 : ED X m ρ a d1) (h2 : ED X m ρ b (.tuple ds)) (hm : behindInMarks .NotIn b = false) (s1 : SeqAt.shaped d1 = true) (s2 : SeqAt.shaped (.tuple ds) = true) (e : (!ds.any fun z => PyData.eqv z d1) = t) : TD X m ρ (.Compare a [.NotIn] [b] pos) t := by
  subst e
  have q : EQ X m ρ a fun b1 => EQ X m ρ b fun b2 => AR X m (rNiT X.K) b1 b2 (· = .dat (.bool (!ds.any fun z => PyData.eqv z d1))) := twoD (d2 := .tuple ds) h1.asD (EQ.asD h2) fun b1 b2 e1 e2 Ha Hb H u v _ r1 r2 Qv kk => ⟨d1, ds, e1.dp r1, e2.dp r2, s1, s2, kk _ (.dat (.bool _)) H Gr.refl (.bl _) rfl⟩
  exact td_cmp (eq_cmp (op_niT (units65 r)) hm q) hm ⟨_, op_niT (units65 r), q⟩
end
theorem shaped_pl : SeqAt.shaped (.str "plain") = true := by decide +kernel
section
variable {P : Program} {w : World} {K : PySem.W.Frag} {mg : Str → Option Value} {base : Heap}
theorem En.plain_ (E : En K mg) : ∃ t, mg "PLAIN" = some (.str "plain" t) := E.str 88
theorem En.core_ (E : En K mg) : ∃ t, mg "CORE" = some (.str "core" t) := E.str 89
theorem sc_strange_by : FnScope ["one", "other", "letters", "known", "found", "standing"] ["one", "other", "letters"] (defScope (topS 18)) := ⟨rfl, rfl, rfl, by decide +kernel, rfl, by decide +kernel, by decide +kernel⟩
def Fstrange : List PyData → PyData → Prop := fun ds d => ∃ (one other : Mc) (wd : Nat) (r : Row), P5 one other wd ∧ Plain wd one other r ∧ r.length ≤ 1000 ∧ ds = [enc one, enc other, enc r] ∧ d = .none
theorem f_strange_by (E : En K mg) : Fn P w K mg base "strange_by" 4 ["one", "other", "letters"] none false (Fdd Fstrange) := by
  refine mkFn E 15 sc_strange_by (by decide) (fun bs R h => by obtain ⟨_, _, rfl, ⟨_, _, _, _, _, _, _, rfl, _⟩, _⟩ := h; rfl) (fun _ _ _ _ _ _ us hl => match us, hl with | [_, _, _], _ => rfl) fun f cdv A outer s H X fa ca bs R hr hf h => ?_
  obtain ⟨_, _, rfl, ⟨one, other, wd, r, T, pl, hrl, rfl, rfl⟩, rfl⟩ := h
  have l1 := T.l1
  refine sq_cons (s1_setB (i := 3) (bd := .lst .own ((good one other).map enc)) sc_strange_by.nd rfl (.inr rfl) (eq_callD (f_known_standings E) hr rfl rfl (ad_cons (v 0) (ad_cons (v 1) ad_nil)) ⟨one, other, wd, T.two, rfl, rfl⟩) ?_)
  have e : (List.range one.length).filter (fun s => !memB (good one other) (run one s r)) = [] := by
    rw [List.filter_eq_nil_iff]
    intro s hs
    have z := memB_iff.mpr (pl.2 s (List.mem_range.mp hs))
    rw [z]; decide
  refine sq_cons (s1_setFilE (l := List.range one.length) (q := fun s => !memB (good one other) (run one s r)) (g := fun s => s) [("standing", 5)] rfl sc_strange_by.nd (i := 4) rfl rfl (itc_tup (ds := (List.range one.length).map enc) (ed_call (f_all_standings E) (hr.mono (by decide)) rfl rfl (ad_cons (v 0) ad_nil) ⟨one, rfl, by omega, rfl⟩)) (blkOk_by (by kernel_rfl)) (by rw [List.length_range]; omega) (fun s hs =>
    ⟨[5], _, by decide, fun _ _ _ _ _ => t1 5 sc_strange_by.nd, fun _ _ _ _ _ => td_niLE hr (sndE (x := (outs one s r, run one s r)) (ed_call (f_led_by E) (hr.mono (by decide)) rfl rfl (ad_cons (v 0) (ad_cons (v 5) (ad_cons (v 2) ad_nil))) ⟨one, wd, s, r, T.k1, List.mem_range.mp hs, pl.1, hrl, rfl, rfl⟩) ed_int) (vl 3), fun _ _ _ _ _ _ => v 5⟩) ?_ (sw_true rfl rfl rfl (by decide +kernel)))
  rw [e]
  exact sq_cons (s1_ret (eq_if (k := false) (td_gtE (i := 0) (j := 0) (lenL (l := ([] : List Nat)) rfl E.len_ (vl 4)) ed_int) (fun z => by cases z) fun _ => ed_non))
theorem sc_row_fault : FnScope ["one", "other", "thing", "standing"] ["one", "other", "thing"] (defScope (topS 72)) := ⟨rfl, rfl, rfl, by decide +kernel, rfl, by decide +kernel, by decide +kernel⟩
theorem f_row_fault (E : En K mg) : Fn P w K mg base "row_fault" 5 ["one", "other", "thing"] none false (Fdd Fstrange) := by
  refine mkFn E 50 sc_row_fault (by decide) (fun bs R h => by obtain ⟨_, _, rfl, ⟨_, _, _, _, _, _, _, rfl, _⟩, _⟩ := h; rfl) (fun _ _ _ _ _ _ us hl => match us, hl with | [_, _, _], _ => rfl) fun f cdv A outer s H X fa ca bs R hr hf h => ?_
  obtain ⟨_, _, rfl, ⟨one, other, wd, r, T, pl, hrl, rfl, rfl⟩, rfl⟩ := h
  refine sq_cons (s1_if (k := false) (td_not (k := true) (td_val (ed_call (f_are_indexes E) hr rfl rfl (ad_cons (lenE (l := st one 0) rfl E.len_ (ixE (n := 0) (v 0) ed_int (st_at T.k1.ne))) (ad_cons (v 2) ad_nil)) ⟨(st one 0).length, r, ?_, hrl, rfl, rfl⟩))) (fun z => by cases z) fun _ => sq_nil ?_)
  · rw [T.k1.wst T.k1.ne]
    exact pl.1
  refine sq_cons (s1_setD (i := 3) (d := .none) sc_row_fault.nd rfl (.inl rfl) (ed_call (f_strange_by E) hr rfl rfl (ad_cons (v 0) (ad_cons (v 1) (ad_cons (v 2) ad_nil))) ⟨one, other, wd, r, T, pl, hrl, rfl, rfl⟩) ?_)
  exact sq_cons (s1_ret (eq_if (k := false) (td_notN (d := .none) (v 3)) (fun z => by cases z) fun _ => ed_non))
def plainD (r : Row) : PyData := .tuple [.str "plain", enc r]
def Fpfault : List PyData → PyData → Prop := fun ds d => ∃ (one other : Mc) (wd : Nat) (r : Row), P5 one other wd ∧ Plain wd one other r ∧ r.length ≤ 1000 ∧ ds = [enc one, enc other, plainD r] ∧ d = .none
theorem sc_plain_fault : FnScope ["one", "other", "thing", "is_right"] ["one", "other", "thing"] (defScope (topS 73)) := ⟨rfl, rfl, rfl, by decide +kernel, rfl, by decide +kernel, by decide +kernel⟩
theorem f_plain_fault (E : En K mg) : Fn P w K mg base "plain_fault" 6 ["one", "other", "thing"] none false (Fdd Fpfault) := by
  refine mkFn E 51 sc_plain_fault (by decide) (fun bs R h => by obtain ⟨_, _, rfl, ⟨_, _, _, _, _, _, _, rfl, _⟩, _⟩ := h; rfl) (fun _ _ _ _ _ _ us hl => match us, hl with | [_, _, _], _ => rfl) fun f cdv A outer s H X fa ca bs R hr hf h => ?_
  obtain ⟨_, _, rfl, ⟨one, other, wd, r, T, pl, hrl, rfl, rfl⟩, rfl⟩ := h
  refine sq_cons (s1_if (k := false) (td_or3F (td_not (k := true) (td_val (ed_call (f_is_pair E) (hr.mono (by decide)) rfl rfl (ad_cons (v 2) ad_nil) ⟨_, _, rfl, rfl⟩))) (td_not (k := true) (td_val (ed_isi (d := .str "plain") rfl E.isinstance_ rfl E.str_ boot_str2 (EQ.asD (ed_ixT (ds := [.str "plain", enc r]) (n := 0) (v 2) ed_int rfl (by intro _ _; rfl))) kb_str_str)))
    (td_niT (ds := [.str "plain", .str "core"]) (d1 := .str "plain") hr (ed_ixT (ds := [.str "plain", enc r]) (n := 0) (v 2) ed_int rfl (by intro _ _; rfl)) (ed_tup (ad_cons (ed_gstr rfl E.plain_) (ad_cons (ed_gstr rfl E.core_) ad_nil)) (show 2 ≤ sizeLine by rw [sizeLine_eq]; decide)) rfl shaped_pl (by decide +kernel) (by decide +kernel))) (fun z => by cases z) fun _ => sq_nil ?_)
  refine sq_cons (s1_if (k := true) (td_eqD hr (ed_ixT (ds := [.str "plain", enc r]) (n := 0) (v 2) ed_int rfl (by intro _ _; rfl)) (ed_gstr rfl E.plain_) shaped_pl shaped_pl (by decide +kernel)) (fun _ => ?_) fun z => by cases z)
  exact sq_cons (s1_retD (ed_call (f_row_fault E) hr rfl rfl (ad_cons (v 0) (ad_cons (v 1) (ad_cons (ed_ixT (ds := [.str "plain", enc r]) (n := 1) (v 2) ed_int rfl (by intro _ _; rfl)) ad_nil))) ⟨one, other, wd, r, T, pl, hrl, rfl, rfl⟩) rfl)
theorem sc_lets_plain : FnScope ["one", "other", "thing", "fault"] ["one", "other", "thing"] (defScope (topS 74)) := ⟨rfl, rfl, rfl, by decide +kernel, rfl, by decide +kernel, by decide +kernel⟩
def Flets : List PyData → PyData → Prop := fun ds d => ∃ (one other : Mc) (wd : Nat) (r : Row), P5 one other wd ∧ Plain wd one other r ∧ r.length ≤ 1000 ∧ ds = [enc one, enc other, plainD r] ∧ d = .bool true
theorem f_lets_plain (E : En K mg) : Fn P w K mg base "lets_plain" 8 ["one", "other", "thing"] none false (Fdd Flets) := by
  refine mkFn E 52 sc_lets_plain (by decide) (fun bs R h => by obtain ⟨_, _, rfl, ⟨_, _, _, _, _, _, _, rfl, _⟩, _⟩ := h; rfl) (fun _ _ _ _ _ _ us hl => match us, hl with | [_, _, _], _ => rfl) fun f cdv A outer s H X fa ca bs R hr hf h => ?_
  obtain ⟨_, _, rfl, ⟨one, other, wd, r, T, pl, hrl, rfl, rfl⟩, rfl⟩ := h
  refine sq_cons (s1_expr (d := .none) (ed_call (f_want_both E) hr rfl rfl (ad_cons (v 0) (ad_cons (v 1) ad_nil)) ⟨one, other, wd, T.two, rfl, rfl⟩) ?_)
  refine sq_cons (s1_setD (i := 3) (d := .none) sc_lets_plain.nd rfl (.inl rfl) (ed_call (f_plain_fault E) (hr.mono (by decide)) rfl rfl (ad_cons (v 0) (ad_cons (v 1) (ad_cons (v 2) ad_nil))) ⟨one, other, wd, r, T, pl, hrl, rfl, rfl⟩) ?_)
  refine sq_cons (s1_if (k := false) (td_notN (d := .none) (v 3)) (fun z => by cases z) fun _ => sq_nil ?_)
  have e : PyData.eqv (.str "plain") (.str "plain") = true := by decide +kernel
  rw [← e]
  exact sq_cons (s1_retD (ed_eqD (w := hr) (EQ.asD (ed_ixT (ds := [.str "plain", enc r]) (n := 0) (v 2) ed_int rfl (by intro _ _; rfl))) (EQ.asD (ed_gstr rfl E.plain_)) shaped_pl shaped_pl) rfl)
theorem sc_want_case : FnScope ["one", "other", "beats", "guard"] ["one", "other", "beats", "guard"] (defScope (topS 45)) := ⟨rfl, rfl, rfl, by decide +kernel, rfl, by decide +kernel, by decide +kernel⟩
theorem f_want_case (E : En K mg) : Fn P w K mg base "want_case" 8 ["one", "other", "beats", "guard"] none false (Fdd fun ds d => ∃ (one other : Mc) (wd n : Nat), Two one other wd ∧ ds = [enc one, enc other, enc n, .none] ∧ d = .none) := by
  refine mkFn E 31 sc_want_case (by decide) (fun bs R h => by obtain ⟨_, _, rfl, ⟨_, _, _, _, _, rfl, _⟩, _⟩ := h; rfl) (fun _ _ _ _ _ _ us hl => match us, hl with | [_, _, _, _], _ => rfl) fun f cdv A outer s H X fa ca bs R hr hf h => ?_
  obtain ⟨_, _, rfl, ⟨one, other, wd, n, T, rfl, rfl⟩, rfl⟩ := h
  refine sq_cons (s1_expr (d := .none) (ed_call (f_want_both E) hr rfl rfl (ad_cons (v 0) (ad_cons (v 1) ad_nil)) ⟨one, other, wd, T, rfl, rfl⟩) ?_)
  refine sq_cons (s1_expr (d := .none) (ed_callV (dds := [.int (-1)]) (ds := [.bool true, .str "beats"]) (f_want E) (hr.mono (by decide)) rfl rfl (fun H => .cons (.int _) .nil) (ad_cons (ed_call (f_is_number E) (hr.mono (by decide)) rfl rfl (ad_cons (v 2) ad_nil) ⟨n, rfl, rfl⟩) (ad_cons ed_str ad_nil)) ⟨_, _, rfl, rfl⟩) ?_)
  exact sq_cons (s1_expr (d := .none) (ed_callV (dds := [.int (-1)]) (ds := [.bool true, .str "guard"]) (f_want E) (hr.mono (by decide)) rfl rfl (fun H => .cons (.int _) .nil) (ad_cons (ed_or (k := true) (l := true) (ed_isN (d1 := .none) (v 3)) fun z => by cases z) (ad_cons ed_str ad_nil)) ⟨_, _, rfl, rfl⟩) (sq_nil rfl))
theorem sc_least_beats : FnScope ["one", "other", "guard"] ["one", "other", "guard"] (defScope (topS 76)) := ⟨rfl, rfl, rfl, by decide +kernel, rfl, by decide +kernel, by decide +kernel⟩
theorem f_least_beats (E : En K mg) : FnV P w K mg base "least_beats" 9 ["one", "other", "guard"] (Fdd fun ds d => ∃ (one other : Mc) (wd : Nat), P5 one other wd ∧ (¬ ∃ r, Plain wd one other r) ∧ ds = [enc one, enc other, .none] ∧ d = .none) [.non] := by
  refine mkFnV E 53 (dfl := []) (kwd := [("guard", .non)]) sc_least_beats (by decide) (fun bs R h => by obtain ⟨_, _, rfl, ⟨_, _, _, _, _, rfl, _⟩, _⟩ := h; rfl) (fun fd F => F.binds0 2 (by intro z; cases z) rfl fun D doc pm an cdv ct us ks hu hk => match us, ks, hu, hk with | [_, _], [_], _, _ => ⟨_, _, _, _, _, _, rfl, rfl, rfl⟩) fun f cdv A outer s H X fa ca bs R hr h => ?_
  obtain ⟨_, _, rfl, ⟨one, other, wd, T, np, rfl, rfl⟩, rfl⟩ := h
  refine sq_cons (s1_expr (d := .none) (ed_call (f_want_case E) hr rfl rfl (ad_cons (v 0) (ad_cons (v 1) (ad_cons ed_int (ad_cons (v 2) ad_nil)))) ⟨one, other, wd, 0, T.two, rfl, rfl⟩) ?_)
  exact sq_cons (s1_retD (ed_call (f_least_by E) (hr.mono (by decide)) rfl rfl (ad_cons (v 0) (ad_cons (v 1) (ad_cons (v 2) ad_nil))) ⟨one, other, wd, T.two, T.small, np, rfl, rfl⟩) rfl)
end
end W97
end
section
set_option Elab.async false
set_option linter.all false
set_option maxRecDepth 100000
set_option maxHeartbeats 2000000
namespace W97
open PySem PySem.Spec PyProof.Rows L2 PyEnc
/-! ### made functions as values -/
def FP (mk : Addr → NdefX.NF) : Hp → V → Prop := fun H v => ∃ (f c : Addr), v = .ref f ∧ H f = some (NdefX.FnO f (mk c)) ∧ H (mk c).c = some (LamX.CodeO (mk c).c (mk c).qual)
theorem FP.pin {mk : Addr → NdefX.NF} : Pinned (FP mk) := fun _ _ _ t ⟨f, c, e, h1, h2⟩ => ⟨f, c, e, t _ _ h1 .fno, t _ _ h2 .code⟩
abbrev Bd.fn (mk : Addr → NdefX.NF) : Bd := .pr (FP mk) FP.pin
section
variable {X : Cx} {m : Mo} {HE H0 H H1 H2 : Hp} {ρ : Ab} {σ : L2.St} {E : AE} {st : Stmt}
theorem Gr.tabled {T : List NdefX.NTab} (hm : m.tb = some T) (eN : LamX.ExtN H H1) (nn : ∀ b, H1 b = none → H b = none) (T1 : NdefX.TabsN T H1) : Gr m H H1 :=
  ⟨fun b o e n _ => eN b o e (n.resolve_left fun z => by rw [hm] at z; cases z), fun T' e _ => by
    rw [hm] at e
    cases e
    exact T1, nn, fun a _ ⟨cs, n, r, t, h1, h2, h3, h4⟩ => ⟨cs, n, r, t, eN _ _ h1 (fun ps z => by cases z), eN _ _ h2 (fun ps z => by cases z), h3, h4⟩⟩
/-- def name(..) within a def -/
theorem s1_ndef {T : List NdefX.NTab} {i : Nat} {mk : Addr → NdefX.NF} (hm : m.tb = some T) (hp : PS X st (NdefX.tNdefM T i mk)) (hc : ∀ c, (mk c).c = c) (q : E.nx (ρ.set i (some (.fn mk)))) : S1 X m ρ st E := by
  intro σ H HE H0 S D d
  refine s1_of hp ⟨S.tabs T hm, fun f c H1 eN nn T1 f0 f1 c1 => d.nx _ _ H1 (S.set (v := .ref f) (b := .fn mk) (Gr.tabled hm eN nn T1) ⟨f, c, rfl, f1, ?_⟩ True.intro) q⟩
  rw [hc]
  exact c1
end
/-! ### a state at a def's entry -/
theorem sst_start {K : PySem.W.Frag} {m : Mo} {H : Hp} {zs : List V} {ds : List Bd} {k : Nat} (phi : m.phi H) (fe : FeedAt m H) (tb : ∀ T, m.tb = some T → NdefX.TabsN T H) (r : HRs K m H H zs (ds.map Bd.read)) :
    SSt K m H H ((ds.map Bd.read).map some ++ List.replicate k none) (zs.map some ++ List.replicate k none) H := by
  have hl : zs.length = ds.length := by rw [r.len, List.length_map]
  have old : ∀ {i : Nat} {b : Bd}, ((ds.map Bd.read).map some ++ List.replicate k none)[i]? = some (some b) → ∃ c, ds[i]? = some c ∧ b = c.read := fun {i b} e => by
    rcases Nat.lt_or_ge i ds.length with z | z
    · rw [List.getElem?_append_left (by simpa using z), List.getElem?_map, List.getElem?_map] at e
      cases q : ds[i]? with
      | none => rw [q] at e; cases e
      | some c =>
        rw [q] at e
        exact ⟨c, rfl, (Option.some.inj (Option.some.inj e)).symm⟩
    · rw [List.getElem?_append_right (by simpa using z), List.getElem?_replicate] at e
      split at e <;> cases e
  refine ⟨phi, Gr.refl, Gr.refl, fe, tb, ?_, fun i b e => ?_, fun i j b b' v _ e1 _ o1 => ?_⟩
  · simp only [List.length_append, List.length_map, List.length_replicate, hl]
  · obtain ⟨c, hc, rfl⟩ := old e
    obtain ⟨v, hv, hh⟩ := r.at (i := i) (b := c.read) (by rw [List.getElem?_map, hc]; rfl)
    refine ⟨v, ?_, ?_⟩
    · rw [List.getElem?_append_left (by rw [List.length_map]; exact (List.getElem?_eq_some_iff.mp hv).1), List.getElem?_map, hv]; rfl
    · cases c with
      | dat d => exact hh
      | lst k ds => exact hh
      | feed => exact hh
      | val x => exact hh
      | any => exact True.intro
      | pr P k => exact hh
      | dct k kvs => exact True.intro
  · obtain ⟨c, _, rfl⟩ := old e1
    cases c <;> cases o1
theorem HRs.still {K : PySem.W.Frag} {m : Mo} {H H' : Hp} (t : TK H H') (l : ∀ p xs, SqL K H p xs → SqL K H' p xs) : ∀ {cs : List Bd} {us : List V}, HRs K m H H us (cs.map Bd.read) → HRs K m H' H' us (cs.map Bd.read)
  | [], _, h => by cases h; exact .nil
  | b :: cs, _, h => by
    cases h with
    | cons a r =>
      refine .cons ?_ (r.still t l)
      cases b with
      | dat d => exact DV.keep t a
      | lst lk ds =>
        obtain ⟨p, vs, e, h1, h2⟩ := a
        exact ⟨p, vs, e, l _ _ h1, h2.keep t⟩
      | feed => exact a
      | val x => exact a
      | any => exact True.intro
      | pr P k => exact k _ _ _ t a
      | dct lk kvs => exact True.intro
/-! ### a nested def by its body -/
abbrev mo0 (w : World) : Mo := { tb := none, fa := none, ca := 0, wd := some w }
/-- from what the captured names hold (cs) and the arguments (bs): what it hands back -/
def PrN (K : PySem.W.Frag) (w : World) (Fs : List Bd → List Bd → (Bd → Prop) → Prop) : List (Option V) → Sp := fun ws vs H Q _ => ∃ (us : List V) (bs cs : List Bd) (R : Bd → Prop), ws = us.map some ∧ Fs bs cs R ∧ HRs K (mo0 w) H H vs (bs.map Bd.read) ∧ HRs K (mo0 w) H H us (cs.map Bd.read) ∧
  ∀ v b H', Gr (mo0 w) H H' → hr K (mo0 w) H H' v b → R b → Q v H'
section
variable {P : Program} {w : World} {K : PySem.W.Frag} {mg : Str → Option Value} {base : Heap} {N ps fr : List Str} {F : NdefX.NF} {f : Addr} {k : Nat} {Fs : List Bd → List Bd → (Bd → Prop) → Prop}
theorem nok_by (S : NdefX.NScope N ps fr F.scope) (hpl : ps.length + fr.length ≤ N.length) (hb : ∀ (doc pm ctv : Value) (us : List Value), us.length = ps.length → bindArgs (F.fd doc pm ctv) ⟨us, []⟩ = pure (ps.zip us)) (len : ∀ bs cs R, Fs bs cs R → bs.length = ps.length ∧ cs.length = fr.length)
    (hbody : ∀ (A : Around) (outer : List Env) (s : Shared) (H : Hp) (E : XK) (bs cs : List Bd) (R : Bd → Prop), Room k (A.deeper (NdefX.envF F f s.heap.objs.size)) → Fs bs cs R →
      SQ (NdefX.ncx CX0 P w K mg base N F f A outer s H E).nox (mo0 w) (rho N ((bs ++ cs).map Bd.read)) F.body { nx := fun _ => R (.dat .none), rt := R }) :
    NdefX.NOk P w K mg base CX0 (k + 1) f F ps fr (PrN K w Fs) := by
  refine NdefX.nok_of S hb (fun ws vs H Q E h => ?_) fun A outer s H vs ws Q E hr _ _ _ h => ?_
  · obtain ⟨us, bs, cs, R, _, h1, h2, _⟩ := h
    rw [h2.len, List.length_map]
    exact (len bs cs R h1).1
  · obtain ⟨us, bs, cs, R, rfl, h1, h2, h3, h4⟩ := h
    obtain ⟨l1, l2⟩ := len bs cs R h1
    have v1 := h2.len
    have v2 := h3.len
    rw [List.length_map] at v1 v2
    refine ⟨_, PSs.nox (pss_sw _ F.body), ?_⟩
    have st := sst_start (K := K) (m := mo0 w) (H := H) (zs := vs ++ us) (ds := bs ++ cs) (k := N.length - (bs ++ cs).length) True.intro (fun a e => by cases e) (fun T e => by cases e) (by rw [List.map_append]; exact h2.app h3)
    have e1 : NdefX.startF N vs (us.map some) = (vs ++ us).map some ++ List.replicate (N.length - (bs ++ cs).length) none := by
      unfold NdefX.startF
      rw [List.map_append, List.append_assoc, List.length_map, List.length_append, v1, v2, Nat.sub_sub]
    have e2 : rho N ((bs ++ cs).map Bd.read) = ((bs ++ cs).map Bd.read).map some ++ List.replicate (N.length - (bs ++ cs).length) none := by
      unfold rho
      rw [List.length_map]
    rw [e1]
    have q := hbody A outer s H E bs cs R hr h1
    rw [e2] at q
    exact q _ H H H st _ ⟨fun ρ' σ' H' S' q => h4 .non (.dat .none) H' (S'.ent.trans S'.gr) .non q, fun v b H' g r q => h4 v b H' g r q, fun _ _ _ _ q => q.elim, fun _ _ _ _ q => q.elim⟩
end
section
variable {X : Cx} {m : Mo} {HE H0 H H1 H2 : Hp} {ρ : Ab} {σ : L2.St} {e : Expr} {es : List Expr} {p pos : Pos} {Fs : List Bd → List Bd → (Bd → Prop) → Prop}
/-- what the cells held when the running frame began they hold still -/
theorem cells_still {cl : List (Str × Addr)} {fr : List Str} {ws : List (Option V)} {pins : List (Addr × Obj)} {s : Shared} (C : NdefX.CellsAt cl fr ws X.s_0.heap X.H_0) (hx : X.ex = []) (I : Inv X pins σ H s) : NdefX.CellsAt cl fr ws s.heap H := by
  have no : ∀ c : Addr, c ∉ X.ex := fun c z => by rw [hx] at z; cases z
  have kp : ∀ y c, cl.lookup y = some c → ∀ v, X.s_0.heap.IsCell c v → s.heap.IsCell c v := fun y c e v ⟨o, ho, hd⟩ => by
    obtain ⟨sl, q⟩ := I.base.any ho (C.all y c e).1 (no c)
    exact ⟨_, q, hd⟩
  refine ⟨C.len, fun y c e => ?_, C.inj, fun i y e => ?_⟩
  · obtain ⟨n, v, z⟩ := C.all y c e
    refine ⟨?_, v, kp y c e v z⟩
    obtain ⟨o, ho, _⟩ := z
    exact I.base.free c o ho n (no c)
  · obtain ⟨c, hc, hv⟩ := C.has i y e
    refine ⟨c, hc, fun v ev => ?_⟩
    obtain ⟨u, r, z⟩ := hv v ev
    exact ⟨u, r, kp y c hc _ z⟩
/-- f(..), f a slot that holds a made function whose cells were filled before the running frame began -/
theorem eq_calln {mk : Addr → NdefX.NF} {cl : List (Str × Addr)} {ps fr : List Str} {k j i : Nat} {x : Str} {us : List V} {cs : List Bd} {Q : Bd → Prop} (Fn : ∀ f c, NdefX.NOk X.prog X.w X.K X.mg X.base CX0 k f (mk c) ps fr (PrN X.K X.w Fs)) (hcl : ∀ c, (mk c).cl = cl) (hr' : Room j X.A) (hk : k ≤ j) (hx : X.ex = [])
    (C : NdefX.CellsAt cl fr (us.map some) X.s_0.heap X.H_0) (hphi : ∀ HE, m.phi HE → HRs X.K (mo0 X.w) HE HE us (cs.map Bd.read)) (hw : m.wd = some X.w) (hi : ρ[i]? = some (some (.fn mk))) (hN : X.N[i]? = some x) (hv : Vis X.env.scope x)
    (ha : AQ X m ρ (e :: es) fun bs => noFeed bs ∧ ∃ bs' R, bs'.map Bd.read = bs.map Bd.read ∧ Fs bs' cs R ∧ ∀ b, R b → Q b) (hd : (x == ("__debug__" : Str)) = false := by decide) (hcd : (x == ("__classdict__" : Str)) = false := by decide)
    (he : starEach (e :: es) X.env = (false, eval e X.env) :: starEach es X.env := by rfl) (hpl : (backTo pos (starEach es X.env)).any (·.1) = false := by rfl) : EQ X m ρ (.Call (.Name x p) (e :: es) [] pos) Q := by
  intro σ H HE H0 S Qv kk pins s I
  obtain ⟨v, hσ, f, c, ev, hf, hc⟩ := S.slots i _ hi
  subst ev
  refine wpAny_Call_Name_kw (thn ((pe_var (pos := p) hN hv hd hcd).run pins s σ H (fun u H1 => u = .ref f ∧ H1 = H) I ⟨.ref f, hσ, rfl, rfl⟩) fun u s1 ⟨v, H1, I1, r1, e1, e2⟩ => ?_)
  subst e1
  subst e2
  obtain rfl : u = Value.ref f := r1
  refine PySem.W.callWith_F (first := []) (NdefX.fnAt_of I1 hf) (thn ((pa_aw X (e :: es)).run pos pins s1 σ H1 (fun vs H2 => ∃ bs, Gr m H1 H2 ∧ HRs X.K m H1 H2 vs bs ∧ noFeed bs ∧ ∃ bs' R, bs'.map Bd.read = bs.map Bd.read ∧ Fs bs' cs R ∧ ∀ b, R b → Q b) I1 (ha σ H1 HE H0 S _ fun vs bs H2 g r q => ⟨bs, g, r, q⟩)) fun us2 s2 ⟨vs, H2, I2, rv, bs, g, r, hn, bs', R, eb, hfs, hR⟩ => ⟨NdefX.fnAt_of I2 (g.tk S.fe1 _ _ hf .fno), ?_⟩) he hpl
  have S2 := S.go g
  have hf2 := g.tk S.fe1 _ _ hf .fno
  have hc2 := g.tk S.fe1 _ _ hc .code
  have rd : HRs X.K (mo0 X.w) H2 H2 vs (bs.map Bd.read) := r.read.mode hw.symm (.inr rfl) fun _ d hd z => by
    obtain ⟨b, hb, e⟩ := List.mem_map.mp hd
    rw [z] at e
    cases b with
    | feed => exact hn _ hb rfl
    | _ => cases e
  have gE : Gr m HE H2 := S2.ent.trans S2.gr
  have rc : HRs X.K (mo0 X.w) H2 H2 us (cs.map Bd.read) := by
    have q := hphi HE S.phi
    exact q.still (gE.tk S.fe) fun p xs z => gE.sql S.fe z
  have Cn : NdefX.CellsAt (mk c).cl fr (us.map some) s2.heap H2 := by rw [hcl]; exact cells_still C hx I2
  show wpAny _ _ (call (.ref f) us2) _ _ _
  refine wpAny_call (codeAny_mono ((Fn f c).run X.A X.stack s2 H2 us2 vs (us.map some) Qv E0 (hr'.mono hk) I2.env0 hf2 hc2 Cn rv ⟨us, bs', cs, R, rfl, hfs, by rw [eb]; exact rd, rc, fun v b H' g' r' q => kk v b H' (g.trans (g'.into S2.fe1 (.inl rfl) (.inl rfl))) (hr_back (hr_mode hw (.inl rfl) r') g) (hR b q)⟩) fun z s3 hz => ?_)
  cases z with
  | error e => exact hz.elim
  | ok fl =>
    cases fl with
    | ret u => exact I2.after hz
    | next => exact False.elim hz
    | brk => exact False.elim hz
    | cont => exact False.elim hz
/-- x(..), its body walked from the very state of the call -/
theorem eq_callS {x : Str} {j k : Nat} {N ps : List Str} {fd : FuncData} {Q : Bd → Prop} (F : FunD X.K x x (defArgs (topS j)) (defBody (topS j)) (defScope (topS j)) [] [] (He.ga X.K x) fd) (Sg : FnScope N ps (defScope (topS j))) (hm : X.mg x = some (.ref (He.ga X.K x)))
    (bnd : ∀ (kV doc pm : Value) (an : Option Addr) (cdv ct : Value) (us : List Value), us.length = ps.length → bindArgs (PySem.W.fnOf x x (defArgs (topS j)) (defBody (topS j)) (defScope (topS j)) .none kV doc pm an cdv ct) ⟨us, []⟩ = pure (ps.zip us)) (hr' : Room (k + 1) X.A) (hg : Gl X x)
    (ha : AQ X m ρ (e :: es) fun bs => bs.length = ps.length ∧ ∀ (pins : List (Addr × Obj)) (s : Shared) (σ : L2.St) (H HE H0 : Hp) (vs : List V) (cdv : Value), Inv X pins σ H s → SSt X.K m HE H0 ρ σ H → HRs X.K m H H vs (bs.map Bd.read) → Room k (cxB X.prog X.w X.K X.mg X.base N x j (He.ga X.K x) cdv X.A X.stack s H E0).A →
      ∃ φ : Hp → Prop, φ H ∧ SQ (cxB X.prog X.w X.K X.mg X.base N x j (He.ga X.K x) cdv X.A X.stack s H E0) { m with phi := φ } (rho N (bs.map Bd.read)) (defBody (topS j)) { nx := fun _ => Q (.dat .none), rt := Q })
    (hdb : (x == ("__debug__" : Str)) = false := by decide) (he : starEach (e :: es) X.env = (false, eval e X.env) :: starEach es X.env := by rfl) (hpl : (backTo pos (starEach es X.env)).any (·.1) = false := by rfl) : EQ X m ρ (.Call (.Name x p) (e :: es) [] pos) Q := by
  intro σ H HE H0 S Qv kk pins s I
  have hk := F.kp
  have hB := F.bindsN bnd
  obtain ⟨oc, od, dV, kV, doc, pm, an, cdv, ct, osl, rfl, lk, hcd, _, _⟩ := F.ex
  refine wpAny_Call_Name_kw (ld_glob I hg hm ?_ hdb)
  refine PySem.W.callWith_K (h₀ := X.base) I.ok.mod.kin hk (thn ((pa_aw X (e :: es)).run pos pins s σ H _ I (ha σ H HE H0 S (fun vs H2 => ∃ bs, Gr m H H2 ∧ HRs X.K m H H2 vs bs ∧ bs.length = ps.length ∧ _) fun vs bs H2 g r q => ⟨bs, g, r, q⟩)) fun us s1 ⟨vs, H1, I1, rv, bs, g, r, hbl, q⟩ => ⟨I1.kIn, ?_⟩) he hpl
  have S1 := S.go g
  have hvl : vs.length = ps.length := by rw [r.len, hbl]
  have hus : us.length = ps.length := by rw [← rv.length, hvl]
  have rc : codeAny (model X.prog X.w) X.A (.call (.ref (He.ga X.K x)) ⟨us, []⟩) (CR CX0 X.stack X.prog X.w H1 s1 Qv E0) s1 := by
    refine LamX.run_ofS lk hcd Sg hr' I1.env0 ?_ rv hvl fun hr2 => ?_
    · have z := hB s1 us I1.kIn (by rw [List.append_nil]; exact hus)
      rw [List.append_nil] at z
      exact z
    · obtain ⟨φ, hφ, hq⟩ := q pins s1 σ H1 HE H0 vs cdv I1 S1 r.read hr2
      refine ⟨_, PSs.nox (pss_sw _ _), ?_⟩
      have st := sst_start (K := X.K) (m := { m with phi := φ }) (H := H1) (zs := vs) (ds := bs) (k := N.length - bs.length) hφ (fun a e => S1.fe1 a e) (fun T e => S1.tabs T e) (HRs.mode (m := m) (m' := { m with phi := φ }) rfl (.inl rfl) r.read fun z c hc e => by
        obtain ⟨i, hi, ei⟩ := List.getElem_of_mem hc
        obtain ⟨v, _, hv⟩ := r.read.at (List.getElem?_eq_getElem hi)
        rw [ei, e] at hv
        obtain ⟨a, e1, _⟩ := hv
        have z : m.fa = none := z
        rw [z] at e1
        cases e1)
      have e1 : L2.start N vs = vs.map some ++ List.replicate (N.length - bs.length) none := by
        unfold L2.start
        rw [hvl, ← hbl]
      have e2 : rho N (bs.map Bd.read) = (bs.map Bd.read).map some ++ List.replicate (N.length - bs.length) none := by
        unfold rho
        rw [List.length_map]
      rw [e1]
      rw [e2] at hq
      have up : ∀ {H' : Hp}, Gr { m with phi := φ } H1 H' → Gr m H1 H' := fun g' => ⟨g'.keep, g'.tabs, g'.free, g'.feed⟩
      have fin : ∀ (v : V) (b : Bd) (H' : Hp), Gr { m with phi := φ } H1 H' → hr X.K { m with phi := φ } H1 H' v b → Q b → Qv v H' := fun v b H' g' r' q' => kk v b H' (g.trans (up g')) (hr_back (hr_mode (m := { m with phi := φ }) (m' := m) rfl (.inr rfl) r') g) q'
      exact hq _ H1 H1 H1 st _ ⟨fun ρ' σ' H' S' q' => fin .non (.dat .none) H' (S'.ent.trans S'.gr) .non q', fun v b H' g' r' q' => fin v b H' g' r' q', fun _ _ _ _ q' => q'.elim, fun _ _ _ _ q' => q'.elim⟩
  refine wpAny_call (codeAny_mono rc fun z s2 hz => ?_)
  cases z with
  | error e => exact hz.elim
  | ok fl =>
    cases fl with
    | ret u => exact I1.after hz
    | next => exact False.elim hz
    | brk => exact False.elim hz
    | cont => exact False.elim hz
end
end W97
end
section
set_option Elab.async false
set_option linter.all false
set_option maxRecDepth 100000
set_option maxHeartbeats 2000000
namespace W97
open PySem PySem.Spec PyProof.Rows L2 PyEnc
section
variable {X : Cx} {m : Mo} {HE H0 H H1 : Hp} {ρ ρ' : Ab} {σ : L2.St} {e tg : Expr} {es : List Expr} {pos p : Pos} {E : AE}
/-- target = xs.pop(0), xs an own list -/
theorem s1_pop0 {i j : Nat} {x : Str} {px p0 apos cpos : Pos} {d : PyData} {ds : List PyData} {is : List Nat} (hi : ρ[i]? = some (some (.lst .own (d :: ds)))) (hN : X.N[i]? = some x) (hv : Vis X.env.scope x) (ht : TGD X tg is d (ρ.set i (some (.lst .own ds))) ρ') (q : E.nx ρ')
    (hd : (x == ("__debug__" : Str)) = false := by decide) (hcd : (x == ("__classdict__" : Str)) = false := by decide)
    (bs : attributeBase (.Name x px) "pop" X.env (eval (.Name x px) X.env) = eval (.Name x px) X.env := by rfl)
    (few : ((backTo cpos (starEach [.Constant (.int 0) j p0] X.env)).all (fun x => !x.1) && (backToKw cpos (keywordEach [] X.env)).all (fun x => x.1.isSome) && decide (1 + ([] : List Keyword).length + (if ([] : List Keyword).isEmpty then 0 else 1) < 30)) = true := by rfl)
    (ln : (apos.endLine == cpos.line) = true := by rfl) (hs : starEach [.Constant (.int 0) j p0] X.env = (false, eval (.Constant (.int 0) j p0) X.env) :: starEach [] X.env := by rfl) (np : (backTo cpos (starEach [] X.env)).any (·.1) = false := by rfl)
    (sw : swapsWithSole [tg] (.Call (.Attribute (.Name x px) "pop" apos) [.Constant (.int 0) j p0] [] cpos) pos.line X.env = pure false := by rfl) (sn : swappedStores [tg] (.Call (.Attribute (.Name x px) "pop" apos) [.Constant (.int 0) j p0] [] cpos) X.env = pure none := by rfl)
    (h1 : (assignEach [tg] X.env).map (·.2) = [assign tg X.env] := by rfl) :
    S1 X m ρ (.Assign [tg] (.Call (.Attribute (.Name x px) "pop" apos) [.Constant (.int 0) j p0] [] cpos) pos) E := by
  intro σ H HE H0 S D dd
  refine s1_of (ps_asg (pe_bm PySem.F.plainAttrs_list PySem.F.slot_list_pop PySem.F.type_list_pop mt_popAt (pe_var hN hv hd hcd) (pa_cons pe_int pa_nil hs) bs few ln hs np) (pg_gw X tg) sw sn h1) ?_
  obtain ⟨v, hσ, l, vs, ev, hl, dv, h0⟩ := S.slots i _ hi
  subst ev
  cases dv with
  | @cons y vs _ _ d1 d2 =>
    refine ⟨_, hσ, .inl ⟨rfl, _, .of hl⟩, l, y :: vs, 0, 0, y, rfl, rfl, hl, by decide, by decide, ?_, rfl, ?_⟩
    · show seqIndex? ((0 : Nat) : Int) (y :: vs).length = some 0
      refine (ixN_seq (n := (y :: vs).length) (i := ((0 : Nat) : Int)) ?_).1
      unfold ixN
      simp
    · have S2 := S.mut hi hσ rfl hl h0 d2
      exact ht m HE H0 σ _ S2 y (DV.keep (tk_lst hl) d1) _ fun σ' S' _ => dd.nx _ _ _ S' q
end
/-- the module's names and the tables of the two defs that make functions -/
structure EnT (K : PySem.W.Frag) (mg : Str → Option Value) (base : Heap) : Prop where
  en : En K mg
  tp : LamX.TabB base mg (He.cT K dPlain).1 (He.cT K dPlain).2
  tl : LamX.TabB base mg (He.cT K dLet).1 (He.cT K dLet).2
  ne : (He.cT K dPlain).2 ≠ (He.cT K dLet).2
section
variable {P : Program} {w : World} {K : PySem.W.Frag} {mg : Str → Option Value} {base : Heap} {tb : Option (List NdefX.NTab)} {fed : Bool} {Fs : List Bd → (Bd → Prop) → Prop}
/-- a def with no defaults; where its code stands is told -/
theorem mkFnC (En : En K mg) (i : Nat) {x : Str} {j k : Nat} {N ps : List Str} (S : FnScope N ps (defScope (topS j))) (hps : ps.length ≤ N.length) (len : ∀ bs R, Fs bs R → bs.length = ps.length)
    (bnd : ∀ (kV doc pm : Value) (an : Option Addr) (cdv ct : Value) (us : List Value), us.length = ps.length → bindArgs (PySem.W.fnOf x x (defArgs (topS j)) (defBody (topS j)) (defScope (topS j)) .none kV doc pm an cdv ct) ⟨us, []⟩ = pure (ps.zip us))
    (hb : ∀ (f : Addr) (cdv : Value) (A : Around) (outer : List Env) (s : Shared) (H : Hp) (E : XK) (fa : Option Addr) (ca : Addr) (bs : List Bd) (R : Bd → Prop), cdv = .ref (He.cT K (x, none)).1 → Room k (cxB P w K mg base N x j f cdv A outer s H E).A → (fed = false → fa = none) → Fs bs R →
      SQ (cxB P w K mg base N x j f cdv A outer s H E) { tb := tb, fa := fa, ca := ca, wd := some w } (rho N (bs.map Bd.read)) (defBody (topS j)) { nx := fun _ => R (.dat .none), rt := R })
    (h : fn[i]? = some (dAt x j [] []) := by rfl) (h2 : fa[i]? = some (.glo x) := by rfl) : Fn P w K mg base x (k + 1) ps tb fed Fs := by
  obtain ⟨fd, F⟩ := En.def i h
  have hg := En.glo i h2
  have hB := F.bindsN bnd
  have hkp := F.kp
  obtain ⟨oc, od, dV, kV, doc, pm, an, cdv, ct, osl, rfl, lk, hcd, _, _⟩ := F.ex
  obtain ⟨c, rfl⟩ := He.codeIn_ref hcd
  have ec : He.codeOf K (x, none) = c := He.codeOf_eq (p := (x, none)) lk rfl
  refine ⟨_, _, fn_of lk hcd S (fun vs H Q E h => ?_) fun A outer s H vs Q E hr' h => ?_, hg, hkp, hB⟩
  · obtain ⟨fa, ca, bs, R, _, _, _, h1, h2, _⟩ := h
    rw [h2.len, List.length_map]
    exact len bs R h1
  · obtain ⟨fa, ca, bs, R, h1, h2, h3, h4, h5, h6⟩ := h
    refine ⟨_, PSs.nox (pss_sw _ _), ?_⟩
    have hlen := len bs R h4
    have hvl : vs.length = bs.length := by rw [h5.len, List.length_map]
    have st := sst_start (K := K) (m := { tb := tb, fa := fa, ca := ca, wd := some w }) (H := H) (zs := vs) (ds := bs) (k := N.length - bs.length) True.intro h2 h3 h5
    have e1 : L2.start N vs = vs.map some ++ List.replicate (N.length - bs.length) none := by
      unfold L2.start
      rw [hvl]
    have e2 : rho N (bs.map Bd.read) = (bs.map Bd.read).map some ++ List.replicate (N.length - bs.length) none := by
      unfold rho
      rw [List.length_map]
    have q := hb _ (.ref c) A outer s H E fa ca bs R (by rw [show (He.cT K (x, none)).1 = c from ec]) hr' h1 h4
    rw [e1]
    rw [e2] at q
    exact q _ H H H st _ ⟨fun ρ' σ' H' S' q => h6 .non (.dat .none) H' (S'.ent.trans S'.gr) .non q, fun v b H' g r q => h6 v b H' g r q, fun _ _ _ _ q => q.elim, fun _ _ _ _ q => q.elim⟩
end
end W97
end
section
set_option Elab.async false
set_option linter.all false
set_option maxRecDepth 100000
set_option maxHeartbeats 4000000
namespace W97
open PySem PySem.Spec PyProof.Rows L2 PyEnc
/-! ### the program's search -/
def FsStep (one : Mc) (wd : Nat) : List Bd → List Bd → (Bd → Prop) → Prop := fun bs cs R => ∃ (S : List Nat) (x : Nat), (∀ s ∈ S, s < one.length) ∧ x < wd ∧ S.length < 64 ∧ bs = [.dat (enc S), .dat (enc x)] ∧ cs = [.dat (enc one)] ∧ R = (· = .dat (enc (nextsBy one S x)))
def FsEnd (one other : Mc) : List Bd → List Bd → (Bd → Prop) → Prop := fun bs cs R => ∃ S : List Nat, S.length < 64 ∧ bs = [.dat (enc S)] ∧ cs = [.lst .par ((good one other).map enc)] ∧ R = (· = .dat (.bool (allGood one other S)))
def rowD : Option Row → PyData
  | none => .none
  | some r => enc r
/-- what is kept of the states that were seen -/
def qD (L : List (Row × List Nat)) : List (PyData × PyData) := L.map fun p => (enc p.2, .bool true)
theorem qD_in {L : List (Row × List Nat)} {S : List Nat} : memB (L.map (·.2)) S = true ↔ enc S ∈ (qD L).map (·.1) := by
  unfold qD
  rw [memB_iff, List.map_map, List.mem_map, List.mem_map]
  exact ⟨fun ⟨p, h, e⟩ => ⟨p, h, by rw [← e]; rfl⟩, fun ⟨p, h, e⟩ => ⟨p, h, enc_inj e⟩⟩
theorem qD_tup (L : List (Row × List Nat)) : TupKeys (qD L) := fun kv h => by
  obtain ⟨p, _, rfl⟩ := List.mem_map.mp h
  exact ⟨_, rfl⟩
theorem qD_snoc (L : List (Row × List Nat)) (p : Row × List Nat) : qD L ++ [(enc p.2, .bool true)] = qD (L ++ [p]) := by
  unfold qD
  rw [List.map_append]; rfl
theorem runS_set {one : Mc} {wd : Nat} (k : Ok one wd) {r : Row} (hr : Let wd r) : (∀ s ∈ runS one (List.range one.length) r, s < one.length) ∧ (runS one (List.range one.length) r).length ≤ one.length := by
  have lt : ∀ s ∈ runS one (List.range one.length) r, s < one.length := fun t ht => by
    obtain ⟨s, hs, rfl⟩ := mem_runS.mp ht
    exact k.runlt (List.mem_range.mp hs) hr
  refine ⟨lt, up_few ?_ lt⟩
  induction r using snoc_ind with
  | h0 => exact up_range _
  | hs r x _ => rw [runS_app]; exact up_asSet _
theorem fold_len {one : Mc} {r : Row} {S : List Nat} : ∀ (xs : List Nat) (L : List (Row × List Nat)), (xs.foldl (put1 (nextsBy one) r S) L).length ≤ L.length + xs.length
  | [], _ => Nat.le_refl _
  | x :: xs, L => by
    rw [List.foldl_cons, List.length_cons]
    have z := fold_len (one := one) (r := r) (S := S) xs (put1 (nextsBy one) r S L x)
    have z2 : (put1 (nextsBy one) r S L x).length ≤ L.length + 1 := by
      unfold put1
      split
      · exact Nat.le_succ _
      · rw [List.length_append]; exact Nat.le_refl _
    omega
theorem fold_drop {one : Mc} {r : Row} {S : List Nat} {L : List (Row × List Nat)} (xs : List Nat) : ∃ M, xs.foldl (put1 (nextsBy one) r S) L = L ++ M := (grow_spec xs L).imp fun M h => h.1
theorem bfs_at {α : Type} [DecidableEq α] {w : Nat} {step : α → Nat → α} {fin : α → Bool} {f k : Nat} {L : List (Row × α)} {r : Row} {s : α} (h : L[k]? = some (r, s)) : bfs w step fin (f + 1) L k = if fin s then some r else bfs w step fin f (grow w step r s L) (k + 1) := by
  show (match L[k]? with | none => none | some (r, s) => if fin s then some r else bfs w step fin f (grow w step r s L) (k + 1)) = _
  rw [h]
section
variable {P : Program} {w : World} {K : PySem.W.Frag} {mg : Str → Option Value} {base : Heap}
theorem sc_first_row_by : FnScope ["many", "begin", "step_to", "is_end", "seen", "waiting", "letters", "here", "letter", "late"] ["many", "begin", "step_to", "is_end"] (defScope (topS 12)) := ⟨rfl, rfl, rfl, by decide +kernel, rfl, by decide +kernel, by decide +kernel⟩
theorem body_first_row (E : En K mg) {f : Addr} {cdv : Value} {A : Around} {outer : List Env} {s : Shared} {H : Hp} {X : XK} {m : Mo} {j k1 k2 : Nat} {one other : Mc} {wd : Nat} {mk1 mk2 : Addr → NdefX.NF} {cl1 cl2 : List (Str × Addr)} {us1 us2 : List V} (T : P5 one other wd) (hw : m.wd = some w)
    (hr : Room j (cxB P w K mg base ["many", "begin", "step_to", "is_end", "seen", "waiting", "letters", "here", "letter", "late"] "first_row_by" 12 f cdv A outer s H X).A) (hk1 : k1 ≤ j) (hk2 : k2 ≤ j)
    (F1 : ∀ f c, NdefX.NOk P w K mg base CX0 k1 f (mk1 c) ["standings", "letter"] ["one"] (PrN K w (FsStep one wd))) (e1 : ∀ c, (mk1 c).cl = cl1) (C1 : NdefX.CellsAt cl1 ["one"] (us1.map some) s.heap H) (p1 : ∀ HE, m.phi HE → HRs K (mo0 w) HE HE us1 (([.dat (enc one)] : List Bd).map Bd.read))
    (F2 : ∀ f c, NdefX.NOk P w K mg base CX0 k2 f (mk2 c) ["standings"] ["known"] (PrN K w (FsEnd one other))) (e2 : ∀ c, (mk2 c).cl = cl2) (C2 : NdefX.CellsAt cl2 ["known"] (us2.map some) s.heap H) (p2 : ∀ HE, m.phi HE → HRs K (mo0 w) HE HE us2 (([.lst .par ((good one other).map enc)] : List Bd).map Bd.read)) :
    SQ (cxB P w K mg base ["many", "begin", "step_to", "is_end", "seen", "waiting", "letters", "here", "letter", "late"] "first_row_by" 12 f cdv A outer s H X) m [some (.dat (enc wd)), some (.dat (enc (List.range one.length))), some (.fn mk1), some (.fn mk2), none, none, none, none, none, none] (defBody (topS 12))
      { nx := fun _ => False, rt := (· = .dat (rowD (due wd one other))) } := by
  have l1 := T.l1
  have lw := T.lw
  have k := T.k1
  have one1 : (1 : Nat) ≤ sizeLine := by rw [sizeLine_eq]; decide
  have bd : ∀ {L : List (Row × List Nat)} {i : Nat}, Good wd (nextsBy one) (List.range one.length) L i → L.length ≤ 32 := fun {L i} G => queue_bd k l1 L G.nodup fun p hp => ⟨p.1, G.path p hp⟩
  refine sq_cons (s1_par (i := 4) (j := 5) rfl sc_first_row_by.nd rfl rfl (by decide) rfl rfl ((eq_disp1 (d := enc (List.range one.length)) (dv := .bool true) hr hw (tkey_nats _) (v 1) ed_bl).mono fun b e => ⟨by rw [e]; exact True.intro, ?_⟩))
  subst e
  refine (el_lst (ds := [enc (([], List.range one.length) : Row × List Nat)]) (ad_cons (prE (x := ([] : Row)) (y := List.range one.length) (ed_tup ad_nil (Nat.zero_le _)) (v 1)) ad_nil) one1).mono fun b e => ⟨by rw [e]; exact True.intro, ?_⟩
  subst e
  refine sq_cons (s1_while PassesOwn.never (fun n ρ' => ∃ (L : List (Row × List Nat)) (k f : Nat), n = 40 - k ∧ f + k = 200 ∧ k ≤ L.length ∧ bfs wd (nextsBy one) (allGood one other) f L k = due wd one other ∧ Good wd (nextsBy one) (List.range one.length) L k ∧ (∀ p ∈ L, p.1.length ≤ k) ∧
    ρ' = [some (.dat (enc wd)), some (.dat (enc (List.range one.length))), some (.fn mk1), some (.fn mk2), some (.dct .own (qD L)), some (.lst .own ((L.drop k).map enc)), none, none, none, none]) ⟨40, [([], List.range one.length)], 0, 200, rfl, rfl, Nat.zero_le _, rfl, Good.start _, (fun p hp => by rw [List.mem_singleton.mp hp]; exact Nat.le_refl _), rfl⟩ ?_)
  rintro n ρ' ⟨L, q, f, rfl, hf, hq, hgo, G, hrow, rfl⟩
  have hL := bd G
  refine ⟨_, td_gtE (i := (L.drop q).length) (j := 0) (lenL (l := L.drop q) rfl E.len_ (vl 5)) ed_int, fun hc => ?_, fun hc => ?_⟩
  · have hql : q < L.length := by
      have z := of_decide_eq_true hc
      rw [List.length_drop] at z
      omega
    obtain ⟨f, rfl⟩ : ∃ f', f = f' + 1 := ⟨f - 1, by omega⟩
    obtain ⟨⟨r, S⟩, hrs⟩ : ∃ p, L[q]? = some p := ⟨_, List.getElem?_eq_getElem hql⟩
    rw [bfs_at hrs] at hgo
    obtain ⟨hlr, hS⟩ := G.path _ (List.mem_of_getElem? hrs)
    have hS : S = runS one (List.range one.length) r := by rw [← stepR_runS]; exact hS
    obtain ⟨hSlt, hSl⟩ := runS_set k hlr
    rw [← hS] at hSlt hSl
    have hdrop : L.drop q = (r, S) :: L.drop (q + 1) := by
      rw [List.drop_eq_getElem_cons hql]
      congr 1
      rw [List.getElem?_eq_getElem hql] at hrs
      exact Option.some.inj hrs
    have hrl : r.length ≤ q := hrow _ (List.mem_of_getElem? hrs)
    rw [hdrop]
    refine sq_cons (s1_pop0 (i := 5) (d := enc (r, S)) (ds := (L.drop (q + 1)).map enc) rfl rfl (.inl rfl) (t2 6 7 rfl sc_first_row_by.nd) ?_)
    refine sq_cons (s1_if (k := allGood one other S) (td_val (eq_calln (i := 3) (cs := [.lst .par ((good one other).map enc)]) F2 e2 hr hk2 rfl C2 p2 hw rfl rfl (.inl rfl) (aq_dat (v 7) (aq_nil ⟨fun b hb => ?_, [.dat (enc S)], _, rfl, ⟨S, by omega, rfl, rfl, rfl⟩, fun b h => h⟩)))) (fun hc2 => ?_) fun hc2 => ?_)
    · rw [List.mem_singleton.mp hb]; exact fun z => by cases z
    · rw [hc2, if_pos rfl] at hgo
      rw [← hgo]
      exact sq_cons (s1_retD (v 6) rfl)
    rw [hc2, if_neg Bool.false_ne_true] at hgo
    obtain ⟨G', M', eM⟩ := G.next hrs
    refine sq_nil (sq_cons (s1_for PassesOwn.never rfl (itl_rg1 (n := wd) rfl E.range_ (v 0) (by omega)) (fun i ρ' => ρ' = [some (.dat (enc wd)), some (.dat (enc (List.range one.length))), some (.fn mk1), some (.fn mk2), some (.dct .own (qD ((List.range i).foldl (put1 (nextsBy one) r S) L))), some (.lst .own ((((List.range i).foldl (put1 (nextsBy one) r S) L).drop (q + 1)).map enc)), some (.dat (enc r)), some (.dat (enc S)), none, none]) rfl ?_ ?_ ?_))
    · rintro ρ' rfl; rfl
    · rintro i d ρ' hd rfl
      obtain ⟨x, hx, rfl⟩ := take_map hd
      obtain ⟨hxl, hxi⟩ := List.getElem?_eq_some_iff.mp hx
      rw [List.getElem_range] at hxi
      rw [List.length_range] at hxl
      subst hxi
      have hLi := fold_len (one := one) (r := r) (S := S) (List.range i) L
      rw [List.length_range] at hLi
      obtain ⟨Mi, eMi⟩ := fold_drop (one := one) (r := r) (S := S) (L := L) (List.range i)
      have hnext : (List.range (i + 1)).foldl (put1 (nextsBy one) r S) L = put1 (nextsBy one) r S ((List.range i).foldl (put1 (nextsBy one) r S) L) i := by
        rw [List.range_succ, List.foldl_append]; rfl
      have hge : q + 1 ≤ ((List.range i).foldl (put1 (nextsBy one) r S) L).length := by rw [eMi, List.length_append]; omega
      generalize (List.range i).foldl (put1 (nextsBy one) r S) L = Li at hLi hnext hge
      refine ⟨[8], _, t1 8 sc_first_row_by.nd, sq_cons (s1_setD (i := 9) (d := enc (nextsBy one S i)) sc_first_row_by.nd rfl (.inl rfl) (eq_calln (i := 2) (cs := [.dat (enc one)]) F1 e1 hr hk1 rfl C1 p1 hw rfl rfl (.inl rfl) (aq_dat (v 7) (aq_dat (v 8) (aq_nil ⟨fun b hb => ?_, [.dat (enc S), .dat (enc i)], _, rfl, ⟨S, i, hSlt, hxl, by omega, rfl, rfl, rfl⟩, fun b h => h⟩)))) ?_)⟩
      · rcases List.mem_cons.mp hb with e | hb
        · rw [e]; exact fun z => by cases z
        rw [List.mem_singleton.mp hb]; exact fun z => by cases z
      refine sq_cons (s1_if (td_dnin (i := 4) (lk := .own) (c := memB (Li.map (·.2)) (nextsBy one S i)) hr hw (by intro z; cases z) rfl rfl (.inl rfl) (qD_tup _) (tkey_nats _) (v 9) qD_in) (fun hc3 => ?_) fun hc3 => ?_)
      · have hn : nextsBy one S i ∉ Li.map (·.2) := fun h => by rw [memB_iff.mpr h] at hc3; cases hc3
        have e3 : put1 (nextsBy one) r S Li i = Li ++ [(r ++ [i], nextsBy one S i)] := by
          unfold put1
          rw [if_neg hn]
        refine sq_cons (s1_dput (i := 4) (kvs := qD Li) (d := enc (nextsBy one S i)) (dv := .bool true) hr hw rfl rfl (.inl rfl) (qD_tup _) (tkey_nats _) ed_bl (v 9) (fun h => hn (memB_iff.mp (qD_in.2 h))) (by unfold qD; rw [List.length_map]; omega) ?_)
        have hcat : enc (r ++ [i]) = .tuple (r.map enc ++ [enc i]) := by
          show PyData.tuple ((r ++ [i]).map enc) = _
          rw [List.map_append]; rfl
        refine sq_cons (s1_append (i := 5) rfl rfl (.inl rfl) (EQ.mono (Q := (· = .dat (enc ((r ++ [i], nextsBy one S i) : Row × List Nat)))) (prE (x := r ++ [i]) (y := nextsBy one S i) ?_ (v 9)) fun b eb => ⟨_, eb, sq_nil (sq_nilF [8, 9] ?_)⟩) ?_)
        · rw [hcat]
          exact ed_tup (ad_star (EQ.items (ds := r.map enc) (v 6)) (ad_cons (v 8) ad_nil)) (by rw [List.length_append, List.length_map, sizeLine_eq]; show r.length + 1 ≤ _; omega)
        · show _ = _
          rw [hnext, e3, ← qD_snoc, List.drop_append_of_le_length hge, List.map_append]; rfl
        · rw [List.length_map, List.length_drop, sizeLine_eq]; omega
      · have hm : nextsBy one S i ∈ Li.map (·.2) := memB_iff.mp (by simpa using hc3)
        have e3 : put1 (nextsBy one) r S Li i = Li := by
          unfold put1
          rw [if_pos hm]
        refine sq_nil (sq_nilF [8, 9] ?_)
        show _ = _
        rw [hnext, e3]; rfl
    · rintro ρ' rfl
      refine sq_nilF [6, 7] ⟨40 - (q + 1), by omega, grow wd (nextsBy one) r S L, q + 1, f, rfl, by omega, ?_, hgo, G', fun p hp => ?_, ?_⟩
      · rw [eM, List.length_append]; omega
      · obtain ⟨M2, eM2, g1, _⟩ := grow_spec (step := nextsBy one) (r := r) (s := S) (List.range wd) L
        have hp : p ∈ (List.range wd).foldl (put1 (nextsBy one) r S) L := hp
        rw [eM2] at hp
        rcases List.mem_append.mp hp with h | h
        · exact Nat.le_succ_of_le (hrow p h)
        · obtain ⟨x, _, rfl⟩ := g1 p h
          rw [List.length_append]
          exact Nat.succ_le_succ hrl
      · rw [List.length_map, List.length_range]; rfl
  · have hql : L.length ≤ q := by
      have z := of_decide_eq_false hc
      rw [List.length_drop] at z
      omega
    have e : due wd one other = none := by
      rw [← hgo]
      cases f with
      | zero => rfl
      | succ f =>
        unfold bfs
        rw [List.getElem?_eq_none_iff.mpr hql]
    rw [e]
    exact sq_cons (s1_retD ed_non rfl)
end
end W97
end
section
set_option Elab.async false
set_option linter.all false
set_option maxRecDepth 100000
set_option maxHeartbeats 4000000
namespace W97
open PySem PySem.Spec PyProof.Rows L2 PyEnc
def stStep : Stmt := (defBody (topS 17)).getD 1 (.Pass ⟨0, 0, 0, 0⟩)
def stEnd : Stmt := (defBody (topS 17)).getD 2 (.Pass ⟨0, 0, 0, 0⟩)
def posOf : Stmt → Pos
  | .FunctionDef (pos := p) .. => p
  | _ => ⟨0, 0, 0, 0⟩
/-- the names of the code objects in the two tables, by place -/
def nmP : Nat → Nat → Str := fun l _ => bif l == (posOf stStep).line then "plain_by" ++ ".<locals>." ++ "step_to" else "plain_by" ++ ".<locals>." ++ "is_end"
def nmL : Nat → Nat → Str := fun _ _ => "_law_is_let" ++ ".<locals>." ++ "<lambda>"
def TT (K : PySem.W.Frag) : List NdefX.NTab := [((He.cT K dPlain).2, nmP), ((He.cT K dLet).2, nmL)]
section
variable {P : Program} {w : World} {K : PySem.W.Frag} {mg : Str → Option Value} {base : Heap}
theorem EnT.huP (E : EnT K mg base) : ∀ p ∈ TT K, p.1 = (He.cT K dPlain).2 → p.2 = nmP := fun p hp e => by
  rcases List.mem_cons.mp hp with rfl | hp
  · rfl
  · rw [List.mem_singleton.mp hp] at e
    exact absurd e.symm E.ne
theorem EnT.huL (E : EnT K mg base) : ∀ p ∈ TT K, p.1 = (He.cT K dLet).2 → p.2 = nmL := fun p hp e => by
  rcases List.mem_cons.mp hp with rfl | hp
  · exact absurd e E.ne
  · rw [List.mem_singleton.mp hp]
theorem sc_step : NdefX.NScope ["standings", "letter", "one"] ["standings", "letter"] ["one"] (C8.fnScope stStep) := NdefX.nscope_by (by decide +kernel)
theorem sc_end : NdefX.NScope ["standings", "known", "standing"] ["standings"] ["known"] (C8.fnScope stEnd) := NdefX.nscope_by (by decide +kernel)
theorem nok_step (E : En K mg) {qual : Str} {cl : List (Str × Addr)} {one : Mc} {wd : Nat} (k : Ok one wd) (f c : Addr) : NdefX.NOk P w K mg base CX0 3 f (NdefX.NF.of stStep "step_to" qual cl c) ["standings", "letter"] ["one"] (PrN K w (FsStep one wd)) := by
  refine nok_by (F := NdefX.NF.of stStep "step_to" qual cl c) sc_step (by decide) (fun _ _ _ us hl => match us, hl with | [_, _], _ => rfl) (fun bs cs R h => by obtain ⟨_, _, _, _, _, rfl, rfl, _⟩ := h; exact ⟨rfl, rfl⟩) fun A outer s H X bs cs R hr h => ?_
  obtain ⟨S, x, hS, hx, hl, rfl, rfl, rfl⟩ := h
  exact sq_cons (s1_retD (ed_call (f_nexts_by E) hr rfl rfl (ad_cons (v 2) (ad_cons (v 0) (ad_cons (v 1) ad_nil))) ⟨one, wd, x, S, k, hS, hx, hl, rfl, rfl⟩) rfl)
theorem nok_end (E : En K mg) {qual : Str} {cl : List (Str × Addr)} {one other : Mc} (f c : Addr) : NdefX.NOk P w K mg base CX0 1 f (NdefX.NF.of stEnd "is_end" qual cl c) ["standings"] ["known"] (PrN K w (FsEnd one other)) := by
  refine nok_by (F := NdefX.NF.of stEnd "is_end" qual cl c) sc_end (by decide) (fun _ _ _ us hl => match us, hl with | [_], _ => rfl) (fun bs cs R h => by obtain ⟨_, _, rfl, rfl, _⟩ := h; exact ⟨rfl, rfl⟩) fun A outer s H X bs cs R hr h => ?_
  obtain ⟨S, hl, rfl, rfl, rfl⟩ := h
  have e : allGood one other S = (S.map fun s => decide (s ∈ good one other)).all id := by
    unfold allGood
    rw [List.all_map]; rfl
  rw [e]
  refine sq_cons (s1_retD (ed_all (o := .own) (bl := S.map fun s => decide (s ∈ good one other)) rfl rfl E.all_ ?_) rfl)
  exact el_mapE (l := S) (g := fun s => decide (s ∈ good one other)) [("standing", 2)] rfl sc_end.nd (itc_tup (v 0)) (blkOk_by (by kernel_rfl)) (by omega) fun s hs =>
    ⟨[2], _, by decide, fun _ _ _ _ _ => t1 2 sc_end.nd, fun _ _ _ _ _ => inLE hr (v 2) (vl 1)⟩
def FplainBy : List Bd → (Bd → Prop) → Prop := fun bs R => ∃ (one other : Mc) (wd : Nat), P5 one other wd ∧ bs = [.dat (enc one), .dat (enc other)] ∧ R = (· = .dat (rowD (due wd one other)))
theorem sc_plain_by : FnScope ["one", "other", "known", "step_to", "is_end"] ["one", "other"] (defScope (topS 17)) := ⟨rfl, rfl, rfl, by decide +kernel, rfl, by decide +kernel, by decide +kernel⟩
theorem nd_step : NdefX.ndefB (defScope (topS 17)) (C8.fnScope stStep) ["one"] = true := by decide +kernel
theorem nd_end : NdefX.ndefB (defScope (topS 17)) (C8.fnScope stEnd) ["known"] = true := by decide +kernel
theorem st_step : stStep = .FunctionDef "step_to" (C8.fnArgs stStep) (C8.fnBody stStep) [] none [] (C8.fnScope stStep) none "step_to" (posOf stStep) := rfl
theorem st_end : stEnd = .FunctionDef "is_end" (C8.fnArgs stEnd) (C8.fnBody stEnd) [] none [] (C8.fnScope stEnd) none "is_end" (posOf stEnd) := rfl
theorem f_plain_by (E : EnT K mg base) : Fn P w K mg base "plain_by" 5 ["one", "other"] (some (TT K)) false FplainBy := by
  refine mkFnC E.en 14 sc_plain_by (by decide) (fun bs R h => by obtain ⟨_, _, _, _, rfl, _⟩ := h; rfl) (fun _ _ _ _ _ _ us hl => match us, hl with | [_, _], _ => rfl) fun f cdv A outer s H X fa ca bs R hcd hr hf h => ?_
  obtain ⟨one, other, wd, T, rfl, rfl⟩ := h
  subst hcd
  have k := T.k1
  have l1 := T.l1
  refine sq_cons (s1_setB (i := 2) (bd := .lst .own ((good one other).map enc)) sc_plain_by.nd rfl (.inr rfl) (eq_callD (f_known_standings E.en) (hr.mono (by decide)) rfl rfl (ad_cons (v 0) (ad_cons (v 1) ad_nil)) ⟨one, other, wd, T.two, rfl, rfl⟩) ?_)
  refine sq_cons (s1_ndef (T := TT K) rfl (NdefX.ps_ndefMS (i := 3) (nm := nmP) st_step E.tp rfl List.mem_cons_self rfl E.huP (NdefX.ndef_free nd_step) rfl rfl rfl sc_plain_by.nd rfl (.inl rfl) (.inl rfl)) (fun _ => rfl) ?_)
  refine sq_cons (s1_ndef (T := TT K) rfl (NdefX.ps_ndefMS (i := 4) (nm := nmP) st_end E.tp rfl List.mem_cons_self rfl E.huP (NdefX.ndef_free nd_end) rfl rfl rfl sc_plain_by.nd rfl (.inl rfl) (.inl rfl)) (fun _ => rfl) ?_)
  obtain ⟨fd, F⟩ := E.en.def 10
  refine sq_cons (s1_ret ?_)
  refine eq_callS F sc_first_row_by (E.en.glo 10) (fun _ _ _ _ _ _ us hl => match us, hl with | [_, _, _, _], _ => rfl) hr rfl ?ha
  refine aq_dat (d := enc wd) ?len ?more
  rotate_left
  · refine aq_dat (d := enc (List.range one.length)) (ed_call (f_all_standings E.en) (hr.mono (by decide)) rfl rfl (ad_cons (v 0) ad_nil) ⟨one, rfl, by omega, rfl⟩) ?_
    refine aq_cons ((vp 3).mono fun b e => aq_cons ((vp 4).mono fun b' e' => aq_nil ?_))
    subst e
    subst e'
    refine ⟨rfl, fun pins s2 σ H2 HE H0 vs cdv2 I S _ hr2 => ?_⟩
    obtain ⟨v1, hv1, d1⟩ := S.slots 0 _ rfl
    obtain ⟨v2, hv2, d2⟩ := S.slots 2 _ rfl
    have c1 := NdefX.cells_of I (NdefX.Caps.made (fr := ["one"]) (js := [0]) I.ok (NdefX.ndef_free nd_step) (NdefX.ndef_fr nd_step) rfl)
    have c2 := NdefX.cells_of I (NdefX.Caps.made (fr := ["known"]) (js := [2]) I.ok (NdefX.ndef_free nd_end) (NdefX.ndef_fr nd_end) rfl)
    rw [show [0].map (NdefX.slotAt σ) = [v1].map some by rw [List.map_cons, NdefX.slotAt_of hv1]; rfl] at c1
    rw [show [2].map (NdefX.slotAt σ) = [v2].map some by rw [List.map_cons, NdefX.slotAt_of hv2]; rfl] at c2
    have z2 : IsL K H2 v2 ((good one other).map enc) := holds_read S d2
    refine ⟨fun HE => HRs K (mo0 w) HE HE [v1] (([.dat (enc one)] : List Bd).map Bd.read) ∧ HRs K (mo0 w) HE HE [v2] (([.lst .par ((good one other).map enc)] : List Bd).map Bd.read), ⟨.cons d1 .nil, .cons z2 .nil⟩, fun σ H HE H0 S D d => ?_⟩
    exact body_first_row (m := { tb := some (TT K), fa := fa, ca := ca, wd := some w, phi := fun HE => HRs K (mo0 w) HE HE [v1] (([.dat (enc one)] : List Bd).map Bd.read) ∧ HRs K (mo0 w) HE HE [v2] (([.lst .par ((good one other).map enc)] : List Bd).map Bd.read) }) E.en T rfl hr2 (k1 := 3) (k2 := 1) (by decide) (by decide) (fun f c => nok_step E.en k f c) (fun _ => rfl) c1 (fun HE h => h.1) (fun f c => nok_end E.en f c) (fun _ => rfl) c2 (fun HE h => h.2) σ H HE H0 S D ⟨fun _ _ _ _ q => q.elim, d.rt, d.bk, d.ct⟩
  · rw [show (enc wd : PyData) = enc (st one 0).length by rw [k.wst k.ne]]
    exact lenE (l := st one 0) rfl E.en.len_ (ixE (n := 0) (v 0) ed_int (st_at k.ne))
theorem sc_plain_letters : FnScope ["one", "other"] ["one", "other"] (defScope (topS 47)) := ⟨rfl, rfl, rfl, by decide +kernel, rfl, by decide +kernel, by decide +kernel⟩
theorem f_plain_letters (E : EnT K mg base) : Fn P w K mg base "plain_letters" 8 ["one", "other"] (some (TT K)) false FplainBy := by
  refine mkFn E.en 32 sc_plain_letters (by decide) (fun bs R h => by obtain ⟨_, _, _, _, rfl, _⟩ := h; rfl) (fun _ _ _ _ _ _ us hl => match us, hl with | [_, _], _ => rfl) fun f cdv A outer s H X fa ca bs R hr hf h => ?_
  obtain ⟨one, other, wd, T, rfl, rfl⟩ := h
  refine sq_cons (s1_expr (d := .none) (ed_call (f_want_both E.en) hr rfl rfl (ad_cons (v 0) (ad_cons (v 1) ad_nil)) ⟨one, other, wd, T.two, rfl, rfl⟩) ?_)
  refine sq_cons (s1_ret (eq_call (f_plain_by E) (hr.mono (by decide)) rfl rfl (.inr rfl) (aq_dat (v 0) (aq_dat (v 1) (aq_nil ⟨fun _ b hb => ?_, [.dat (enc one), .dat (enc other)], _, rfl, ⟨one, other, wd, T, rfl, rfl⟩, fun b h => h⟩)))))
  rcases List.mem_cons.mp hb with e | hb
  · rw [e]; exact fun z => by cases z
  rw [List.mem_singleton.mp hb]; exact fun z => by cases z
end
end W97
end
section
set_option Elab.async false
set_option linter.all false
set_option maxRecDepth 100000
set_option maxHeartbeats 2000000
namespace W97
open PySem PySem.Spec PyProof.Rows L2 PyEnc
section
variable {X : Cx} {pins : List (Addr × Obj)} {σ : L2.St} {H : Hp} {s : Shared}
/-- a lambda is made, its code told by one of several tables; nothing that was tracked is gone -/
theorem lam_new {T : List NdefX.NTab} {nm : Nat → Nat → Str} {co tab : Addr} {ar : Arguments} {bd : Expr} {sc : Scope} {at' : Pos} {E Q : Value → Shared → Prop} (J : Inv X pins σ H s) (B : LamX.TabB X.base X.mg co tab) (cd : X.env.code = .ref co) (mem : (tab, nm) ∈ T) (told : nm at'.line at'.col = X.env.qual ++ "<lambda>")
    (one : ∀ p ∈ T, p.1 = tab → p.2 = nm) (tabs : NdefX.TabsN T H) (df : defaultsOf ar X.env = ([], [])) (fre : ∀ y ∈ sc.names, y.2 = .free → ∃ c, X.env.cells.lookup y.1 = some c)
    (k : ∀ (f d : Addr) (pm ct : Value) (H1 : Hp) (s' : Shared), Inv X pins σ H1 s' → LamX.ExtN H H1 → (∀ b, H1 b = none → H b = none) → NdefX.TabsN T H1 →
      s'.heap.get? f = some (PySem.W.kla_obj "<lambda>" (X.env.qual ++ "<lambda>") ar bd sc (cloFrom X.env.cells sc.names []) pm d ct) → H1 f = none → f ∉ frs X.stack → H1 d = some (LamX.CodeO d (X.env.qual ++ "<lambda>")) → Q (.ref f) s') :
    wpAny (model X.prog X.w) X.A (eval (.Lambda ar bd sc at') X.env) Q E s := by
  obtain ⟨row, hrow, tri, each⟩ := (show NdefX.TabN H tab nm from tabs _ mem)
  refine PySem.W.kla_eval df ?_
  have bm := B.bm.keeps (h' := s.heap) J.bk
  have here : s.heap.get? tab = some { cls := .none, data := .fields row } := J.hok tab _ hrow
  have away : ∀ f, s.heap.objs.size ≤ f → f ∉ frs X.stack := fun f hf z => by
    rcases List.mem_cons.mp (J.stkSub _ z) with e | e
    · have lt := J.lt
      rw [← e] at lt
      exact absurd (Nat.lt_of_lt_of_le lt hf) (Nat.lt_irrefl _)
    · exact J.nofs hf e
  cases known : codeAmong at' row.toList with
  | some cv =>
    obtain ⟨d, e, hd⟩ := each at' cv known
    subst e
    rw [told] at hd
    refine PySem.W.kla_makeFunctionHit (mg := X.mg) (c := co) (P := tab) (ps := row) (closure_ok fre) J.ok.glob (J.mod.glob.keeps J.bk) cd (B.code.keeps J.bk) here tri known bm fun ct h2 tk kp sz => ?_
    have J1 := J.kept (h' := h2.push (PySem.W.kla_obj "<lambda>" (X.env.qual ++ "<lambda>") ar bd sc (cloFrom X.env.cells sc.names []) ((X.mg "__name__").getD .none) d ct)) (t' := tk) fun b o e => Heap.get?_push_of_some _ (kp b o e)
    exact k h2.objs.size d _ ct H _ J1 (.refl H) (fun _ e => e) tabs (Heap.get?_push_size _ rfl) (J.hok.fresh sz) (away _ sz) hd
  | none =>
    refine PySem.W.kla_makeFunction (mg := X.mg) (c := co) (P := tab) (ps := row) (closure_ok fre) J.ok.glob (J.mod.glob.keeps J.bk) cd (B.code.keeps J.bk) here tri known B.gP bm fun d ct h2 tk kp ge lt rec_ new => ?_
    obtain ⟨d2, oc, fs, t, e, g1, g2, g3⟩ := rec_
    cases e
    have fresh : H d = none := J.hok.fresh ge
    have J1 := LamX.inv_table (t' := tk) (more := #[rawInt at'.line, rawInt at'.col, .ref d]) (h' := h2.push (PySem.W.kla_obj "<lambda>" (X.env.qual ++ "<lambda>") ar bd sc (cloFrom X.env.cells sc.names []) ((X.mg "__name__").getD .none) d ct)) J hrow
      (fun b o nb e => Heap.get?_push_of_some _ (kp b o nb e)) (Heap.get?_push_of_some _ new) ge ⟨oc, fs, t, Heap.get?_push_of_some _ g1, g2, g3⟩
    generalize eH : upd (upd H tab (.tbl (row ++ #[rawInt at'.line, rawInt at'.col, .ref d]))) d (LamX.CodeO d (X.env.qual ++ "<lambda>")) = H1 at J1
    have big : s.heap.objs.size ≤ h2.objs.size := Nat.le_trans ge (Nat.le_of_lt lt)
    have H1d : H1 d = some (LamX.CodeO d (X.env.qual ++ "<lambda>")) := by rw [← eH]; exact upd_same
    have H1t : H1 tab = some (.tbl (row ++ #[rawInt at'.line, rawInt at'.col, .ref d])) := by rw [← eH, upd_ne (ne_of_none hrow fresh)]; exact upd_same
    have H1o : ∀ b, b ≠ d → b ≠ tab → H1 b = H b := fun b n1 n2 => by rw [← eH, upd_ne n1, upd_ne n2]
    have ext : LamX.ExtN H H1 := fun b o e nt => by
      rw [H1o b (ne_of_none e fresh) fun z => nt row (by rw [z, hrow] at e; exact (Option.some.inj e).symm)]
      exact e
    have gone : ∀ b, H1 b = none → H b = none := fun b e => by
      by_cases q1 : b = d
      · rw [q1]; exact fresh
      · by_cases q2 : b = tab
        · rw [q2, H1t] at e; cases e
        · rw [← H1o b q1 q2]; exact e
    have lst : (row ++ #[rawInt at'.line, rawInt at'.col, Value.ref d]).toList = row.toList ++ [rawInt at'.line, rawInt at'.col, .ref d] := by simp
    refine k h2.objs.size d _ ct H1 _ J1 ext gone (fun p hp => ?_) (Heap.get?_push_size _ rfl) ?_ (away _ big) H1d
    · by_cases q : p.1 = tab
      · rw [one p hp q, q]
        refine ⟨_, H1t, by rw [lst]; exact PySem.TriplesOk_snoc _ _ _ _ tri, fun ps cv e => ?_⟩
        rw [lst] at e
        rcases NdefX.among_app2 _ tri e with z | ⟨z, y1, y2⟩
        · obtain ⟨c0, z1, z2⟩ := each ps cv z
          exact ⟨c0, z1, ext _ _ z2 LamX.codeO_ne⟩
        · exact ⟨d, z, by rw [← y1, ← y2, told]; exact H1d⟩
      · obtain ⟨row2, z1, z2, z3⟩ := tabs p hp
        refine ⟨row2, by rw [H1o _ (ne_of_none z1 fresh) q]; exact z1, z2, fun ps cv e => ?_⟩
        obtain ⟨c0, y1, y2⟩ := z3 ps cv e
        exact ⟨c0, y1, ext _ _ y2 LamX.codeO_ne⟩
    · rw [H1o _ (Nat.ne_of_gt lt) (Nat.ne_of_gt (Nat.lt_of_lt_of_le (Heap.lt_size here) big))]
      exact J.hok.fresh big
end
section
variable {X : Cx} {m : Mo} {HE H0 H H1 : Hp} {ρ : Ab} {σ : L2.St} {p pos : Pos}
/-- try: .., where nothing is raised -/
theorem s1_try {body : List Stmt} {h₀ : ExceptHandler} {hs : List ExceptHandler} {E : AE} (h : SQ X.nox m ρ body E) : S1 X m ρ (.Try body (h₀ :: hs) [] [] pos) E := by
  intro σ H HE H0 S D d
  exact s1_of (ps_try_thru0 (pss_sw X.nox body)) (h σ H HE H0 S D d)
def lamE (X : Cx) (scope : Scope) (f d : Addr) (k : Nat) (φ : Cx → Prop) : Prop := ∀ (A : Around) (outer : List Env) (s : Shared) (H : Hp), Room k (A.deeper (LamX.lamEnv X scope s.heap.objs.size f d)) → φ (LamX.lamCx X A outer s H E0 scope f d)
/-- g(lambda: ..): the def's body walked from the very state, the call of its argument read by what stood when the lambda was made -/
theorem eq_lam {x a : Str} {j k : Nat} {N : List Str} {fd : FuncData} {ar : Arguments} {bd : Expr} {sc : Scope} {lpos : Pos} {co tab : Addr} {T : List NdefX.NTab} {nm : Nat → Nat → Str} {Q : Bd → Prop} {Ql : Bd → Prop} (F : FunD X.K x x (defArgs (topS j)) (defBody (topS j)) (defScope (topS j)) [] [] (He.ga X.K x) fd) (Sg : FnScope N [a] (defScope (topS j)))
    (hm : X.mg x = some (.ref (He.ga X.K x))) (bnd : ∀ (kV doc pm : Value) (an : Option Addr) (cdv ct : Value) (us : List Value), us.length = 1 → bindArgs (PySem.W.fnOf x x (defArgs (topS j)) (defBody (topS j)) (defScope (topS j)) .none kV doc pm an cdv ct) ⟨us, []⟩ = pure ([a].zip us)) (hr' : Room (k + 2) X.A) (hg : Gl X x)
    (htb : m.tb = some T) (B : LamX.TabB X.base X.mg co tab) (cd : X.env.code = .ref co) (mem : (tab, nm) ∈ T) (told : nm lpos.line lpos.col = X.env.qual ++ "<lambda>") (one : ∀ p ∈ T, p.1 = tab → p.2 = nm) (df : defaultsOf ar X.env = ([], [])) (L : LamX.LamS X.env.scope sc) (hN0 : N[0]? = some a) (hva : Vis (defScope (topS j)) a)
    (hbind : ∀ (q : Str) (cl : List (Str × Addr)) (pm cv ctv : Value), bindArgs (PySem.W.kla_fn "<lambda>" q ar bd sc cl pm cv ctv) ⟨[], []⟩ = pure [])
    (hl : ∀ f d, lamE X sc f d k fun X' => EQ X' m ρ bd Ql)
    (hG : ∀ (cdv : Value) (s : Shared) (H : Hp) (f : Addr) (φ : Hp → Prop), Room (k + 1) (cxB X.prog X.w X.K X.mg X.base N x j (He.ga X.K x) cdv X.A X.stack s H E0).A →
      (∀ (ρ' : Ab) (p1 p2 : Pos), ρ'[0]? = some (some (.val (.ref f))) → EQ (cxB X.prog X.w X.K X.mg X.base N x j (He.ga X.K x) cdv X.A X.stack s H E0) { m with phi := φ } ρ' (.Call (.Name a p1) [] [] p2) Ql) →
      SQ (cxB X.prog X.w X.K X.mg X.base N x j (He.ga X.K x) cdv X.A X.stack s H E0) { m with phi := φ } (rho N [.val (.ref f)]) (defBody (topS j)) { nx := fun _ => Q (.dat .none), rt := Q })
    (hdb : (x == ("__debug__" : Str)) = false := by decide) (hd1 : (a == ("__debug__" : Str)) = false := by decide) (hd2 : (a == ("__classdict__" : Str)) = false := by decide) : EQ X m ρ (.Call (.Name x p) [.Lambda ar bd sc lpos] [] pos) Q := by
  intro σ H HE H0 S Qv kk pins s I
  have hk := F.kp
  have hB := F.bindsN (ps := [a]) bnd
  obtain ⟨oc, od, dV, kV, doc, pm, an, cdv, ct, osl, rfl, lk, hcd, _, _⟩ := F.ex
  refine wpAny_Call_Name_kw (ld_glob I hg hm ?_ hdb)
  refine PySem.W.callWith_K (h₀ := X.base) I.ok.mod.kin hk ?_ (by rfl) (by rfl)
  show wpAny _ _ (spliced ((false, eval (.Lambda ar bd sc lpos) X.env) :: backTo pos (starEach [] X.env))) _ _ s
  refine Calls.spliced_cons (lam_new I B cd mem told one (S.tabs T htb) df (L.has I.ok) fun f d pm' ctv H1 s1 I1 eN nn T1 hf hfn hfr hco => ?_)
  refine Calls.spliced_nil ⟨I1.kIn, ?_⟩
  have g : Gr m H H1 := Gr.tabled htb eN nn T1
  have S1 := S.go g
  have rc : codeAny (model X.prog X.w) X.A (.call (.ref (He.ga X.K x)) ⟨[.ref f], []⟩) (CR CX0 X.stack X.prog X.w H1 s1 Qv E0) s1 := by
    refine LamX.run_ofS (N := N) (ps := [a]) (us := [.ref f]) (vs := [.ref f]) lk hcd Sg hr' I1.env0 (hB s1 [.ref f] I1.kIn rfl) (.cons rfl .nil) rfl fun hr2 => ?_
    refine ⟨_, PSs.nox (pss_sw _ _), ?_⟩
    have st := sst_start (K := X.K) (m := { m with phi := fun Z => Z = H1 }) (H := H1) (zs := [.ref f]) (ds := [.val (.ref f)]) (k := N.length - 1) rfl (fun a e => S1.fe1 a e) (fun T e => S1.tabs T e) (.cons rfl .nil)
    have up : ∀ {Ha H' : Hp}, Gr { m with phi := fun Z => Z = H1 } Ha H' → Gr m Ha H' := fun g' => ⟨g'.keep, g'.tabs, g'.free, g'.feed⟩
    have dn : ∀ {Ha H' : Hp}, Gr m Ha H' → Gr { m with phi := fun Z => Z = H1 } Ha H' := fun g' => ⟨g'.keep, g'.tabs, g'.free, g'.feed⟩
    have q := hG cdv s1 H1 f (fun Z => Z = H1) hr2 (fun ρ' p1 p2 h0 => ?_)
    · have fin : ∀ (v : V) (b : Bd) (H' : Hp), Gr { m with phi := fun Z => Z = H1 } H1 H' → hr X.K { m with phi := fun Z => Z = H1 } H1 H' v b → Q b → Qv v H' := fun v b H' g' r' q' => kk v b H' (g.trans (up g')) (hr_back (hr_mode (m := { m with phi := fun Z => Z = H1 }) (m' := m) rfl (.inr rfl) r') g) q'
      exact q _ H1 H1 H1 st _ ⟨fun ρ' σ' H' S' q' => fin .non (.dat .none) H' (S'.ent.trans S'.gr) .non q', fun v b H' g' r' q' => fin v b H' g' r' q', fun _ _ _ _ q' => q'.elim, fun _ _ _ _ q' => q'.elim⟩
    · intro σZ HZ HEZ H0Z SZ QZ kZ
      have hp := LamX.pe_act (CXg := CX0) (Eg := E0) (Ng := N) (qg := x) (sg := defScope (topS j)) (g := He.ga X.K x) (cdg := cdv) (pn := []) (xe := fun _ _ => False) (W := fun _ _ _ _ => False) (E := E0) (i := 0) (p1 := p1) (p2 := p2) (a := a)
        (tb := fun σ H Q => lamE X sc f d k fun X' => ew X' bd σ H Q) I1 L hf hfn hfr (hbind _ _ _ _ _) LamX.takes0 (fun _ _ _ _ z => z) hr2 (fun A outer s H hr3 => ⟨fun pins s' σ H' Q I h => h A outer s H hr3 pins s' I⟩) hN0 hva hd1 hd2
      refine ew_of hp ⟨?_, ?_, ?_⟩
      · obtain ⟨v, hv, e⟩ := SZ.slots 0 _ h0
        have e : v = .ref f := e
        rw [hv, e]
      · have e : HEZ = H1 := SZ.phi
        have gz := up (SZ.ent.trans SZ.gr)
        rw [e] at gz
        exact gz.tk S1.fe1 _ _ hco .code
      · intro A outer s2 H2 hr3
        have e : HEZ = H1 := SZ.phi
        have gz := up (SZ.ent.trans SZ.gr)
        rw [e] at gz
        exact hl f d A outer s2 H2 hr3 σ HZ HE H0 (S1.go gz) QZ fun v b H' g' r' q' => kZ v b H' (dn g') (hr_mode (m := m) (m' := { m with phi := fun Z => Z = H1 }) rfl (.inr rfl) r') q'
  refine wpAny_call (codeAny_mono rc fun z s2 hz => ?_)
  cases z with
  | error e => exact hz.elim
  | ok fl =>
    cases fl with
    | ret u => exact I1.after hz
    | next => exact False.elim hz
    | brk => exact False.elim hz
    | cont => exact False.elim hz
end
end W97
end
section
set_option Elab.async false
set_option linter.all false
set_option maxRecDepth 100000
set_option maxHeartbeats 4000000
namespace W97
open PySem PySem.Spec PyProof.Rows L2 PyEnc
/-- plain data of at most so many floors -/
def SD : Nat → PyData → Prop
  | 0, d => d = .none ∨ (∃ b, d = .bool b) ∨ (∃ i : Int, d = .int i) ∨ d = .str "told"
  | n + 1, d => (d = .none ∨ (∃ b, d = .bool b) ∨ (∃ i : Int, d = .int i) ∨ d = .str "told") ∨ ∃ ds, d = .tuple ds ∧ ds.length ≤ 1000 ∧ ∀ e ∈ ds, SD n e
def SD0 (d : PyData) : Prop := d = .none ∨ (∃ b, d = .bool b) ∨ (∃ i : Int, d = .int i) ∨ d = .str "told"
def Fsame (n : Nat) : List Bd → (Bd → Prop) → Prop := fun bs R => R = (· = .dat (.bool true)) ∧ ((∃ d, SD n d ∧ bs = [.dat d, .dat d]) ∨ ∃ (k : Nat) (ds : List PyData), n = k + 1 ∧ ds.length ≤ 1000 ∧ (∀ e ∈ ds, SD k e) ∧ bs = [.lst .par ds, .lst .par ds])
theorem sd0_eqv {d : PyData} (h : SD0 d) : PyData.eqv d d = true ∧ SeqAt.shaped d = true := by
  rcases h with rfl | ⟨b, rfl⟩ | ⟨i, rfl⟩ | rfl
  · exact ⟨by decide +kernel, by decide +kernel⟩
  · cases b <;> exact ⟨by decide +kernel, by decide +kernel⟩
  · refine ⟨by simp [PyData.eqv], ?_⟩
    show (PyData.canLay0 (.int i) && decide ((PyData.int i).depth ≤ 64)) = true
    simp [PyData.canLay0, PyData.depth]
  · exact ⟨by decide +kernel, by decide +kernel⟩
section
variable {P : Program} {w : World} {K : PySem.W.Frag} {mg : Str → Option Value} {base : Heap}
theorem sc_same : FnScope ["_law_due", "_law_told", "_law_is_alike", "_law_k"] ["_law_due", "_law_told"] (defScope (topS 89)) := ⟨rfl, rfl, rfl, by decide +kernel, rfl, by decide +kernel, by decide +kernel⟩
abbrev cxS (P : Program) (w : World) (K : PySem.W.Frag) (mg : Str → Option Value) (base : Heap) (f : Addr) (cdv : Value) (A : Around) (outer : List Env) (s : Shared) (H : Hp) (E : XK) : Cx := cxB P w K mg base ["_law_due", "_law_told", "_law_is_alike", "_law_k"] "_law_same" 89 f cdv A outer s H E
theorem td_neS {X : Cx} {m : Mo} {ρ : Ab} {a b : Expr} {pos : Pos} {x k : Nat} (r : Room k X.A) (h1 : ED X m ρ a (enc x)) (h2 : ED X m ρ b (enc x)) : TD X m ρ (.Compare a [.NotEq] [b] pos) false := by
  have q := td_neE (pos := pos) r h1 h2
  rw [decide_eq_true rfl] at q
  exact q
theorem td_or2T {X : Cx} {m : Mo} {ρ : Ab} {a b : Expr} {pos : Pos} (h : TD X m ρ a true) : TD X m ρ (.BoolOp .Or [a, b] pos) true := (tw_or (k := true) (l := true) h fun z => by cases z).td
theorem td_or2R {X : Cx} {m : Mo} {ρ : Ab} {a b : Expr} {pos : Pos} (h : TD X m ρ a false) (h2 : TD X m ρ b true) : TD X m ρ (.BoolOp .Or [a, b] pos) true := (tw_or (k := false) (l := true) h fun _ => tw_or1 h2).td
theorem body_same0 (E : En K mg) {f : Addr} {cdv : Value} {A : Around} {outer : List Env} {s : Shared} {H : Hp} {X : XK} {m : Mo} {k : Nat} {d : PyData} (hd : SD0 d) (hr : Room k (cxS P w K mg base f cdv A outer s H X).A) :
    SQ (cxS P w K mg base f cdv A outer s H X) m [some (.dat d), some (.dat d), none, none] (defBody (topS 89)) { nx := fun _ => False, rt := (· = .dat (.bool true)) } := by
  obtain ⟨heq, hsh⟩ := sd0_eqv hd
  have eqT : ∀ {a b : Expr} {pos : Pos} {ρ : Ab}, ED (cxS P w K mg base f cdv A outer s H X) m ρ a d → ED (cxS P w K mg base f cdv A outer s H X) m ρ b d → ED (cxS P w K mg base f cdv A outer s H X) m ρ (.Compare a [.Eq] [b] pos) (.bool true) := fun {a b pos ρ} h1 h2 => by
    have q : ED (cxS P w K mg base f cdv A outer s H X) m ρ (.Compare a [.Eq] [b] pos) (.bool (PyData.eqv d d)) := ed_eqD (w := hr) h1.asD h2.asD hsh hsh
    rw [heq] at q
    exact q
  have kT : kitB (tyD d) "tuple" = some false := by rcases hd with rfl | ⟨b, rfl⟩ | ⟨i, rfl⟩ | rfl <;> first | exact kb_NoneType_tuple | exact kb_bool_tuple | exact kb_int_tuple | exact kb_str_tuple
  have kL : kitB (tyD d) "list" = some false := by rcases hd with rfl | ⟨b, rfl⟩ | ⟨i, rfl⟩ | rfl <;> first | exact kb_NoneType_list | exact kb_bool_list | exact kb_int_list | exact kb_str_list
  refine sq_cons (s1_if (k := false) (td_or2F (td_val (ed_isi rfl E.isinstance_ rfl E.tuple_ boot_tuple2 (EQ.asD (v 0)) kT)) (td_val (ed_isi rfl E.isinstance_ rfl E.list_ boot_list2 (EQ.asD (v 0)) kL))) (fun z => by cases z) fun _ => sq_nil ?_)
  by_cases h0 : d = .none
  · subst h0
    exact sq_cons (s1_if (k := true) (td_or2T (td_isN (d := .none) (v 0))) (fun _ => sq_cons (s1_retD (ed_andT (ed_isN (d1 := .none) (v 0)) (ed_and1 (ed_isN (d1 := .none) (v 1)))) rfl)) fun z => by cases z)
  have n0 : isNoneD d = false := by rcases hd with rfl | ⟨b, rfl⟩ | ⟨i, rfl⟩ | rfl <;> first | exact absurd rfl h0 | rfl
  refine sq_cons (s1_if (k := false) (td_or2F (n0 ▸ td_isN (d := d) (v 0)) (n0 ▸ td_isN (d := d) (v 1))) (fun z => by cases z) fun _ => sq_nil ?_)
  by_cases h1 : d = .str "told"
  · have kS : kitB (tyD d) "str" = some true := by subst h1; exact kb_str_str
    exact sq_cons (s1_if (k := true) (td_or2T (td_val (ed_isi rfl E.isinstance_ rfl E.str_ boot_str2 (EQ.asD (v 0)) kS))) (fun _ => sq_cons (s1_retD (ed_andT (ed_isi rfl E.isinstance_ rfl E.str_ boot_str2 (EQ.asD (v 0)) kS) (ed_andT (ed_isi rfl E.isinstance_ rfl E.str_ boot_str2 (EQ.asD (v 1)) kS) (ed_and1 (eqT (v 0) (v 1))))) rfl)) fun z => by cases z)
  have kS : kitB (tyD d) "str" = some false := by rcases hd with rfl | ⟨b, rfl⟩ | ⟨i, rfl⟩ | rfl <;> first | exact absurd rfl h1 | exact kb_NoneType_str | exact kb_bool_str | exact kb_int_str
  refine sq_cons (s1_if (k := false) (td_or2F (td_val (ed_isi rfl E.isinstance_ rfl E.str_ boot_str2 (EQ.asD (v 0)) kS)) (td_val (ed_isi rfl E.isinstance_ rfl E.str_ boot_str2 (EQ.asD (v 1)) kS))) (fun z => by cases z) fun _ => sq_nil ?_)
  by_cases h2 : ∃ b, d = .bool b
  · have kB : kitB (tyD d) "bool" = some true := by obtain ⟨b, rfl⟩ := h2; exact kb_bool_bool
    exact sq_cons (s1_if (k := true) (td_or2T (td_val (ed_isi rfl E.isinstance_ rfl E.bool_ boot_bool2 (EQ.asD (v 0)) kB))) (fun _ => sq_cons (s1_retD (ed_andT (ed_isi rfl E.isinstance_ rfl E.bool_ boot_bool2 (EQ.asD (v 0)) kB) (ed_andT (ed_isi rfl E.isinstance_ rfl E.bool_ boot_bool2 (EQ.asD (v 1)) kB) (ed_and1 (eqT (v 0) (v 1))))) rfl)) fun z => by cases z)
  have kB : kitB (tyD d) "bool" = some false := by rcases hd with rfl | ⟨b, rfl⟩ | ⟨i, rfl⟩ | rfl <;> first | exact absurd ⟨_, rfl⟩ h2 | exact kb_NoneType_bool | exact kb_int_bool | exact kb_str_bool
  have kI : kitB (tyD d) "int" = some true := by rcases hd with rfl | ⟨b, rfl⟩ | ⟨i, rfl⟩ | rfl <;> first | exact absurd rfl h0 | exact absurd rfl h1 | exact absurd ⟨_, rfl⟩ h2 | exact kb_int_int
  refine sq_cons (s1_if (k := false) (td_or2F (td_val (ed_isi rfl E.isinstance_ rfl E.bool_ boot_bool2 (EQ.asD (v 0)) kB)) (td_val (ed_isi rfl E.isinstance_ rfl E.bool_ boot_bool2 (EQ.asD (v 1)) kB))) (fun z => by cases z) fun _ => sq_nil ?_)
  exact sq_cons (s1_retD (ed_andT (ed_isi rfl E.isinstance_ rfl E.int_ boot_int2 (EQ.asD (v 0)) kI) (ed_andT (ed_isi rfl E.isinstance_ rfl E.int_ boot_int2 (EQ.asD (v 1)) kI) (ed_and1 (eqT (v 0) (v 1))))) rfl)
theorem ed_callS {X : Cx} {m : Mo} {ρ : Ab} {a b : Expr} {p pos : Pos} {j n : Nat} {d : PyData} (F : Fn X.prog X.w X.K X.mg X.base "_law_same" j ["_law_due", "_law_told"] none false (Fsame n)) (hr' : Room j X.A) (hg : Gl X "_law_same") (hw : m.wd = some X.w) (h1 : ED X m ρ a d) (h2 : ED X m ρ b d) (hd : SD n d)
    (he : starEach [a, b] X.env = (false, eval a X.env) :: starEach [b] X.env := by rfl) (hpl : (backTo pos (starEach [b] X.env)).any (·.1) = false := by rfl) (hs : starEach [b] X.env = (false, eval b X.env) :: starEach [] X.env := by rfl) : ED X m ρ (.Call (.Name "_law_same" p) [a, b] [] pos) (.bool true) :=
  eq_callD F hr' hg hw (ad_cons h1 (ad_cons h2 ad_nil hs) he) ⟨rfl, .inl ⟨d, hd, rfl⟩⟩ (he := he) (hpl := hpl)
theorem filter_no {n : Nat} : ((((List.range n).filter fun _ => false).map fun k => k).map (enc : Nat → PyData)) = [] := by
  have e : (List.range n).filter (fun _ => false) = [] := by
    rw [List.filter_eq_nil_iff]
    intro _ _ z
    cases z
  rw [e]; rfl
theorem body_sameT (E : En K mg) {f : Addr} {cdv : Value} {A : Around} {outer : List Env} {s : Shared} {H : Hp} {X : XK} {m : Mo} {k : Nat} {ds : List PyData} (hl : ds.length ≤ 1000) (hd : ∀ e ∈ ds, SD k e) (hw : m.wd = some w) (hr : Room (k + 1) (cxS P w K mg base f cdv A outer s H X).A) (IH : Fn P w K mg base "_law_same" (k + 1) ["_law_due", "_law_told"] none false (Fsame k)) :
    SQ (cxS P w K mg base f cdv A outer s H X) m [some (.dat (.tuple ds)), some (.dat (.tuple ds)), none, none] (defBody (topS 89)) { nx := fun _ => False, rt := (· = .dat (.bool true)) } := by
  refine sq_cons (s1_if (k := true) (td_or2T (td_val (ed_isi (d := .tuple ds) rfl E.isinstance_ rfl E.tuple_ boot_tuple2 (EQ.asD (v 0)) kb_tuple_tuple))) (fun _ => ?_) fun z => by cases z)
  refine sq_cons (s1_setD (i := 2) (d := .bool true) sc_same.nd rfl (.inl rfl) (eqE (x := true) (y := true) hr (ed_isi (d := .tuple ds) rfl E.isinstance_ rfl E.tuple_ boot_tuple2 (EQ.asD (v 0)) kb_tuple_tuple) (ed_isi (d := .tuple ds) rfl E.isinstance_ rfl E.tuple_ boot_tuple2 (EQ.asD (v 1)) kb_tuple_tuple)) ?_)
  refine sq_cons (s1_if (k := false) (td_or3F (td_not (k := true) (td_val (v 2))) (td_neE (x := false) (y := false) hr (ed_isi (d := .tuple ds) rfl E.isinstance_ rfl E.list_ boot_list2 (EQ.asD (v 0)) kb_tuple_list) (ed_isi (d := .tuple ds) rfl E.isinstance_ rfl E.list_ boot_list2 (EQ.asD (v 1)) kb_tuple_list)) ?ln) (fun z => by cases z) fun _ => sq_nil ?_)
  case ln =>
    exact td_neS (x := ds.length) hr (ed_lenT rfl E.len_ (v 0)) (ed_lenT rfl E.len_ (v 1))
  refine sq_cons (s1_retD (d := .bool (PyData.eqv (.list []) (.list []))) (ed_eqD (w := hr) (d1 := .list []) (d2 := .list []) (EQ.asL (o := .own) ?lc) (EQ.asL (o := .own) (el_lst ad_nil (Nat.zero_le _))) (by decide +kernel) (by decide +kernel)) rfl)
  rw [← filter_no (n := ds.length)]
  refine el_filE (l := List.range ds.length) (q := fun _ => false) (g := fun k => k) [("_law_k", 3)] rfl sc_same.nd ?it (blkOk_by (by kernel_rfl)) (by rw [List.length_range]; omega) fun i hi => ⟨[3], _, by decide, fun _ _ _ _ _ => t1 3 sc_same.nd, fun _ _ _ _ _ => ?_, fun _ _ _ _ _ _ => v 3⟩
  case it => exact itc_rg1 rfl E.range_ (ed_lenT rfl E.len_ (v 0)) hl
  have hil := List.mem_range.mp hi
  have hg : ds[i]? = some ds[i] := List.getElem?_eq_getElem hil
  exact td_not (k := true) (td_val (ed_callS IH hr rfl hw (ed_ixT (v 0) (v 3) hg (by intro _ _; rfl)) (ed_ixT (v 1) (v 3) hg (by intro _ _; rfl)) (hd _ (List.getElem_mem hil))))
theorem body_sameL (E : En K mg) {f : Addr} {cdv : Value} {A : Around} {outer : List Env} {s : Shared} {H : Hp} {X : XK} {m : Mo} {k : Nat} {ds : List PyData} (hl : ds.length ≤ 1000) (hd : ∀ e ∈ ds, SD k e) (hw : m.wd = some w) (hr : Room (k + 1) (cxS P w K mg base f cdv A outer s H X).A) (IH : Fn P w K mg base "_law_same" (k + 1) ["_law_due", "_law_told"] none false (Fsame k)) :
    SQ (cxS P w K mg base f cdv A outer s H X) m [some (.lst .par ds), some (.lst .par ds), none, none] (defBody (topS 89)) { nx := fun _ => False, rt := (· = .dat (.bool true)) } := by
  refine sq_cons (s1_if (k := true) (td_or2R (td_val (ed_isi (d := .list ds) rfl E.isinstance_ rfl E.tuple_ boot_tuple2 (EQ.asL (o := .par) (vl 0)) kb_list_tuple)) (td_val (ed_isi (d := .list ds) rfl E.isinstance_ rfl E.list_ boot_list2 (EQ.asL (o := .par) (vl 0)) kb_list_list))) (fun _ => ?_) fun z => by cases z)
  refine sq_cons (s1_setD (i := 2) (d := .bool true) sc_same.nd rfl (.inl rfl) (eqE (x := false) (y := false) hr (ed_isi (d := .list ds) rfl E.isinstance_ rfl E.tuple_ boot_tuple2 (EQ.asL (o := .par) (vl 0)) kb_list_tuple) (ed_isi (d := .list ds) rfl E.isinstance_ rfl E.tuple_ boot_tuple2 (EQ.asL (o := .par) (vl 1)) kb_list_tuple)) ?_)
  refine sq_cons (s1_if (k := false) (td_or3F (td_not (k := true) (td_val (v 2))) (td_neE (x := true) (y := true) hr (ed_isi (d := .list ds) rfl E.isinstance_ rfl E.list_ boot_list2 (EQ.asL (o := .par) (vl 0)) kb_list_list) (ed_isi (d := .list ds) rfl E.isinstance_ rfl E.list_ boot_list2 (EQ.asL (o := .par) (vl 1)) kb_list_list)) ?ln) (fun z => by cases z) fun _ => sq_nil ?_)
  case ln =>
    exact td_neS (x := ds.length) hr (ed_lenL rfl E.len_ (vl 0)) (ed_lenL rfl E.len_ (vl 1))
  refine sq_cons (s1_retD (d := .bool (PyData.eqv (.list []) (.list []))) (ed_eqD (w := hr) (d1 := .list []) (d2 := .list []) (EQ.asL (o := .own) ?lc) (EQ.asL (o := .own) (el_lst ad_nil (Nat.zero_le _))) (by decide +kernel) (by decide +kernel)) rfl)
  rw [← filter_no (n := ds.length)]
  refine el_filE (l := List.range ds.length) (q := fun _ => false) (g := fun k => k) [("_law_k", 3)] rfl sc_same.nd ?it (blkOk_by (by kernel_rfl)) (by rw [List.length_range]; omega) fun i hi => ⟨[3], _, by decide, fun _ _ _ _ _ => t1 3 sc_same.nd, fun _ _ _ _ _ => ?_, fun _ _ _ _ _ _ => v 3⟩
  case it => exact itc_rg1 rfl E.range_ (ed_lenL rfl E.len_ (vl 0)) hl
  have hil := List.mem_range.mp hi
  have hg : ds[i]? = some ds[i] := List.getElem?_eq_getElem hil
  exact td_not (k := true) (td_val (ed_callS IH hr rfl hw (ed_ixL (vl 0) (v 3) hg (by intro _ _; rfl)) (ed_ixL (vl 1) (v 3) hg (by intro _ _; rfl)) (hd _ (List.getElem_mem hil))))
theorem f_same (E : En K mg) : ∀ n, Fn P w K mg base "_law_same" (n + 1) ["_law_due", "_law_told"] none false (Fsame n)
  | 0 => by
    refine mkFn E 65 sc_same (by decide) (fun bs R h => by rcases h with ⟨_, ⟨_, _, rfl⟩ | ⟨_, _, _, _, _, rfl⟩⟩ <;> rfl) (fun _ _ _ _ _ _ us hl => match us, hl with | [_, _], _ => rfl) fun f cdv A outer s H X fa ca bs R hr hf h => ?_
    rcases h with ⟨rfl, ⟨d, hd, rfl⟩ | ⟨k, ds, e, _⟩⟩
    · exact fun σ H HE H0 S D dd => body_same0 E hd hr σ H HE H0 S D ⟨fun _ _ _ _ q => q.elim, dd.rt, dd.bk, dd.ct⟩
    · cases e
  | n + 1 => by
    refine mkFn E 65 sc_same (by decide) (fun bs R h => by rcases h with ⟨_, ⟨_, _, rfl⟩ | ⟨_, _, _, _, _, rfl⟩⟩ <;> rfl) (fun _ _ _ _ _ _ us hl => match us, hl with | [_, _], _ => rfl) fun f cdv A outer s H X fa ca bs R hr hf h => ?_
    rcases h with ⟨rfl, ⟨d, hd, rfl⟩ | ⟨k, ds, e, hl, hd, rfl⟩⟩
    · rcases hd with hd | ⟨ds, rfl, hl, hd⟩
      · exact fun σ H HE H0 S D dd => body_same0 E hd hr σ H HE H0 S D ⟨fun _ _ _ _ q => q.elim, dd.rt, dd.bk, dd.ct⟩
      · exact fun σ H HE H0 S D dd => body_sameT E hl hd rfl hr (f_same E n) σ H HE H0 S D ⟨fun _ _ _ _ q => q.elim, dd.rt, dd.bk, dd.ct⟩
    · injection e with e
      subst e
      exact fun σ H HE H0 S D dd => body_sameL E hl hd rfl hr (f_same E n) σ H HE H0 S D ⟨fun _ _ _ _ q => q.elim, dd.rt, dd.bk, dd.ct⟩
end
end W97
end
section
set_option Elab.async false
set_option linter.all false
set_option maxRecDepth 100000
set_option maxHeartbeats 4000000
namespace W97
open PySem PySem.Spec PyProof.Rows L2 PyEnc
section
variable {P : Program} {w : World} {K : PySem.W.Frag} {mg : Str → Option Value} {base : Heap}
theorem sc_heard : FnScope ["_law_call", "e"] ["_law_call"] (defScope (topS 90)) := ⟨rfl, rfl, rfl, by decide +kernel, rfl, by decide +kernel, by decide +kernel⟩
theorem sc_is_let : FnScope ["_law_near", "_law_far", "_law_row"] ["_law_near", "_law_far", "_law_row"] (defScope (topS 95)) := ⟨rfl, rfl, rfl, by decide +kernel, rfl, by decide +kernel, by decide +kernel⟩
def toldD : PyData := .tuple [.str "told", .bool true]
def FisLet : List Bd → (Bd → Prop) → Prop := fun bs R => ∃ (one other : Mc) (wd : Nat) (r : Row), P5 one other wd ∧ Plain wd one other r ∧ r.length ≤ 1000 ∧ bs = [.dat (enc one), .dat (enc other), .dat (enc r)] ∧ R = (· = .dat (.bool true))
theorem f_is_let (E : EnT K mg base) : Fn P w K mg base "_law_is_let" 11 ["_law_near", "_law_far", "_law_row"] (some (TT K)) false FisLet := by
  refine mkFnC E.en 71 sc_is_let (by decide) (fun bs R h => by obtain ⟨_, _, _, _, _, _, _, rfl, _⟩ := h; rfl) (fun _ _ _ _ _ _ us hl => match us, hl with | [_, _, _], _ => rfl) fun f cdv A outer s H X fa ca bs R hcd hr hf h => ?_
  obtain ⟨one, other, wd, r, T, pl, hrl, rfl, rfl⟩ := h
  subst hcd
  have two1 : (2 : Nat) ≤ sizeLine := by rw [sizeLine_eq]; decide
  obtain ⟨fd, F⟩ := E.en.def 66
  refine sq_cons (s1_ret ?_)
  refine eq_call (f_same E.en 1) (hr.mono (by decide)) rfl rfl (.inl rfl) (aq_dat (d := toldD) (ed_tup (ad_cons ed_str (ad_cons ed_bl ad_nil)) two1) (aq_dat (d := toldD) ?lam (aq_nil ⟨fun _ b hb => ?_, [.dat toldD, .dat toldD], _, rfl, ⟨rfl, .inl ⟨toldD, .inr ⟨_, rfl, by decide, fun e he => ?_⟩, rfl⟩⟩, fun b h => h⟩)))
  · refine eq_lam (k := 8) (co := (He.cT K dLet).1) (tab := (He.cT K dLet).2) (nm := nmL) (T := TT K) (Ql := (· = .dat (.bool true))) F sc_heard (E.en.glo 66) (fun _ _ _ _ _ _ us hl => match us, hl with | [_], _ => rfl) hr rfl rfl E.tl rfl (List.mem_cons_of_mem _ List.mem_cons_self) rfl E.huL rfl (LamX.lamS_by (by kernel_rfl)) rfl (.inl rfl) (fun _ _ _ _ _ => rfl) (fun f d A outer s2 H2 hr2 => ?_) fun cdv2 s2 H2 f2 φ hr2 act => ?_
    · exact ed_call (f_lets_plain E.en) hr2 rfl rfl (ad_cons (v 0) (ad_cons (v 1) (ad_cons (ed_tup (ad_cons ed_str (ad_cons (v 2) ad_nil)) two1) ad_nil))) ⟨one, other, wd, r, T, pl, hrl, rfl, rfl⟩
    · exact sq_cons (s1_try (sq_cons (s1_ret (eq_tup (aq_dat ed_str (aq_cons ((act _ _ _ rfl).mono fun b e => aq_nil ⟨[.str "told", .bool true], by rw [e]; rfl, two1, rfl⟩)))))))
  · rcases List.mem_cons.mp hb with e | hb
    · rw [e]; exact fun z => by cases z
    rw [List.mem_singleton.mp hb]; exact fun z => by cases z
  · rcases List.mem_cons.mp he with e | he
    · exact .inr (.inr (.inr e))
    · exact .inr (.inl ⟨true, List.mem_singleton.mp he⟩)
end
end W97
end
section
set_option Elab.async false
set_option linter.all false
set_option maxRecDepth 100000
set_option maxHeartbeats 2000000
namespace W97
open PySem PySem.Spec PyProof.Rows L2 PyEnc
section
variable {X : Cx} {m : Mo} {HE H0 H H1 : Hp} {ρ ρ' : Ab} {σ : L2.St} {a b c e elt tg iter : Expr} {es : List Expr} {pos p q0 : Pos} {E : AE} {ds : List PyData} {α : Type} [DecidableEq α] [PyEnc α]
/-- a, b = x, y, by a tuple that is made (some name is captured) -/
theorem s1_parT {i j : Nat} {x y : Str} {px py pt : Pos} {kt k2 pt2} (hc : X.calm = true) (hN : X.N.Nodup) (hi : X.N[i]? = some x) (hj : X.N[j]? = some y) (hx : Loc X.env.scope x) (hy : Loc X.env.scope y)
    (h : EQ X m ρ a fun b1 => b1.fine ∧ EQ X m ρ b fun b2 => b2.fine ∧ E.nx ((ρ.set i (some b1)).set j (some b2)))
    (hw : swappedStores [.Tuple [.Name x px, .Name y py] kt pt] (.Tuple [a, b] k2 pt2) X.env = pure none := by rfl) (hs : swapsWithSole [.Tuple [.Name x px, .Name y py] kt pt] (.Tuple [a, b] k2 pt2) pos.line X.env = pure false := by rfl)
    (hn : (assignEach [.Name x px, .Name y py] X.env).length = 2 := by rfl) (hst : (assignEach [.Name x px, .Name y py] X.env).findIdx? (·.1) = none := by rfl)
    (g1 : (assignEach [.Name x px, .Name y py] X.env).map (·.2) = assign (.Name x px) X.env :: (assignEach [.Name y py] X.env).map (·.2) := by rfl) (g2 : (assignEach [.Name y py] X.env).map (·.2) = assign (.Name y py) X.env :: (assignEach [] X.env).map (·.2) := by rfl)
    (h1 : starEach [a, b] X.env = (false, eval a X.env) :: starEach [b] X.env := by rfl) (h2 : starEach [b] X.env = (false, eval b X.env) :: starEach [] X.env := by rfl)
    (ha : (assignEach [.Tuple [.Name x px, .Name y py] kt pt] X.env).map (·.2) = [assign (.Tuple [.Name x px, .Name y py] kt pt) X.env] := by rfl)
    (f1 : X.fn x = true ∨ X.env.scope.names.lookup x = some .local := by first | exact .inl rfl | exact .inr rfl) (f2 : X.fn y = true ∨ X.env.scope.names.lookup y = some .local := by first | exact .inl rfl | exact .inr rfl) :
    S1 X m ρ (.Assign [.Tuple [.Name x px, .Name y py] kt pt] (.Tuple [a, b] k2 pt2) pos) E := by
  intro σ H HE H0 S D d
  refine s1_of (ps_asg (pe_tup (pa_cons (pe_ew X a) (pa_cons (pe_ew X b) pa_nil h2) h1)) (pg_tup hc (pgs_cons (pg_name hN hi hx f1) (pgs_cons (pg_name hN hj hy f2) pgs_nil g2) g1) hn hst) hs hw ha) (ew_then h S fun v b1 H1 g1 S1 r1 q1 => ew_then q1.2 S1 fun u b2 H2 g2 S2 r2 q2 => ?_)
  refine ⟨show 2 ≤ sizeLine by rw [sizeLine_eq]; decide, fun l hl => ⟨l, [v, u], rfl, .of upd_same, rfl, v, [u], rfl, u, [], rfl, rfl, ?_⟩⟩
  exact d.nx _ _ _ (((S.set g1 r1 q1.1).set g2 r2 q2.1).go (Gr.new hl)) q2.2
/-- an own list goes to another name -/
theorem SSt.move {i j : Nat} {v : V} (S : SSt X.K m HE H0 ρ σ H) (hij : i ≠ j) (hj : ρ[j]? = some (some (.lst .own ds))) (hv : σ[j]? = some (some v)) : SSt X.K m HE H0 ((ρ.set j none).set i (some (.lst .own ds))) (σ.set i (some v)) H := by
  have hh := (S.slots j _ hj).choose_spec
  obtain ⟨v', hv', hold⟩ := S.slots j _ hj
  rw [hv] at hv'
  cases hv'
  have at_ : ∀ {k : Nat} {u : V}, k ≠ i → (σ.set i (some v))[k]? = some (some u) → σ[k]? = some (some u) := fun {k u} n e => by rwa [List.getElem?_set_ne (fun z => n z.symm)] at e
  have self : ∀ {u : V}, (σ.set i (some v))[i]? = some (some u) → u = v := fun {u} e => by
    have hi : i < σ.length := by
      have z := (List.getElem?_eq_some_iff.mp e).1
      rwa [List.length_set] at z
    rw [List.getElem?_set_self hi] at e
    exact (Option.some.inj (Option.some.inj e)).symm
  have old : ∀ {k : Nat} {c : Bd}, ((ρ.set j none).set i (some (.lst .own ds)))[k]? = some (some c) → (k = i ∧ c = .lst .own ds) ∨ (k ≠ i ∧ k ≠ j ∧ ρ[k]? = some (some c)) := fun {k c} e => by
    rcases set_at e with z | ⟨n, e⟩
    · exact .inl z
    · by_cases q : j = k
      · subst q
        rw [List.getElem?_set] at e
        simp only [if_true] at e
        split at e <;> cases e
      · rw [List.getElem?_set_ne q] at e
        exact .inr ⟨n, fun z => q z.symm, e⟩
  refine ⟨S.phi, S.ent, S.gr, S.fe, S.tb, by rw [List.length_set, List.length_set, List.length_set]; exact S.len, fun k c e => ?_, fun k k' c c' u n e1 e2 o1 o2 v1 v2 => ?_⟩
  · have e0 := e
    rcases old e with ⟨rfl, rfl⟩ | ⟨n1, n2, e⟩
    · refine ⟨v, ?_, hold⟩
      have hk : k < σ.length := by
        have z := (List.getElem?_eq_some_iff.mp e0).1
        rw [List.length_set, List.length_set] at z
        rw [← S.len]; exact z
      rw [List.getElem?_set_self hk]
    · obtain ⟨u, e1, h1⟩ := S.slots k c e
      exact ⟨u, by rw [List.getElem?_set_ne (fun z => n1 z.symm)]; exact e1, h1⟩
  · rcases old e1 with ⟨rfl, rfl⟩ | ⟨a1, a2, k1⟩
    · rcases old e2 with ⟨rfl, rfl⟩ | ⟨b1, b2, k2⟩
      · exact n rfl
      · rw [self v1] at v2
        exact S.apart j k' _ _ v (fun z => b2 z.symm) hj k2 rfl o2 hv (at_ b1 v2)
    · rcases old e2 with ⟨rfl, rfl⟩ | ⟨b1, b2, k2⟩
      · rw [self v2] at v1
        exact S.apart j k _ _ v (fun z => a2 z.symm) hj k1 rfl o1 hv (at_ a1 v1)
      · exact S.apart k k' c c' u n k1 k2 o1 o2 (at_ a1 v1) (at_ b1 v2)
/-- x = y, y an own list that is not used by its old name any more -/
theorem s1_move {i j : Nat} {x y : Str} {px py : Pos} (hij : i ≠ j) (hj : ρ[j]? = some (some (.lst .own ds))) (hN : X.N.Nodup) (hi : X.N[i]? = some x) (hjn : X.N[j]? = some y) (hx : Loc X.env.scope x) (hv : Vis X.env.scope y) (q : E.nx ((ρ.set j none).set i (some (.lst .own ds))))
    (hs : swapsWith (.Name y py) (some (.Name x px)) pos.line X.env = pure false := by rfl) (hf : X.fn x = true ∨ X.env.scope.names.lookup x = some .local := by first | exact .inl rfl | exact .inr rfl)
    (hd : (y == ("__debug__" : Str)) = false := by decide) (hcd : (y == ("__classdict__" : Str)) = false := by decide) : S1 X m ρ (.Assign [.Name x px] (.Name y py) pos) E := by
  intro σ H HE H0 S D d
  obtain ⟨v, hσ, _⟩ := S.slots j _ hj
  exact s1_of (ps_set hN hi hx (pe_var hjn hv hd hcd) hs hf) ⟨v, hσ, d.nx _ _ H (S.move hij hj hσ) q⟩
/-- for over an own list that is kept: in the body its name holds a value alone -/
theorem s1_forO {i : Nat} {x : Str} {px : Pos} {body : List Stmt} (hp : PassesOwn (model X.prog X.w) X.A X.env X.xe) (hc : X.calm = true) (hi : ρ[i]? = some (some (.lst .own ds))) (n0 : noFz ρ) (hN : X.N[i]? = some x) (hv : Vis X.env.scope x)
    (I : V → Nat → Ab → Prop) (h0 : ∀ u, I u 0 (ρ.set i (some (.val u)))) (nf : ∀ u ρ', I u ds.length ρ' → noFz ρ' ∧ ρ'[i]? = some (some (.val u)) ∧ E.nx (ρ'.set i (some (.lst .own ds))))
    (hs : ∀ u (n : Nat) d ρ', ds[n]? = some d → I u n ρ' → ∃ is ρ'', TGD X tg is d ρ' ρ'' ∧ SQ X m ρ'' body { nx := I u (n + 1), rt := E.rt, ct := I u (n + 1) })
    (hd : (x == ("__debug__" : Str)) = false := by decide) (hcd : (x == ("__classdict__" : Str)) = false := by decide) (hf : ∀ z, foldedSetIterable (.Name x px) X.env z = pure z := by intro _; rfl) : S1 X m ρ (.For tg (.Name x px) body [] pos) E := by
  intro σ H HE H0 S D d
  obtain ⟨v, hσ, l, vs, ev, h1, h2, h3⟩ := S.slots i _ hi
  let Hz : Hp := frzH (ρ.set i none) σ H
  have Sd : SSt X.K m HE H0 (ρ.set i none) σ H := S.drop
  have g0 : Gr m H0 Hz := frz_gr0 Sd
  have Sz := Sd.frz Gr.refl
  have hl : Hz l = some (.lst vs) := frz_some h1 fun j es hj ho hw => by
    have hne : j ≠ i := fun z => by
      subst z
      rw [List.getElem?_set] at hj
      simp only [if_true] at hj
      split at hj <;> cases hj
    rw [List.getElem?_set_ne (fun z => hne z.symm)] at hj
    exact S.apart i j _ _ v (fun z => hne z.symm) hi hj rfl ho hσ (by rw [hw, ev])
  have dvz : DVs X.K Hz vs ds := h2.keep (tk_frz Sd)
  have Sv : SSt X.K m HE Hz (ρ.set i (some (.val v))) σ H := by
    have z := Sz.putN (k := i) (b := .val v) (u := v) hσ rfl rfl
    rwa [List.set_set] at z
  refine s1_of (ps_for hp hc (pi_list (pe_var hN hv hd hcd)) (pg_gw X tg) (pss_sw X body) hf) ⟨v, hσ, l, ev, ⟨vs, .of h1⟩, ?_⟩
  refine for_core Sv (src_lst (.of hl) dvz) (h0 v) (hs v) (fun ρ' σ' H' S' q => ?_) d.rt
  obtain ⟨q1, q2, q3⟩ := nf v ρ' q
  obtain ⟨u, hu, eu⟩ := S'.slots i _ q2
  have eu : u = v := eu
  subst eu
  have S2 := S'.unfrz g0 S.ent q1
  have hl' : H' l = some (.lst vs) := S'.gr.lst S'.fe0 hl
  have tk : TK Hz H' := S'.gr.tk S'.fe0
  have S3 : SSt X.K m HE H0 (ρ'.set i (some (.lst .own ds))) σ' H' := by
    have own_ne : ∀ {j : Nat} {c : Bd}, j ≠ i → ρ'[j]? = some (some c) → c.own = true → σ'[j]? ≠ some (some u) := fun {j c} n e o z => by
      obtain ⟨p, o1, e1, _, hz, _⟩ := own_at S' e o z
      rw [ev] at e1
      cases e1
      rw [hl] at hz
      cases hz
    refine ⟨S2.phi, S2.ent, S2.gr, S2.fe, S2.tb, by rw [List.length_set]; exact S2.len, fun j c e => ?_, fun j j' c c' w n e1 e2 o1 o2 v1 v2 => ?_⟩
    · rcases set_at e with ⟨rfl, rfl⟩ | ⟨_, e⟩
      · exact ⟨u, hu, l, vs, ev, hl', dvz.keep tk, h3⟩
      · exact S2.slots j c e
    · rcases set_at e1 with ⟨rfl, rfl⟩ | ⟨n1, k1⟩
      · rw [hu] at v1
        cases v1
        rcases set_at e2 with ⟨rfl, rfl⟩ | ⟨n2, k2⟩
        · exact n rfl
        · exact own_ne n2 k2 o2 v2
      · rcases set_at e2 with ⟨rfl, rfl⟩ | ⟨n2, k2⟩
        · rw [hu] at v2
          cases v2
          exact own_ne n1 k1 o1 v1
        · exact S2.apart j j' c c' w n k1 k2 o1 o2 v1 v2
  exact d.nx _ _ _ S3 q3
/-! ### lists compared -/
theorem eqv_list (l l' : List α) : PyData.eqv (.list (l.map enc)) (.list (l'.map enc)) = decide (l = l') := by
  simp only [PyData.eqv, eqvAll_map]
theorem ed_eqLE {l l' : List α} {k : Nat} {o o' : LK} (r : Room k X.A) (h1 : EQ X m ρ a (· = .lst o (l.map enc))) (h2 : EQ X m ρ b (· = .lst o' (l'.map enc))) (hd : PyEnc.dep α ≤ 63 := by decide) : ED X m ρ (.Compare a [.Eq] [b] pos) (.bool (decide (l = l'))) := by
  rw [← eqv_list]
  exact ed_eqD (w := r) (EQ.asL h1) (EQ.asL h2) (shaped_list hd) (shaped_list hd)
theorem td_eqLE {l l' : List α} {k : Nat} {o o' : LK} (r : Room k X.A) (h1 : EQ X m ρ a (· = .lst o (l.map enc))) (h2 : EQ X m ρ b (· = .lst o' (l'.map enc))) (hd : PyEnc.dep α ≤ 63 := by decide) : TD X m ρ (.Compare a [.Eq] [b] pos) (decide (l = l')) :=
  td_cmp (ed_eqLE r h1 h2 hd) (nomark _) ⟨_, op_eqD r.units, twoD (r := rEqD X.K) (Q := (· = .dat (.bool (decide (l = l'))))) (EQ.asL h1) (EQ.asL h2) fun b1 b2 e1 e2 Ha Hb H u v _ r1 r2 Qv kk => ⟨.list (l.map enc), .list (l'.map enc), e1.dp r1, e2.dp r2, shaped_list hd, shaped_list hd, by
    rw [eqv_list]
    exact kk _ (.dat (.bool (decide (l = l')))) H Gr.refl (.bl _) rfl⟩⟩
theorem ed_neLE {l l' : List α} {k : Nat} {o o' : LK} (r : Room k X.A) (h1 : EQ X m ρ a (· = .lst o (l.map enc))) (h2 : EQ X m ρ b (· = .lst o' (l'.map enc))) (hd : PyEnc.dep α ≤ 63 := by decide) : ED X m ρ (.Compare a [.NotEq] [b] pos) (.bool (!decide (l = l'))) := by
  rw [← eqv_list]
  exact ed_neD (w := r) (EQ.asL h1) (EQ.asL h2) (shaped_list hd) (shaped_list hd)
theorem td_neLE {l l' : List α} {k : Nat} {o o' : LK} (r : Room k X.A) (h1 : EQ X m ρ a (· = .lst o (l.map enc))) (h2 : EQ X m ρ b (· = .lst o' (l'.map enc))) (hd : PyEnc.dep α ≤ 63 := by decide) : TD X m ρ (.Compare a [.NotEq] [b] pos) (!decide (l = l')) :=
  td_cmp (ed_neLE r h1 h2 hd) (nomark _) ⟨_, op_neD r.units, twoD (r := rNeD X.K) (Q := (· = .dat (.bool (!decide (l = l'))))) (EQ.asL h1) (EQ.asL h2) fun b1 b2 e1 e2 Ha Hb H u v _ r1 r2 Qv kk => ⟨.list (l.map enc), .list (l'.map enc), e1.dp r1, e2.dp r2, shaped_list hd, shaped_list hd, by
    rw [eqv_list]
    exact kk _ (.dat (.bool (!decide (l = l')))) H Gr.refl (.bl _) rfl⟩⟩
/-! ### sorted(set(..)) of numbers -/
theorem el_sset {l : List Nat} {k : Nat} {o : LK} (r : Room k X.A) (hc : X.calm = true) (hg : Gl X "sorted") (hm : X.mg "sorted" = none) (hg2 : Gl X "set") (hm2 : X.mg "set" = none) (h : EQ X m ρ a (· = .lst o (l.map enc))) (hl : l.length < 64)
    (na : starEach [a] X.env = (false, eval a X.env) :: starEach [] X.env := by rfl) (nb : starEach [.Call (.Name "set" q0) [a] [] p] X.env = (false, eval (.Call (.Name "set" q0) [a] [] p) X.env) :: starEach [] X.env := by rfl) {p3 : Pos} :
    EL X m ρ (.Call (.Name "sorted" p3) [.Call (.Name "set" q0) [a] [] p] [] pos) ((asSet l).map enc) :=
  (eq_ssetI (ns := zi l) r hc hg hm hg2 hm2 (h.mono fun b e => by subst e; exact nat_ints l) (by rw [List.length_map]; exact hl) na nb).mono fun b ⟨ms, e, h1, h2⟩ => by rw [e, ints_nat h1 h2]
/-- range(i, j) -/
theorem itl_rg2 {i n : Nat} (hg : Gl X "range") (hm : X.mg "range" = none) (h : ED X m ρ a (enc i)) (h2 : ED X m ρ b (enc (i + n))) (hn : i + n ≤ 1000) (hs : starEach [a, b] X.env = [(false, eval a X.env), (false, eval b X.env)] := by rfl) (hs2 : starEach [b] X.env = [(false, eval b X.env)] := by rfl) :
    ITL X m ρ tg (.Call (.Name "range" p) [a, b] [] pos) (((List.range n).map fun k => i + k).map enc) :=
  ⟨_, pi_range2 hg hm (pa_cons (pe_ew X a) (pa_cons (pe_ew X b) pa_nil (by rw [hs2]; rfl)) (by rw [hs, hs2])) hs hs2, fun σ H HE H0 S R k => ew_then h S fun v b H1 g1 S1 r1 e1 => ew_then h2 S1 fun u b2 H2 g2 S2 r2 e2 => by
    subst e1
    subst e2
    have e : ((List.range n).map fun k => i + k).map (enc : Nat → PyData) = (List.range n).map fun k => PyData.int ((i : Int) + (k : Nat)) := by
      rw [List.map_map]
      exact List.map_congr_left fun k _ => by
        show PyData.int ((i + k : Nat) : Int) = _
        rw [Int.natCast_add]
    refine ⟨(i : Int), ((i + n : Nat) : Int), by rw [DV.int_eq r1, DV.int_eq r2], ⟨by omega, by omega, by omega, by omega⟩, ?_⟩
    rw [e] at k
    have z := src_range (K := X.K) (H := frzH ρ σ H2) (lo := (i : Int)) (n := n)
    have z2 := k _ H2 (g1.trans g2) z
    rw [show (((i + n : Nat) : Int) - (i : Int)).toNat = n by omega]
    exact z2⟩
end
end W97
end
section
set_option Elab.async false
set_option linter.all false
set_option maxRecDepth 100000
set_option maxHeartbeats 4000000
namespace W97
open PySem PySem.Spec PyProof.Rows L2 PyEnc
def idxF {κ : Type} [DecidableEq κ] (l : List κ) (k : κ) : Nat := (firsts l).idxOf k
theorem marksOf_map {κ : Type} [DecidableEq κ] (l : List κ) : marksOf l = l.map (idxF l) := rfl
theorem bes_alt (one other : Mc) : bes one other = one ++ other.map fun r => r.map fun p => (p.1 + one.length, p.2) := by
  unfold bes
  congr 1
  refine List.map_congr_left fun r _ => List.map_congr_left fun p _ => ?_
  rw [Nat.add_comm]
section
variable {P : Program} {w : World} {K : PySem.W.Frag} {mg : Str → Option Value} {base : Heap}
theorem sc_joined : FnScope ["_law_near", "_law_far", "_law_found", "_law_pairs", "_law_late", "_law_told"] ["_law_near", "_law_far"] (defScope (topS 84)) := ⟨rfl, rfl, rfl, by decide +kernel, rfl, by decide +kernel, by decide +kernel⟩
def Fjoined : List PyData → PyData → Prop := fun ds d => ∃ (one other : Mc) (wd : Nat), Ok one wd ∧ Ok other wd ∧ one.length ≤ 500 ∧ other.length ≤ 500 ∧ wd ≤ 1000 ∧ ds = [enc one, enc other] ∧ d = enc (bes one other)
theorem f_joined (E : En K mg) : Fn P w K mg base "_law_joined" 1 ["_law_near", "_law_far"] none false (Fdd Fjoined) := by
  refine mkFn E 60 sc_joined (by decide) (fun bs R h => by obtain ⟨_, _, rfl, ⟨_, _, _, _, _, _, _, _, rfl, _⟩, _⟩ := h; rfl) (fun _ _ _ _ _ _ us hl => match us, hl with | [_, _], _ => rfl) fun f cdv A outer s H X fa ca bs R hr hf h => ?_
  obtain ⟨_, _, rfl, ⟨one, other, wd, k1, k2, l1, l2, lw, rfl, rfl⟩, rfl⟩ := h
  refine sq_cons (s1_setB (i := 2) (bd := .lst .own (one.map enc)) sc_joined.nd rfl (.inl rfl) (el_list rfl E.list_ (EQ.items (ds := one.map enc) (v 0))) ?_)
  refine sq_cons (s1_for PassesOwn.never rfl (itl_tup (ds := other.map enc) (v 1)) (fun i ρ' => ρ' = [some (.dat (enc one)), some (.dat (enc other)), some (.lst .own ((one ++ (other.take i).map fun r => r.map fun p => (p.1 + one.length, p.2)).map enc)), none, none, none]) (by rw [List.take_zero, List.map_nil, List.append_nil]; rfl) ?_ ?_ ?_)
  · rintro ρ' rfl; rfl
  · rintro i d ρ' hd rfl
    obtain ⟨r, hrr, rfl⟩ := take_map hd
    have hwr := k2.wide r (List.mem_of_getElem? hrr)
    refine ⟨[3], _, t1 3 sc_joined.nd, sq_cons (s1_append (i := 2) rfl rfl (.inl rfl) (EQ.mono (Q := (· = .dat (enc (r.map fun p => (p.1 + one.length, p.2))))) (ed_tuple rfl E.tuple_ (EQ.itemsL (o := .own) ?lc)) fun b e => ⟨_, e, sq_nilF [3] ?_⟩) ?_)⟩
    case lc =>
      exact el_mapE (l := r) (g := fun p => (p.1 + one.length, p.2)) [("_law_late", 4), ("_law_told", 5)] rfl sc_joined.nd (itc_tup (ds := r.map enc) (v 3)) (blkOk_by (by kernel_rfl)) (by rw [hwr]; omega) fun p hp =>
        ⟨[4, 5], _, by decide, fun _ _ _ _ _ => t2 4 5 rfl sc_joined.nd, fun _ _ _ _ _ => prE (addE (v 4) (lenE rfl E.len_ (v 0))) (v 5)⟩
    · show _ = _
      rw [take_next hrr]
      simp only [List.map_append, List.append_assoc]
      rfl
    · rw [List.length_map, List.length_append, List.length_map, List.length_take, sizeLine_eq]
      omega
  · rintro ρ' rfl
    rw [List.length_map, List.take_length, ← bes_alt]
    exact sq_cons (s1_retD (d := enc (bes one other)) (ed_tuple rfl E.tuple_ (EQ.itemsL (vl 2))) rfl)
theorem sc_called : FnScope ["_law_base", "_law_names_here", "_law_found", "_law_s", "_law_late", "_law_told"] ["_law_base", "_law_names_here"] (defScope (topS 83)) := ⟨rfl, rfl, rfl, by decide +kernel, rfl, by decide +kernel, by decide +kernel⟩
def Fcalled (K : PySem.W.Frag) : List Bd → (Bd → Prop) → Prop := fun bs R => ∃ (m : Mc) (wd : Nat) (o : List Nat), Ok m wd ∧ wd ≤ 1000 ∧ o.length ≤ 1000 ∧ (∀ s ∈ o, s < m.length) ∧ (∀ s, s < m.length → s ∈ o) ∧ bs = [.dat (enc m), .ft K (o.map enc)] ∧ R = (· = .dat (enc (partBy m o)))
theorem f_called (E : En K mg) : Fn P w K mg base "_law_called" 1 ["_law_base", "_law_names_here"] none false (Fcalled K) := by
  refine mkFn E 59 sc_called (by decide) (fun bs R h => by obtain ⟨_, _, _, _, _, _, _, _, rfl, _⟩ := h; rfl) (fun _ _ _ _ _ _ us hl => match us, hl with | [_, _], _ => rfl) fun f cdv A outer s H X fa ca bs R hr hf h => ?_
  obtain ⟨m, wd, o, k, lw, lo, ho, ha, rfl, rfl⟩ := h
  refine sq_cons (s1_setB (i := 2) (bd := .lst .own []) sc_called.nd rfl (.inl rfl) (el_lst ad_nil (Nat.zero_le _)) ?_)
  refine sq_cons (s1_for PassesOwn.never rfl (itl_tup (ds := o.map enc) (ed_ft (vp 1))) (fun i ρ' => ρ' = [some (.dat (enc m)), some (.ft K (o.map enc)), some (.lst .own (((o.take i).map fun t => (st m t).map fun p => (o.idxOf p.1, p.2)).map enc)), none, none, none]) rfl ?_ ?_ ?_)
  · rintro ρ' rfl; rfl
  · rintro i d ρ' hd rfl
    obtain ⟨t, ht, rfl⟩ := take_map hd
    have htl := ho t (List.mem_of_getElem? ht)
    refine ⟨[3], _, t1 3 sc_called.nd, sq_cons (s1_append (i := 2) rfl rfl (.inl rfl) (EQ.mono (Q := (· = .dat (enc ((st m t).map fun p => (o.idxOf p.1, p.2))))) (ed_tuple rfl E.tuple_ (EQ.itemsL (o := .own) ?lc)) fun b e => ⟨_, e, sq_nilF [3] ?_⟩) ?_)⟩
    case lc =>
      exact el_mapE (l := st m t) (g := fun p => (o.idxOf p.1, p.2)) [("_law_late", 4), ("_law_told", 5)] rfl sc_called.nd (itc_tup (ds := (st m t).map enc) (ixE (v 0) (v 3) (st_at htl))) (blkOk_by (by kernel_rfl)) (by rw [k.wst htl]; omega) fun p hp =>
        ⟨[4, 5], _, by decide, fun _ _ _ _ _ => t2 4 5 rfl sc_called.nd, fun _ _ _ _ _ => prE (ed_tupIx (l := o) (vp 1) (v 4) (ha _ (k.lt _ (st_mem htl) p hp))) (v 5)⟩
    · show _ = _
      rw [take_next ht, List.map_append, List.map_append (f := enc)]; rfl
    · rw [List.length_map, List.length_map, List.length_take, sizeLine_eq]
      omega
  · rintro ρ' rfl
    rw [List.length_map, List.take_length]
    exact sq_cons (s1_retD (d := enc (partBy m o)) (ed_tuple rfl E.tuple_ (EQ.itemsL (vl 2))) rfl)
theorem sc_labels : FnScope ["_law_base", "_law_labels_here", "_law_lap", "_law_keys", "_law_s", "_law_firsts", "_law_key", "_law_pairs", "_law_late", "_law_told"] ["_law_base"] (defScope (topS 86)) := ⟨rfl, rfl, rfl, by decide +kernel, rfl, by decide +kernel, by decide +kernel⟩
def Flabels : List Bd → (Bd → Prop) → Prop := fun bs R => ∃ (m : Mc) (wd : Nat), Ok m wd ∧ m.length ≤ 900 ∧ wd ≤ 1000 ∧ bs = [.dat (enc m)] ∧ R = (· = .lst .own ((cls m).map enc))
theorem f_labels (E : En K mg) : Fn P w K mg base "_law_labels" 1 ["_law_base"] none false Flabels := by
  refine mkFn E 62 sc_labels (by decide) (fun bs R h => by obtain ⟨_, _, _, _, _, rfl, _⟩ := h; rfl) (fun _ _ _ _ _ _ us hl => match us, hl with | [_], _ => rfl) fun f cdv A outer s H X fa ca bs R hr hf h => ?_
  obtain ⟨m, wd, k, lm, lw, rfl, rfl⟩ := h
  refine sq_cons (s1_setB (i := 1) (bd := .lst .own ((labels m 0).map enc)) sc_labels.nd rfl (.inr rfl) (el_mapE (l := m) (g := fun _ => 0) [("_law_pairs", 7)] rfl sc_labels.nd (itc_tup (ds := m.map enc) (v 0)) (blkOk_by (by kernel_rfl)) (by omega) fun st hst =>
    ⟨[7], _, by decide, fun _ _ _ _ _ => t1 7 sc_labels.nd, fun _ _ _ _ _ => ed_int⟩) ?_)
  refine sq_cons (s1_for PassesOwn.never rfl (itl_rg1 (n := m.length + 1) rfl E.range_ (addE (i := m.length) (j := 1) (lenE rfl E.len_ (v 0)) ed_int) (by omega)) (fun i ρ' => ρ' = [some (.dat (enc m)), some (.lst .own ((labels m i).map enc)), none, none, none, none, none, none, none, none]) rfl ?_ ?_ ?_)
  · rintro ρ' rfl; rfl
  · rintro i d ρ' hd rfl
    have hLl := labels_len m i
    have hnx : labels m (i + 1) = marksOf (keysL m (labels m i)) := rfl
    generalize labels m i = L at hLl hnx
    have hkl : (keysL m L).length = m.length := by unfold keysL; rw [List.length_map, List.length_range]
    have hka : ∀ j, j < m.length → (keysL m L)[j]? = some (L.getD j 0, (st m j).map fun p => (L.getD p.1 0, p.2)) := fun j hj => by
      unfold keysL
      rw [List.getElem?_map, List.getElem?_range hj]; rfl
    obtain ⟨x, hx, rfl⟩ := take_map hd
    refine ⟨[2], _, t1 2 sc_labels.nd, sq_cons (s1_setB (i := 3) (bd := .lst .own []) sc_labels.nd rfl (.inl rfl) (el_lst ad_nil (Nat.zero_le _)) ?_)⟩
    refine sq_cons (s1_for PassesOwn.never rfl (itl_rg1 (n := m.length) rfl E.range_ (lenE rfl E.len_ (v 0)) (by omega)) (fun j ρ' => ρ' = [some (.dat (enc m)), some (.lst .own (L.map enc)), some (.dat (enc x)), some (.lst .own (((keysL m L).take j).map enc)), none, none, none, none, none, none]) rfl ?_ ?_ ?_)
    · rintro ρ' rfl; rfl
    · rintro j d ρ' hd2 rfl
      obtain ⟨y, hy, rfl⟩ := take_map hd2
      obtain ⟨hyl, hyi⟩ := List.getElem?_eq_some_iff.mp hy
      rw [List.getElem_range] at hyi
      rw [List.length_range] at hyl
      subst hyi
      refine ⟨[4], _, t1 4 sc_labels.nd, sq_cons (s1_append (i := 3) rfl rfl (.inl rfl) (EQ.mono (Q := (· = .dat (enc ((L.getD j 0, (st m j).map fun p => (L.getD p.1 0, p.2)) : Nat × List (Nat × Nat))))) (prE (x := L.getD j 0) (y := (st m j).map fun p => (L.getD p.1 0, p.2)) (ixL (l := L) (vl 1) (v 4) (getD_at (by omega))) ?lc) fun b e => ⟨_, e, sq_nilF [4] ?_⟩) ?_)⟩
      case lc =>
        refine ed_tuple rfl E.tuple_ (EQ.itemsL (o := .own) ?_)
        exact el_mapE (l := st m j) (g := fun p => (L.getD p.1 0, p.2)) [("_law_late", 8), ("_law_told", 9)] rfl sc_labels.nd (itc_tup (ds := (st m j).map enc) (ixE (v 0) (v 4) (st_at hyl))) (blkOk_by (by kernel_rfl)) (by rw [k.wst hyl]; omega) fun p hp =>
          ⟨[8, 9], _, by decide, fun _ _ _ _ _ => t2 8 9 rfl sc_labels.nd, fun _ _ _ _ _ => prE (ixL (l := L) (vl 1) (v 8) (getD_at (by have := k.lt _ (st_mem hyl) p hp; omega))) (v 9)⟩
      · show _ = _
        rw [take_next (hka j hyl), List.map_append]; rfl
      · rw [List.length_map, List.length_take, sizeLine_eq]
        omega
    · rintro ρ' rfl
      rw [List.length_map, List.length_range, List.take_of_length_le (Nat.le_of_eq hkl)]
      generalize hK : keysL m L = Ks at hkl hnx
      refine sq_cons (s1_setB (i := 5) (bd := .lst .own []) sc_labels.nd rfl (.inr rfl) (el_lst ad_nil (Nat.zero_le _)) ?_)
      refine sq_cons (s1_forO (i := 3) PassesOwn.never rfl rfl rfl rfl (.inl rfl) (fun u j ρ' => ρ' = [some (.dat (enc m)), some (.lst .own (L.map enc)), some (.dat (enc x)), some (.val u), none, some (.lst .own ((firsts (Ks.take j)).map enc)), none, none, none, none]) (fun u => rfl) ?nf ?step)
      case step =>
        rintro u j d ρ' hd2 rfl
        obtain ⟨y, hy, rfl⟩ := take_map hd2
        have hfl : (firsts (Ks.take j)).length ≤ 1000 := Nat.le_trans (firsts_len _) (by rw [List.length_take]; omega)
        refine ⟨[6], _, t1 6 sc_labels.nd, sq_cons (s1_if (td_niLE hr (v 6) (vl 5)) (fun hc => ?_) fun hc => ?_)⟩
        · have hn : y ∉ firsts (Ks.take j) := by simpa using hc
          refine sq_cons (s1_append (i := 5) rfl rfl (.inr (.inl rfl)) ((v 6).mono fun b e => ⟨_, e, sq_nil (sq_nilF [6] ?_)⟩) (by rw [List.length_map, sizeLine_eq]; omega))
          show _ = _
          rw [take_next hy, firsts_snoc, putK_new hn, List.map_append]; rfl
        · have hn : y ∈ firsts (Ks.take j) := by simpa using hc
          refine sq_nil (sq_nilF [6] ?_)
          show _ = _
          rw [take_next hy, firsts_snoc, putK_same hn]; rfl
      case nf =>
        rintro u ρ' rfl
        refine ⟨rfl, rfl, ?_⟩
        rw [List.length_map, List.take_length]
        refine sq_cons (s1_setB (i := 1) (bd := .lst .own ((labels m (i + 1)).map enc)) sc_labels.nd rfl (.inr rfl) ?_ (sq_nilF [2, 3, 5] rfl))
        rw [hnx]
        rw [marksOf_map]
        exact el_mapE (l := Ks) (g := idxF Ks) [("_law_key", 6)] rfl sc_labels.nd (itc_lst (vl 3)) (blkOk_by (by kernel_rfl)) (by omega) fun y hy =>
          ⟨[6], _, by decide, fun _ _ _ _ _ => t1 6 sc_labels.nd, fun _ _ _ _ _ => ed_lstIx hr (vl 5) (v 6) (mem_firsts.mpr hy)⟩
  · rintro ρ' rfl
    rw [List.length_map, List.length_range]
    exact sq_cons (s1_retOwn (i := 1) rfl rfl (.inr (.inl rfl)) rfl)
end
end W97
end
section
set_option Elab.async false
set_option linter.all false
set_option maxRecDepth 100000
set_option maxHeartbeats 4000000
namespace W97
open PySem PySem.Spec PyProof.Rows L2 PyEnc
section
variable {X : Cx} {m : Mo} {ρ : Ab} {a b : Expr} {pos : Pos} {α : Type} [DecidableEq α] [PyEnc α]
theorem slLE {l : List α} {n : Nat} {p2 : Pos} {o : LK} (h1 : EQ X m ρ a (· = .lst o (l.map enc))) (h2 : ED X m ρ b (enc n)) : EL X m ρ (.Subscript a (.Slice (some b) none none p2) pos) ((l.drop n).map enc) := by
  rw [List.map_drop]
  exact el_slL h1 h2
end
/-- all rows of so many letters -/
def rowsM (w : Nat) : Nat → List Row
  | 0 => [[]]
  | n + 1 => (rowsM w n).flatMap fun r => (List.range w).map fun x => r ++ [x]
theorem rowsM_len (w : Nat) : ∀ n, (rowsM w n).length = w ^ n
  | 0 => rfl
  | n + 1 => by
    have key : ∀ L : List Row, (L.flatMap fun r => (List.range w).map fun x => r ++ [x]).length = L.length * w := by
      intro L
      induction L with
      | nil => exact (Nat.zero_mul _).symm
      | cons r L ih => rw [List.flatMap_cons, List.length_append, List.length_map, List.length_range, ih, List.length_cons, Nat.succ_mul, Nat.add_comm]
    show ((rowsM w n).flatMap fun r => (List.range w).map fun x => r ++ [x]).length = _
    rw [key, rowsM_len w n, Nat.pow_succ]
theorem rowsM_mem {w : Nat} : ∀ {n : Nat} {r : Row}, r ∈ rowsM w n → r.length = n ∧ Let w r
  | 0, r, h => by
    have e : r = [] := List.mem_singleton.mp h
    subst e
    exact ⟨rfl, Let.nil⟩
  | n + 1, r, h => by
    obtain ⟨q, hq, h⟩ := List.mem_flatMap.mp (show r ∈ (rowsM w n).flatMap fun r => (List.range w).map fun x => r ++ [x] from h)
    obtain ⟨x, hx, rfl⟩ := List.mem_map.mp h
    obtain ⟨h1, h2⟩ := rowsM_mem hq
    exact ⟨by rw [List.length_append, h1]; rfl, h2.app (Let.nil.cons (List.mem_range.mp hx))⟩
section
variable {P : Program} {w : World} {K : PySem.W.Frag} {mg : Str → Option Value} {base : Heap}
theorem sc_good : FnScope ["_law_near", "_law_far", "_law_labels_here", "_law_s"] ["_law_near", "_law_far"] (defScope (topS 87)) := ⟨rfl, rfl, rfl, by decide +kernel, rfl, by decide +kernel, by decide +kernel⟩
def Fgood : List Bd → (Bd → Prop) → Prop := fun bs R => ∃ (one other : Mc) (wd : Nat), P5 one other wd ∧ bs = [.dat (enc one), .dat (enc other)] ∧ R = (· = .lst .own ((good one other).map enc))
theorem f_good (E : En K mg) : Fn P w K mg base "_law_good" 2 ["_law_near", "_law_far"] none false Fgood := by
  refine mkFn E 63 sc_good (by decide) (fun bs R h => by obtain ⟨_, _, _, _, rfl, _⟩ := h; rfl) (fun _ _ _ _ _ _ us hl => match us, hl with | [_, _], _ => rfl) fun f cdv A outer s H X fa ca bs R hr hf h => ?_
  obtain ⟨one, other, wd, T, rfl, rfl⟩ := h
  have l1 := T.l1
  have l2 := T.l2
  have lw := T.lw
  have lb : (bes one other).length = one.length + other.length := by
    unfold bes
    rw [List.length_append, List.length_map]
  have lc : (cls (bes one other)).length = one.length + other.length := by
    rw [cls_len, lb]
  refine sq_cons (s1_setB (i := 2) (bd := .lst .own ((cls (bes one other)).map enc)) sc_good.nd rfl (.inr rfl) (eq_callM (f_labels E) (hr.mono (by decide)) rfl rfl (ed_call (f_joined E) (hr.mono (by decide)) rfl rfl (ad_cons (v 0) (ad_cons (v 1) ad_nil)) ⟨one, other, wd, T.k1, T.k2, by omega, by omega, by omega, rfl, rfl⟩) ⟨bes one other, wd, bes_ok T.k1 T.k2, by omega, by omega, rfl, rfl⟩) ?_)
  refine sq_cons (s1_ret (EQ.mono (Q := (· = .lst .own ((((List.range one.length).filter fun s => decide ((cls (bes one other)).getD s 0 ∈ (cls (bes one other)).drop one.length)).map fun s => s).map enc))) ?_ fun b e => ?_))
  · refine el_filE [("_law_s", 3)] rfl sc_good.nd ?it (blkOk_by (by kernel_rfl)) (by rw [List.length_range]; omega) fun s hs => ⟨[3], _, by decide, fun _ _ _ _ _ => t1 3 sc_good.nd, fun _ _ _ _ _ => ?_, fun _ _ _ _ _ _ => v 3⟩
    case it => exact itc_rg1 rfl E.range_ (lenE rfl E.len_ (v 0)) (by omega)
    exact td_inLE hr (ixL (l := cls (bes one other)) (vl 2) (v 3) (getD_at (by rw [lc]; have := List.mem_range.mp hs; omega))) (slLE (l := cls (bes one other)) (vl 2) (lenE rfl E.len_ (v 0)))
  · rw [List.map_id'] at e
    exact e
theorem sc_comes : FnScope ["_law_near", "_law_row", "_law_found", "_law_x", "_law_s"] ["_law_near", "_law_row"] (defScope (topS 93)) := ⟨rfl, rfl, rfl, by decide +kernel, rfl, by decide +kernel, by decide +kernel⟩
def Fcomes : List Bd → (Bd → Prop) → Prop := fun bs R => ∃ (m : Mc) (wd : Nat) (r : Row), Ok m wd ∧ m.length ≤ 60 ∧ Let wd r ∧ bs = [.dat (enc m), .dat (enc r)] ∧ R = (· = .lst .own ((runS m (List.range m.length) r).map enc))
theorem f_comes (E : En K mg) : Fn P w K mg base "_law_comes" 1 ["_law_near", "_law_row"] none false Fcomes := by
  refine mkFn E 69 sc_comes (by decide) (fun bs R h => by obtain ⟨_, _, _, _, _, _, rfl, _⟩ := h; rfl) (fun _ _ _ _ _ _ us hl => match us, hl with | [_, _], _ => rfl) fun f cdv A outer s H X fa ca bs R hr hf h => ?_
  obtain ⟨m, wd, r, k, lm, hr0, rfl, rfl⟩ := h
  refine sq_cons (s1_setB (i := 2) (bd := .lst .own ((List.range m.length).map enc)) sc_comes.nd rfl (.inl rfl) (el_listRg rfl rfl E.list_ rfl E.range_ (lenE rfl E.len_ (v 0)) (by omega)) ?_)
  refine sq_cons (s1_for PassesOwn.never rfl (itl_tup (ds := r.map enc) (v 1)) (fun i ρ' => ρ' = [some (.dat (enc m)), some (.dat (enc r)), some (.lst .own ((runS m (List.range m.length) (r.take i)).map enc)), none, none]) rfl ?_ ?_ ?_)
  · rintro ρ' rfl; rfl
  · rintro i d ρ' hd rfl
    obtain ⟨x, hx, rfl⟩ := take_map hd
    have hxw := hr0 x (List.mem_of_getElem? hx)
    obtain ⟨hlt, hll⟩ := runS_set k (r := r.take i) fun y hy => hr0 y (List.mem_of_mem_take hy)
    have hnx : runS m (List.range m.length) (r.take (i + 1)) = asSet ((runS m (List.range m.length) (r.take i)).map fun s => nx m s x) := by
      rw [take_next hx, runS_app]; rfl
    generalize runS m (List.range m.length) (r.take i) = S at hlt hll hnx
    refine ⟨[3], _, t1 3 sc_comes.nd, sq_cons (s1_setB (i := 2) (bd := .lst .own ((asSet (S.map fun s => nx m s x)).map enc)) sc_comes.nd rfl (.inl rfl) ?_ (sq_nilF [3] (by
      show _ = _
      rw [hnx]; rfl)))⟩
    refine el_sset (o := .own) hr rfl rfl E.sorted_ rfl E.set_ ?_ (by rw [List.length_map]; omega)
    exact el_mapE (l := S) (g := fun s => nx m s x) [("_law_s", 4)] rfl sc_comes.nd (itc_lst (vl 2)) (blkOk_by (by kernel_rfl)) (by omega) fun s hs =>
      ⟨[4], _, by decide, fun _ _ _ _ _ => t1 4 sc_comes.nd, fun _ _ _ _ _ => fstE (x := cell m s x) (ixE (ixE (v 0) (v 4) (st_at (hlt s hs))) (v 3) (k.cell_at (hlt s hs) hxw)) ed_int⟩
  · rintro ρ' rfl
    rw [List.length_map, List.take_length]
    exact sq_cons (s1_retOwn (i := 2) rfl rfl (.inl rfl) rfl)
theorem sc_rows : FnScope ["_law_wide", "_law_many", "_law_found", "_law_lap", "_law_late", "_law_row", "_law_x"] ["_law_wide", "_law_many"] (defScope (topS 94)) := ⟨rfl, rfl, rfl, by decide +kernel, rfl, by decide +kernel, by decide +kernel⟩
def Frows : List Bd → (Bd → Prop) → Prop := fun bs R => ∃ (wd n : Nat), wd ≤ 4 ∧ n ≤ 3 ∧ bs = [.dat (enc wd), .dat (enc n)] ∧ R = (· = .lst .own ((rowsM wd n).map enc))
theorem rowsM_few {wd n i : Nat} (h : wd ≤ 4) (h2 : n ≤ 3) (hi : i ≤ n) : (rowsM wd i).length ≤ 64 := by
  rw [rowsM_len]
  refine Nat.le_trans (Nat.pow_le_pow_left h i) (Nat.le_trans (Nat.pow_le_pow_right (by decide) (Nat.le_trans hi h2)) (by decide))
theorem f_rows (E : En K mg) : Fn P w K mg base "_law_rows" 1 ["_law_wide", "_law_many"] none false Frows := by
  refine mkFn E 70 sc_rows (by decide) (fun bs R h => by obtain ⟨_, _, _, _, rfl, _⟩ := h; rfl) (fun _ _ _ _ _ _ us hl => match us, hl with | [_, _], _ => rfl) fun f cdv A outer s H X fa ca bs R hr hf h => ?_
  obtain ⟨wd, n, lw, ln, rfl, rfl⟩ := h
  have one1 : (1 : Nat) ≤ sizeLine := by rw [sizeLine_eq]; decide
  refine sq_cons (s1_setB (i := 2) (bd := .lst .own ((rowsM wd 0).map enc)) sc_rows.nd rfl (.inl rfl) (el_lst (ds := [enc ([] : Row)]) (ad_cons (ed_tup ad_nil (Nat.zero_le _)) ad_nil) one1) ?_)
  refine sq_cons (s1_for PassesOwn.never rfl (itl_rg1 (n := n) rfl E.range_ (v 1) (by omega)) (fun i ρ' => ρ' = [some (.dat (enc wd)), some (.dat (enc n)), some (.lst .own ((rowsM wd i).map enc)), none, none, none, none]) rfl ?_ ?_ ?_)
  · rintro ρ' rfl; rfl
  · rintro i d ρ' hd rfl
    obtain ⟨x, hx, rfl⟩ := take_map hd
    obtain ⟨hxl, hxi⟩ := List.getElem?_eq_some_iff.mp hx
    rw [List.length_range] at hxl
    have few := rowsM_few lw ln (Nat.le_of_lt hxl)
    have few2 := rowsM_few lw ln hxl
    have hnx : rowsM wd (i + 1) = (rowsM wd i).flatMap fun r => (List.range wd).map fun x => r ++ [x] := rfl
    have hmem : ∀ r ∈ rowsM wd i, r.length = i := fun r hr => (rowsM_mem hr).1
    generalize rowsM wd i = L at few hnx hmem
    refine ⟨[3], _, t1 3 sc_rows.nd, sq_cons (s1_setB (i := 4) (bd := .lst .own []) sc_rows.nd rfl (.inl rfl) (el_lst ad_nil (Nat.zero_le _)) ?_)⟩
    refine sq_cons (s1_for PassesOwn.never rfl (itl_lst (el_list rfl E.list_ (EQ.itemsL (o := .par) (vl 2)))) (fun j ρ' => ρ' = [some (.dat (enc wd)), some (.dat (enc n)), some (.lst .own (L.map enc)), some (.dat (enc x)), some (.lst .own (((L.take j).flatMap fun r => (List.range wd).map fun x => r ++ [x]).map enc)), none, none]) rfl ?_ ?_ ?_)
    · rintro ρ' rfl; rfl
    · rintro j d ρ' hd2 rfl
      obtain ⟨r, hrr, rfl⟩ := take_map hd2
      have hrl := hmem r (List.mem_of_getElem? hrr)
      refine ⟨[5], _, t1 5 sc_rows.nd, sq_cons (s1_extend (i := 4) (es' := ((List.range wd).map fun x => r ++ [x]).map enc) rfl rfl (.inl rfl) ?lc (sq_nilF [5] ?_) ?_)⟩
      case lc =>
        refine el_mapE (l := List.range wd) (g := fun x => r ++ [x]) [("_law_x", 6)] rfl sc_rows.nd ?it (blkOk_by (by kernel_rfl)) (by rw [List.length_range]; omega) fun y hy =>
          ⟨[6], _, by decide, fun _ _ _ _ _ => t1 6 sc_rows.nd, fun _ _ _ _ _ => ?_⟩
        case it => exact itc_rg1 rfl E.range_ (v 0) (by omega)
        have hcat : enc (r ++ [y]) = .tuple (r.map enc ++ [enc y]) := by
          show PyData.tuple ((r ++ [y]).map enc) = _
          rw [List.map_append]; rfl
        rw [hcat]
        exact ed_catT (ds := r.map enc) (es' := [enc y]) (v 5) (ed_tup (ad_cons (v 6) ad_nil) one1) (by rw [List.length_map, sizeLine_eq]; show r.length + 1 ≤ _; omega)
      · show _ = _
        rw [take_next hrr, List.flatMap_append, List.map_append]
        simp only [List.flatMap_cons, List.flatMap_nil, List.append_nil]
        rfl
      · have z : ((L.take j).flatMap fun r => (List.range wd).map fun x => r ++ [x]).length = (L.take j).length * wd := by
          generalize L.take j = M
          induction M with
          | nil => exact (Nat.zero_mul _).symm
          | cons r M ih => rw [List.flatMap_cons, List.length_append, List.length_map, List.length_range, ih, List.length_cons, Nat.succ_mul, Nat.add_comm]
        have z2 : (L.take j).length ≤ 64 := Nat.le_trans (List.length_take_le' _ _) few
        have z3 : (L.take j).length * wd ≤ 64 * 4 := Nat.mul_le_mul z2 lw
        rw [List.length_map, z, List.length_map, List.length_map, List.length_range, sizeLine_eq]
        omega
    · rintro ρ' rfl
      rw [List.length_map, List.take_length, ← hnx]
      exact sq_cons (s1_move (i := 2) (j := 4) (by decide) rfl sc_rows.nd rfl rfl (.inl rfl) (.inl rfl) (sq_nilF [3] rfl))
  · rintro ρ' rfl
    rw [List.length_map, List.length_range]
    exact sq_cons (s1_retOwn (i := 2) rfl rfl (.inl rfl) rfl)
end
end W97
end
section
set_option Elab.async false
set_option linter.all false
set_option maxRecDepth 100000
set_option maxHeartbeats 4000000
namespace W97
open PySem PySem.Spec PyProof.Rows L2 PyEnc
/-- what the law's search keeps: each state's row -/
def kD (L : List (Row × List Nat)) : List (PyData × PyData) := L.map fun p => (enc p.2, enc p.1)
theorem kD_in {L : List (Row × List Nat)} {S : List Nat} : memB (L.map (·.2)) S = true ↔ enc S ∈ (kD L).map (·.1) := by
  unfold kD
  rw [memB_iff, List.map_map, List.mem_map, List.mem_map]
  exact ⟨fun ⟨p, h, e⟩ => ⟨p, h, by rw [← e]; rfl⟩, fun ⟨p, h, e⟩ => ⟨p, h, enc_inj e⟩⟩
theorem kD_tup (L : List (Row × List Nat)) : TupKeys (kD L) := fun kv h => by
  obtain ⟨p, _, rfl⟩ := List.mem_map.mp h
  exact ⟨_, rfl⟩
theorem kD_snoc (L : List (Row × List Nat)) (p : Row × List Nat) : kD L ++ [(enc p.2, enc p.1)] = kD (L ++ [p]) := by
  unfold kD
  rw [List.map_append]; rfl
theorem allGood_nil {one other : Mc} {S : List Nat} : decide ((S.filter fun s => !memB (good one other) s) = []) = allGood one other S := by
  rw [Bool.eq_iff_iff, decide_eq_true_eq, List.filter_eq_nil_iff]
  unfold allGood
  rw [List.all_eq_true]
  constructor
  · intro h s hs
    have z := h s hs
    exact decide_eq_true (memB_iff.mp (by simpa using z))
  · intro h s hs
    have z := memB_iff.mpr (of_decide_eq_true (h s hs))
    rw [z]; decide
section
variable {P : Program} {w : World} {K : PySem.W.Frag} {mg : Str → Option Value} {base : Heap}
theorem sc_lplain : FnScope ["_law_near", "_law_far", "_law_good_here", "_law_start", "_law_known", "_law_todo", "_law_lap", "_law_some", "_law_x", "_law_late", "_law_s"] ["_law_near", "_law_far"] (defScope (topS 88)) := ⟨rfl, rfl, rfl, by decide +kernel, rfl, by decide +kernel, by decide +kernel⟩
theorem f_lplain (E : En K mg) : Fn P w K mg base "_law_plain" 3 ["_law_near", "_law_far"] none false FplainBy := by
  refine mkFn E 64 sc_lplain (by decide) (fun bs R h => by obtain ⟨_, _, _, _, rfl, _⟩ := h; rfl) (fun _ _ _ _ _ _ us hl => match us, hl with | [_, _], _ => rfl) fun f cdv A outer s H X fa ca bs R hr hf h => ?_
  obtain ⟨one, other, wd, T, rfl, rfl⟩ := h
  have l1 := T.l1
  have lw := T.lw
  have k := T.k1
  have one1 : (1 : Nat) ≤ sizeLine := by rw [sizeLine_eq]; decide
  have bd : ∀ {L : List (Row × List Nat)} {i : Nat}, Good wd (nextsBy one) (List.range one.length) L i → L.length ≤ 32 := fun {L i} G => queue_bd k l1 L G.nodup fun p hp => ⟨p.1, G.path p hp⟩
  refine sq_cons (s1_parT (i := 2) (j := 3) rfl sc_lplain.nd rfl rfl (.inr rfl) (.inl rfl) ((eq_callD (f_good E) hr rfl rfl (ad_cons (v 0) (ad_cons (v 1) ad_nil)) ⟨one, other, wd, T, rfl, rfl⟩).mono fun b e => ⟨by rw [e]; exact True.intro, ?_⟩))
  subst e
  refine EQ.mono (Q := (· = .dat (enc (List.range one.length)))) (ed_tupRg (n := one.length) rfl rfl E.tuple_ rfl E.range_ (lenE rfl E.len_ (v 0)) (by omega)) fun b e => ⟨by rw [e]; exact True.intro, ?_⟩
  subst e
  refine sq_cons (s1_par (i := 4) (j := 5) rfl sc_lplain.nd rfl rfl (by decide) rfl rfl ((eq_disp1 (d := enc (List.range one.length)) (dv := enc ([] : Row)) hr rfl (tkey_nats _) (v 3) (ed_tup ad_nil (Nat.zero_le _))).mono fun b e => ⟨by rw [e]; exact True.intro, ?_⟩))
  subst e
  refine (el_lst (ds := [enc (List.range one.length)]) (ad_cons (v 3) ad_nil) one1).mono fun b e => ⟨by rw [e]; exact True.intro, ?_⟩
  subst e
  refine sq_cons (s1_for PassesOwn.never rfl (itl_rg1 (n := 200) rfl E.range_ ed_int (by omega)) (fun i ρ' => ∃ L : List (Row × List Nat), L.length ≤ 32 ∧ ((i ≤ L.length ∧ Good wd (nextsBy one) (List.range one.length) L i ∧ (∀ p ∈ L, p.1.length ≤ i) ∧ bfs wd (nextsBy one) (allGood one other) (200 - i) L i = due wd one other) ∨ (L.length ≤ i ∧ due wd one other = none)) ∧
    ρ' = [some (.dat (enc one)), some (.dat (enc other)), some (.lst .own ((good one other).map enc)), some (.dat (enc (List.range one.length))), some (.dct .own (kD L)), some (.lst .own ((L.map (·.2)).map enc)), none, none, none, none, none]) ⟨[([], List.range one.length)], (show 1 ≤ 32 by decide), .inl ⟨Nat.zero_le _, Good.start _, (fun p hp => by rw [List.mem_singleton.mp hp]; exact Nat.le_refl _), rfl⟩, rfl⟩ ?_ ?_ ?_)
  · rintro ρ' ⟨L, _, _, rfl⟩; rfl
  · rintro q d ρ' hd ⟨L, hL, hst, rfl⟩
    obtain ⟨x, hx, rfl⟩ := take_map hd
    obtain ⟨hxl, hxi⟩ := List.getElem?_eq_some_iff.mp hx
    rw [List.getElem_range] at hxi
    rw [List.length_range] at hxl
    subst hxi
    refine ⟨[6], _, t1 6 sc_lplain.nd, sq_cons (s1_if (td_ltE (i := q) (j := (L.map Prod.snd).length) (v 6) (lenL (l := L.map Prod.snd) rfl E.len_ (vl 5))) (fun hc => ?_) fun hc => ?_)⟩
    · have hql : q < L.length := by
        have z := of_decide_eq_true hc
        rwa [List.length_map] at z
      obtain ⟨_, G, hrow, hgo⟩ := hst.resolve_right fun z => by omega
      obtain ⟨⟨r, S⟩, hrs⟩ : ∃ p, L[q]? = some p := ⟨_, List.getElem?_eq_getElem hql⟩
      have hrl : r.length ≤ q := hrow _ (List.mem_of_getElem? hrs)
      rw [show 200 - q = (200 - (q + 1)) + 1 by omega, bfs_at hrs] at hgo
      obtain ⟨hlr, hS⟩ := G.path _ (List.mem_of_getElem? hrs)
      have hS : S = runS one (List.range one.length) r := by rw [← stepR_runS]; exact hS
      obtain ⟨hSlt, hSl⟩ := runS_set k hlr
      rw [← hS] at hSlt hSl
      refine sq_cons (s1_setD (i := 7) (d := enc S) sc_lplain.nd rfl (.inl rfl) (ixL (l := L.map (·.2)) (vl 5) (v 6) (by rw [List.getElem?_map, hrs]; rfl)) ?_)
      have hkn : ∀ L' : List (Row × List Nat), (r, S) ∈ L' → (enc S, enc r) ∈ kD L' := fun L' h => List.mem_map.mpr ⟨(r, S), h, rfl⟩
      refine sq_cons (s1_if (k := decide ((S.filter fun s => !memB (good one other) s) = [])) (td_eqLE (l := S.filter fun s => !memB (good one other) s) (l' := []) (o := .own) (o' := .own) hr ?flt (el_lst ad_nil (Nat.zero_le _))) (fun hc2 => ?_) fun hc2 => ?_)
      case flt =>
        rw [← List.map_id' (S.filter fun s => !memB (good one other) s)]
        exact el_filE (l := S) (q := fun s => !memB (good one other) s) (g := fun s => s) [("_law_s", 10)] rfl sc_lplain.nd (itc_tup (v 7)) (blkOk_by (by kernel_rfl)) (by omega) fun s hs => ⟨[10], _, by decide, fun _ _ _ _ _ => t1 10 sc_lplain.nd, fun _ _ _ _ _ => td_niLE hr (v 10) (vl 2), fun _ _ _ _ _ _ => v 10⟩
      · rw [allGood_nil] at hc2
        rw [hc2, if_pos rfl] at hgo
        rw [← hgo]
        exact sq_cons (s1_retD (ed_dget (i := 4) (lk := .own) hr rfl (by intro z; cases z) rfl rfl (.inl rfl) (kD_tup _) (tkey_nats S) (v 7) (hkn L (List.mem_of_getElem? hrs)) (by intro _ _; rfl)) rfl)
      rw [allGood_nil] at hc2
      rw [hc2, if_neg Bool.false_ne_true] at hgo
      obtain ⟨G', M', eM⟩ := G.next hrs
      refine sq_nil (sq_cons (s1_for PassesOwn.never rfl (itl_rg1 (n := (st one 0).length) rfl E.range_ (lenE (l := st one 0) rfl E.len_ (ixE (n := 0) (v 0) ed_int (st_at k.ne))) (by rw [k.wst k.ne]; omega)) (fun i ρ' => ρ' = [some (.dat (enc one)), some (.dat (enc other)), some (.lst .own ((good one other).map enc)), some (.dat (enc (List.range one.length))), some (.dct .own (kD ((List.range i).foldl (put1 (nextsBy one) r S) L))), some (.lst .own ((((List.range i).foldl (put1 (nextsBy one) r S) L).map (·.2)).map enc)), some (.dat (enc q)), some (.dat (enc S)), none, none, none]) rfl ?_ ?_ ?_))
      · rintro ρ' rfl; rfl
      · rintro i d ρ' hd2 rfl
        obtain ⟨y, hy, rfl⟩ := take_map hd2
        obtain ⟨hyl, hyi⟩ := List.getElem?_eq_some_iff.mp hy
        rw [List.getElem_range] at hyi
        rw [List.length_range, k.wst k.ne] at hyl
        subst hyi
        have hLi := fold_len (one := one) (r := r) (S := S) (List.range i) L
        rw [List.length_range] at hLi
        obtain ⟨Mi, eMi⟩ := fold_drop (one := one) (r := r) (S := S) (L := L) (List.range i)
        have hnext : (List.range (i + 1)).foldl (put1 (nextsBy one) r S) L = put1 (nextsBy one) r S ((List.range i).foldl (put1 (nextsBy one) r S) L) i := by
          rw [List.range_succ, List.foldl_append]; rfl
        have hge : (r, S) ∈ (List.range i).foldl (put1 (nextsBy one) r S) L := by rw [eMi]; exact List.mem_append_left _ (List.mem_of_getElem? hrs)
        generalize (List.range i).foldl (put1 (nextsBy one) r S) L = Li at hLi hnext hge
        refine ⟨[8], _, t1 8 sc_lplain.nd, sq_cons (s1_setD (i := 9) (d := enc (nextsBy one S i)) sc_lplain.nd rfl (.inl rfl) (ed_tuple (ds := (nextsBy one S i).map enc) rfl E.tuple_ (EQ.itemsL (o := .own) (el_sset (o := .own) (l := S.map fun s => nx one s i) hr rfl rfl E.sorted_ rfl E.set_ ?lc (by rw [List.length_map]; omega)))) ?_)⟩
        case lc =>
          exact el_mapE (l := S) (g := fun s => nx one s i) [("_law_s", 10)] rfl sc_lplain.nd (itc_tup (v 7)) (blkOk_by (by kernel_rfl)) (by omega) fun s hs =>
            ⟨[10], _, by decide, fun _ _ _ _ _ => t1 10 sc_lplain.nd, fun _ _ _ _ _ => fstE (x := cell one s i) (ixE (ixE (v 0) (v 10) (st_at (hSlt s hs))) (v 8) (k.cell_at (hSlt s hs) hyl)) ed_int⟩
        refine sq_cons (s1_if (td_dnin (i := 4) (lk := .own) (c := memB (Li.map (·.2)) (nextsBy one S i)) hr rfl (by intro z; cases z) rfl rfl (.inl rfl) (kD_tup _) (tkey_nats _) (v 9) kD_in) (fun hc3 => ?_) fun hc3 => ?_)
        · have hn : nextsBy one S i ∉ Li.map (·.2) := fun h => by rw [memB_iff.mpr h] at hc3; cases hc3
          have e3 : put1 (nextsBy one) r S Li i = Li ++ [(r ++ [i], nextsBy one S i)] := by
            unfold put1
            rw [if_neg hn]
          have hcat : enc (r ++ [i]) = .tuple (r.map enc ++ [enc i]) := by
            show PyData.tuple ((r ++ [i]).map enc) = _
            rw [List.map_append]; rfl
          refine sq_cons (s1_dput (i := 4) (kvs := kD Li) (d := enc (nextsBy one S i)) (dv := enc (r ++ [i])) hr rfl rfl rfl (.inl rfl) (kD_tup _) (tkey_nats _) ?val (v 9) (fun h => hn (memB_iff.mp (kD_in.2 h))) (by unfold kD; rw [List.length_map]; omega) ?_)
          case val =>
            rw [hcat]
            exact ed_catT (ds := r.map enc) (es' := [enc i]) (ed_dget (i := 4) (lk := .own) hr rfl (by intro z; cases z) rfl rfl (.inl rfl) (kD_tup _) (tkey_nats S) (v 7) (hkn Li hge) (by intro _ _; rfl)) (ed_tup (ad_cons (v 8) ad_nil) one1) (by rw [List.length_map, sizeLine_eq]; show r.length + 1 ≤ _; omega)
          refine sq_cons (s1_append (i := 5) rfl rfl (.inl rfl) ((v 9).mono fun b eb => ⟨_, eb, sq_nil (sq_nilF [8, 9] ?_)⟩) ?_)
          · show _ = _
            rw [hnext, e3, ← kD_snoc, List.map_append, List.map_append]; rfl
          · rw [List.length_map, List.length_map, sizeLine_eq]; omega
        · have hm : nextsBy one S i ∈ Li.map (·.2) := memB_iff.mp (by simpa using hc3)
          have e3 : put1 (nextsBy one) r S Li i = Li := by
            unfold put1
            rw [if_pos hm]
          refine sq_nil (sq_nilF [8, 9] ?_)
          show _ = _
          rw [hnext, e3]; rfl
      · rintro ρ' rfl
        rw [List.length_map, List.length_range, k.wst k.ne]
        have hgr : grow wd (nextsBy one) r S L = (List.range wd).foldl (put1 (nextsBy one) r S) L := rfl
        refine sq_nil (sq_nilF [6, 7] ⟨grow wd (nextsBy one) r S L, bd G', .inl ⟨?_, G', fun p hp => ?_, hgo⟩, rfl⟩)
        · rw [eM, List.length_append]; omega
        · obtain ⟨M2, eM2, g1, _⟩ := grow_spec (step := nextsBy one) (r := r) (s := S) (List.range wd) L
          rw [hgr, eM2] at hp
          rcases List.mem_append.mp hp with h | h
          · exact Nat.le_succ_of_le (hrow p h)
          · obtain ⟨x, _, rfl⟩ := g1 p h
            rw [List.length_append]
            exact Nat.succ_le_succ hrl
    · have hql : L.length ≤ q := by
        have z := of_decide_eq_false hc
        rw [List.length_map] at z
        omega
      refine sq_nil (sq_nilF [6] ⟨L, hL, .inr ⟨by omega, ?_⟩, rfl⟩)
      rcases hst with ⟨_, _, _, hgo⟩ | ⟨_, e⟩
      · rw [← hgo, show 200 - q = (200 - (q + 1)) + 1 by omega]
        unfold bfs
        rw [List.getElem?_eq_none_iff.mpr hql]
      · exact e
  · rintro ρ' ⟨L, hL, hst, rfl⟩
    rw [List.length_map, List.length_range] at hst
    have e : due wd one other = none := (hst.resolve_left fun z => by omega).2
    rw [e]
    exact sq_cons (s1_retD ed_non rfl)
end
end W97
end
section
set_option Elab.async false
set_option linter.all false
set_option maxRecDepth 100000
set_option maxHeartbeats 4000000
namespace W97
open PySem PySem.Spec PyProof.Rows L2 PyEnc
/-! ### what is written -/
mutual
def cEx : Nat → Expr → Option PyData
  | 0, _ => none
  | _ + 1, .Constant (.int i) _ _ => some (.int i)
  | n + 1, .Tuple es _ _ => (cExs n es).map .tuple
  | _ + 1, _ => none
def cExs : Nat → List Expr → Option (List PyData)
  | 0, _ => none
  | _ + 1, [] => some []
  | n + 1, e :: es => match cEx n e, cExs n es with
    | some d, some ds => if ds.length < 100 then some (d :: ds) else none
    | _, _ => none
end
section
variable {X : Cx} {m : Mo} {HE H0 H H1 : Hp} {ρ ρ' : Ab} {σ : L2.St} {a b e : Expr} {es : List Expr} {pos p : Pos} {E : AE} {ds es' : List PyData}
theorem cEx_star {n : Nat} {d : PyData} (h : cEx n e = some d) : starEach (e :: es) X.env = (false, eval e X.env) :: starEach es X.env := by
  cases n with
  | zero => unfold cEx at h; cases h
  | succ n =>
    unfold cEx at h
    split at h
    · rename_i z; cases z
    · rfl
    · rfl
    · cases h
mutual
theorem ed_cE : ∀ (n : Nat) (e : Expr) (d : PyData), cEx n e = some d → ED X m ρ e d
  | 0, e, d, h => by unfold cEx at h; cases h
  | n + 1, e, d, h => by
    unfold cEx at h
    split at h
    · rename_i z; cases z
    · have z := Option.some.inj h
      rw [← z]
      exact ed_int
    · rename_i n' es k p z
      have z := Nat.succ.inj z
      subst z
      obtain ⟨ds, h1, h2⟩ := Option.map_eq_some_iff.mp h
      subst h2
      obtain ⟨q, hl⟩ := ad_cE n es ds h1
      exact ed_tup q (by rw [sizeLine_eq]; omega)
    · cases h
theorem ad_cE : ∀ (n : Nat) (es : List Expr) (ds : List PyData), cExs n es = some ds → AD X m ρ es ds ∧ ds.length ≤ 100
  | 0, es, ds, h => by unfold cExs at h; cases h
  | n + 1, [], ds, h => by
    unfold cExs at h
    cases h
    exact ⟨ad_nil, Nat.zero_le _⟩
  | n + 1, e :: es, ds, h => by
    unfold cExs at h
    cases h1 : cEx n e with
    | none => rw [h1] at h; cases h
    | some d =>
      cases h2 : cExs n es with
      | none => rw [h1, h2] at h; cases h
      | some ds' =>
        rw [h1, h2] at h
        dsimp only at h
        split at h
        · cases h
          rename_i hl
          exact ⟨ad_cons (ed_cE n e d h1) (ad_cE n es ds' h2).1 (cEx_star h1), hl⟩
        · cases h
end
theorem ed_c {d : PyData} (h : cEx 12 e = some d) : ED X m ρ e d := ed_cE 12 e d h
/-- the readings as sealed boxes: Lean does not look inside while it elaborates -/
structure SB (X : Cx) (m : Mo) (ρ : Ab) (ss : List Stmt) (E : AE) : Prop where
  h : SQ X m ρ ss E
structure EB (X : Cx) (m : Mo) (ρ : Ab) (e : Expr) (d : PyData) : Prop where
  h : ED X m ρ e d
structure AB (X : Cx) (m : Mo) (ρ : Ab) (es : List Expr) (ds : List PyData) : Prop where
  h : AD X m ρ es ds
  s : ds.length ≤ 100
variable {ss : List Stmt} {d d1 d2 d3 : PyData}
theorem eb_c (h : cEx 12 e = some d) : EB X m ρ e d := ⟨ed_c h⟩
theorem eb_n {j : Nat} : EB X m ρ (.Constant .none j pos) .none := ⟨ed_non⟩
theorem eb_v (i : Nat) {x : Str} {d : PyData} (hi : ρ[i]? = some (some (.dat d)) := by rfl) (hN : X.N[i]? = some x := by rfl) (hv : Vis X.env.scope x := by first | exact .inl rfl | exact .inr (.inl rfl) | exact .inr (.inr rfl))
    (hd : (x == ("__debug__" : Str)) = false := by decide) (hcd : (x == ("__classdict__" : Str)) = false := by decide) : EB X m ρ (.Name x pos) d := ⟨v i hi hN hv hd hcd⟩
theorem ab_nil : AB X m ρ [] [] := ⟨ad_nil, Nat.zero_le _⟩
theorem ab_cons (h : EB X m ρ e d) (h2 : AB X m ρ es ds) (hl : ds.length < 100 := by decide) (hs : starEach (e :: es) X.env = (false, eval e X.env) :: starEach es X.env := by rfl) : AB X m ρ (e :: es) (d :: ds) := ⟨ad_cons h.h h2.h hs, hl⟩
theorem eb_tup {k : Nat} (h : AB X m ρ es ds) : EB X m ρ (.Tuple es k pos) (.tuple ds) := ⟨ed_tup h.h (by have := h.s; rw [sizeLine_eq]; omega)⟩
theorem sb_tgt {tg : Expr} {is : List Nat} (h : EB X m ρ e d) (ht : TGD X tg is d ρ ρ') (q : SB X m ρ' ss E) (hs : swapsWithSole [tg] e pos.line X.env = pure false := by kernel_rfl) (hw : swappedStores [tg] e X.env = pure none := by kernel_rfl)
    (h1 : (assignEach [tg] X.env).map (·.2) = [assign tg X.env] := by rfl) : SB X m ρ (.Assign [tg] e pos :: ss) E := ⟨sq_cons (s1_tgt h.h ht q.h hs hw h1)⟩
theorem sb_set (i : Nat) {x : Str} {pos' : Pos} (hN : X.N.Nodup) (hi : X.N[i]? = some x) (hx : Loc X.env.scope x) (h : EB X m ρ e d) (q : SB X m (ρ.set i (some (.dat d))) ss E) (hs : swapsWith e (some (.Name x pos')) pos.line X.env = pure false := by kernel_rfl)
    (hf : X.fn x = true ∨ X.env.scope.names.lookup x = some .local := by first | exact .inl rfl | exact .inr rfl | assumption) : SB X m ρ (.Assign [.Name x pos'] e pos :: ss) E := ⟨sq_cons (s1_setD hN hi hx h.h q.h hs hf)⟩
theorem sb_lst (i : Nat) {x : Str} {pos' p2 : Pos} (hN : X.N.Nodup) (hi : X.N[i]? = some x) (hx : Loc X.env.scope x) (h : AB X m ρ es ds) (q : SB X m (ρ.set i (some (.lst .own ds))) ss E) (hs : swapsWith (.List es p2) (some (.Name x pos')) pos.line X.env = pure false := by kernel_rfl)
    (hf : X.fn x = true ∨ X.env.scope.names.lookup x = some .local := by first | exact .inl rfl | exact .inr rfl | assumption) : SB X m ρ (.Assign [.Name x pos'] (.List es p2) pos :: ss) E := ⟨sq_cons (s1_setB hN hi hx (el_lst h.h (by have := h.s; rw [sizeLine_eq]; omega)) q.h True.intro hs hf)⟩
theorem td_and2 {k l : Bool} (h : TD X m ρ a k) (h2 : TD X m ρ b l) : TD X m ρ (.BoolOp .And [a, b] pos) (k && l) := (tw_and h fun _ => tw_and1 h2).td
/-- a call with no arguments -/
theorem eq_call0 {x : Str} {k : Nat} {Fs : List Bd → (Bd → Prop) → Prop} {R : Bd → Prop} (F : Fn X.prog X.w X.K X.mg X.base x k [] none false Fs) (hr' : Room k X.A) (hg : Gl X x) (hw : m.wd = some X.w) (hf : Fs [] R) (hdb : (x == ("__debug__" : Str)) = false := by decide) : EQ X m ρ (.Call (.Name x p) [] [] pos) R := by
  obtain ⟨f, fd, hF, hm, hk, hb⟩ := F.ex
  intro σ H HE H0 S Qv kk
  refine ew_of (pe_call0 hF hr' hg hm hk hb .nil pass0 hdb) ?_
  show Pr X.K X.w none false Fs [] H Qv E0
  exact ⟨none, 0, [], R, fun _ => rfl, (fun a e => by cases e), (fun T e => by cases e), hf, .nil, fun v b H' g r q => kk v b H' (g.into S.fe1 (.inl rfl) (.inl rfl)) (hr_mode hw (.inl rfl) r) q⟩
/-- x = x + e, an own list and a new one -/
theorem s1_catL {i : Nat} {x : Str} {px py pos' : Pos} (hi : ρ[i]? = some (some (.lst .own ds))) (hN : X.N.Nodup) (hx : X.N[i]? = some x) (hl : Loc X.env.scope x) (hv : Vis X.env.scope x) (h : EL X m ρ e es') (q : E.nx (ρ.set i (some (.lst .own (ds ++ es'))))) (hb : ds.length + es'.length ≤ sizeLine)
    (hs : swapsWith (.BinOp (.Name x px) .Add e pos') (some (.Name x py)) pos.line X.env = pure false := by rfl) (hf : X.fn x = true ∨ X.env.scope.names.lookup x = some .local := by first | exact .inl rfl | exact .inr rfl)
    (hd : (x == ("__debug__" : Str)) = false := by decide) (hcd : (x == ("__classdict__" : Str)) = false := by decide) : S1 X m ρ (.Assign [.Name x py] (.BinOp (.Name x px) .Add e pos') pos) E := by
  intro σ H HE H0 S D d
  obtain ⟨v, hσ, l, vs, ev, h1, h2, h3⟩ := S.slots i _ hi
  subst ev
  refine s1_of (ps_set hN hx hl (pe_op op_cat (pe_var hx hv hd hcd) (pe_ew X e)) hs hf) ⟨_, hσ, ew_then h S fun y b H1 g1 S1 r1 eb => ?_⟩
  subst eb
  obtain ⟨l2, us, e2, k1, k2, k3⟩ := r1
  refine ⟨l, l2, vs, us, rfl, e2, g1.lst S.fe1 h1, k2, by rw [h2.len, k3.len]; exact hb, fun l3 hl3 => d.nx _ _ _ (S.set (b := .lst .own (ds ++ es')) (g1.trans (Gr.new hl3)) ⟨l3, _, rfl, g1.free _ hl3, upd_same, ?_⟩ True.intro) q⟩
  exact ((h2.keep (g1.tk S.fe1)).app k3).keep ((Gr.new (m := m) hl3).tk S1.fe1)
theorem sb_catL (i : Nat) {x : Str} {px py pos' p2 : Pos} (hi : ρ[i]? = some (some (.lst .own ds))) (hN : X.N.Nodup) (hx : X.N[i]? = some x) (hl : Loc X.env.scope x) (hv : Vis X.env.scope x) (h : AB X m ρ es es') (q : SB X m (ρ.set i (some (.lst .own (ds ++ es')))) ss E) (hb : ds.length ≤ 100)
    (hs : swapsWith (.BinOp (.Name x px) .Add (.List es p2) pos') (some (.Name x py)) pos.line X.env = pure false := by kernel_rfl) (hf : X.fn x = true ∨ X.env.scope.names.lookup x = some .local := by first | exact .inl rfl | exact .inr rfl)
    (hd : (x == ("__debug__" : Str)) = false := by decide) (hcd : (x == ("__classdict__" : Str)) = false := by decide) : SB X m ρ (.Assign [.Name x py] (.BinOp (.Name x px) .Add (.List es p2) pos') pos :: ss) E :=
  ⟨sq_cons (s1_catL hi hN hx hl hv (el_lst h.h (by have := h.s; rw [sizeLine_eq]; omega)) q.h (by have := h.s; rw [sizeLine_eq]; omega) hs hf hd hcd)⟩
theorem sb_append (i : Nat) {x : Str} {px apos cpos : Pos} (hi : ρ[i]? = some (some (.lst .own ds))) (hN : X.N[i]? = some x) (hv : Vis X.env.scope x) (h : EB X m ρ e d) (q : SB X m (ρ.set i (some (.lst .own (ds ++ [d])))) ss E) (hl : ds.length ≤ 100)
    (hd : (x == ("__debug__" : Str)) = false := by decide) (hcd : (x == ("__classdict__" : Str)) = false := by decide)
    (hbase : attributeBase (.Name x px) "append" X.env (eval (.Name x px) X.env) = eval (.Name x px) X.env := by rfl)
    (hfew : ((backTo cpos (starEach [e] X.env)).all (fun x => !x.1) && (backToKw cpos (keywordEach [] X.env)).all (fun x => x.1.isSome) && decide ([e].length + ([] : List Keyword).length + (if ([] : List Keyword).isEmpty then 0 else 1) < 30)) = true := by rfl)
    (hline : (apos.endLine == cpos.line) = true := by rfl) (hs : starEach [e] X.env = (false, eval e X.env) :: starEach [] X.env := by rfl) (hplain : (backTo cpos (starEach [] X.env)).any (·.1) = false := by rfl)
    (hsw : swapsWith (.Call (.Attribute (.Name x px) "append" apos) [e] [] cpos) none pos.line X.env = pure false := by kernel_rfl) :
    SB X m ρ (.Expr (.Call (.Attribute (.Name x px) "append" apos) [e] [] cpos) pos :: ss) E :=
  ⟨sq_cons (s1_append hi hN hv (EQ.mono (Q := (· = .dat d)) h.h fun b eb => ⟨d, eb, q.h⟩) (by rw [sizeLine_eq]; omega) hd hcd hbase hfew hline hs hplain hsw)⟩
end
section
variable {P : Program} {w : World} {K : PySem.W.Frag} {mg : Str → Option Value} {base : Heap}
def trD (p : Wr) : PyData := .tuple [enc p.near, enc p.far, rowD p.row]
def t3D (a b : Mc) (r : PyData) : PyData := .tuple [enc a, enc b, r]
def wrL : List PyData := [t3D mOnce mHold (enc [0]), t3D mHold mOnce (enc ([] : Row)), t3D mFlip mHold .none, t3D mWait mZero (enc [1]), t3D mStill mStill (enc ([] : Row)), t3D mSplit mBoth (enc [0]), t3D mBoth mSplit (enc [0]), t3D mStill mFlip .none, t3D mZero mWait (enc ([] : Row)), t3D mLast mZero (enc [1, 0, 1])]
theorem written_data : written.map trD = wrL := rfl
theorem sc_written : FnScope ["_law_hold", "_law_once", "_law_flip", "_law_still", "_law_wait", "_law_zero", "_law_split", "_law_both", "_law_some"] [] (defScope (topS 92)) := ⟨rfl, rfl, rfl, by decide +kernel, rfl, by decide +kernel, by decide +kernel⟩
def Fwritten : List Bd → (Bd → Prop) → Prop := fun bs R => bs = [] ∧ R = (· = .lst .own wrL)
theorem f_written (E : En K mg) : Fn P w K mg base "_law_written" 1 [] none false Fwritten := by
  refine mkFn E 68 sc_written (by decide) (fun bs R h => by obtain ⟨rfl, _⟩ := h; rfl) (fun _ _ _ _ _ _ us hl => match us, hl with | [], _ => rfl) fun f cdv A outer s H X fa ca bs R hr hf h => ?_
  obtain ⟨rfl, rfl⟩ := h
  have sz : ∀ {n : Nat}, n ≤ 100 → n ≤ sizeLine := fun h => by rw [sizeLine_eq]; omega
  refine SB.h ?_
  refine sb_tgt (d := .tuple [enc mHold, enc mOnce]) (eb_c (by kernel_rfl)) (t2 0 1 rfl sc_written.nd) ?_
  refine sb_tgt (d := .tuple [enc mFlip, enc mStill]) (eb_c (by kernel_rfl)) (t2 2 3 rfl sc_written.nd) ?_
  refine sb_tgt (d := .tuple [enc mWait, enc mZero]) (eb_c (by kernel_rfl)) (t2 4 5 rfl sc_written.nd) ?_
  refine sb_set 6 (d := enc mSplit) sc_written.nd rfl (.inl rfl) (eb_c (by kernel_rfl)) ?_
  refine sb_set 7 (d := enc mBoth) sc_written.nd rfl (.inl rfl) (eb_c (by kernel_rfl)) ?_
  refine sb_lst 8 sc_written.nd rfl (.inl rfl) (ab_cons (d := t3D mOnce mHold (enc [0])) (eb_tup (ab_cons (eb_v 1) (ab_cons (eb_v 0) (ab_cons (eb_c (by kernel_rfl)) ab_nil))))
    (ab_cons (d := t3D mHold mOnce (enc ([] : Row))) (eb_tup (ab_cons (eb_v 0) (ab_cons (eb_v 1) (ab_cons (eb_c (by kernel_rfl)) ab_nil))))
    (ab_cons (d := t3D mFlip mHold .none) (eb_tup (ab_cons (eb_v 2) (ab_cons (eb_v 0) (ab_cons eb_n ab_nil))))
    (ab_cons (d := t3D mWait mZero (enc [1])) (eb_tup (ab_cons (eb_v 4) (ab_cons (eb_v 5) (ab_cons (eb_c (by kernel_rfl)) ab_nil))))
    (ab_cons (d := t3D mStill mStill (enc ([] : Row))) (eb_tup (ab_cons (eb_v 3) (ab_cons (eb_v 3) (ab_cons (eb_c (by kernel_rfl)) ab_nil)))) ab_nil))))) ?_
  refine sb_catL 8 rfl sc_written.nd rfl (.inl rfl) (.inl rfl) (ab_cons (d := t3D mSplit mBoth (enc [0])) (eb_tup (ab_cons (eb_v 6) (ab_cons (eb_v 7) (ab_cons (eb_c (by kernel_rfl)) ab_nil))))
    (ab_cons (d := t3D mBoth mSplit (enc [0])) (eb_tup (ab_cons (eb_v 7) (ab_cons (eb_v 6) (ab_cons (eb_c (by kernel_rfl)) ab_nil))))
    (ab_cons (d := t3D mStill mFlip .none) (eb_tup (ab_cons (eb_v 3) (ab_cons (eb_v 2) (ab_cons eb_n ab_nil))))
    (ab_cons (d := t3D mZero mWait (enc ([] : Row))) (eb_tup (ab_cons (eb_v 5) (ab_cons (eb_v 4) (ab_cons (eb_c (by kernel_rfl)) ab_nil)))) ab_nil)))) ?_ (by decide)
  refine sb_append 8 rfl rfl (.inl rfl) (d := t3D mLast mZero (enc [1, 0, 1])) (eb_tup (ab_cons (eb_c (by kernel_rfl)) (ab_cons (eb_v 5) (ab_cons (eb_c (by kernel_rfl)) ab_nil)))) ?_ (by decide)
  exact ⟨sq_cons (s1_retOwn (i := 8) rfl rfl (.inl rfl) rfl)⟩
end
end W97
end
section
set_option Elab.async false
set_option linter.all false
set_option maxRecDepth 100000
set_option maxHeartbeats 4000000
namespace W97
open PySem PySem.Spec PyProof.Rows L2 PyEnc
/-- the first rows of the machine whose plain row has ten letters -/
def tenTo (i : Nat) : Mc := [(0, 0), (0, 0), (0, 0), (0, 0)] :: ((List.range 4).take i).map fun k => tenRow (1 + k)
theorem tenTo_all : tenTo 4 = mTen := rfl
theorem tenTo_next {i k : Nat} (h : (List.range 4)[i]? = some k) : tenTo (i + 1) = tenTo i ++ [tenRow (1 + k)] := by
  unfold tenTo
  rw [take_next h, List.map_append]; rfl
section
variable {P : Program} {w : World} {K : PySem.W.Frag} {mg : Str → Option Value} {base : Heap}
theorem sc_ten : FnScope ["_law_found", "_law_s", "_law_pairs", "_law_x", "_law_late"] [] (defScope (topS 91)) := ⟨rfl, rfl, rfl, by decide +kernel, rfl, by decide +kernel, by decide +kernel⟩
def Ften : List Bd → (Bd → Prop) → Prop := fun bs R => bs = [] ∧ R = (· = .dat (enc mTen))
theorem f_ten (E : En K mg) : Fn P w K mg base "_law_ten" 1 [] none false Ften := by
  refine mkFn E 67 sc_ten (by decide) (fun bs R h => by obtain ⟨rfl, _⟩ := h; rfl) (fun _ _ _ _ _ _ us hl => match us, hl with | [], _ => rfl) fun f cdv A outer s H X fa ca bs R hr hf h => ?_
  obtain ⟨rfl, rfl⟩ := h
  refine SB.h ?_
  refine sb_lst 0 sc_ten.nd rfl (.inl rfl) (ab_cons (d := enc [((0 : Nat), (0 : Nat)), (0, 0), (0, 0), (0, 0)]) (eb_c (by kernel_rfl)) ab_nil) ?_
  refine ⟨?_⟩
  refine sq_cons (s1_for PassesOwn.never rfl (itl_rg2 (i := 1) (n := 4) rfl E.range_ ed_int ed_int (by decide)) (fun i ρ' => ρ' = [some (.lst .own ((tenTo i).map enc)), none, none, none, none]) rfl ?_ ?_ ?_)
  · rintro ρ' rfl; rfl
  · rintro i d ρ' hd rfl
    obtain ⟨y, hy, rfl⟩ := take_map hd
    rw [List.getElem?_map] at hy
    obtain ⟨k, hk, rfl⟩ := Option.map_eq_some_iff.mp hy
    have hkl : k < 4 := List.mem_range.mp (List.mem_of_getElem? hk)
    have hil : i < 4 := by
      have z := (List.getElem?_eq_some_iff.mp hk).1
      rwa [List.length_range] at z
    have hnx := tenTo_next hk
    generalize hs : 1 + k = s1 at hnx
    refine ⟨[1], _, t1 1 sc_ten.nd, sq_cons (s1_setB (i := 2) (bd := .lst .own []) sc_ten.nd rfl (.inl rfl) (el_lst ad_nil (Nat.zero_le _)) ?_)⟩
    refine sq_cons (s1_for PassesOwn.never rfl (itl_rg1 (n := 4) rfl E.range_ ed_int (by decide)) (fun j ρ' => ρ' = [some (.lst .own ((tenTo i).map enc)), some (.dat (enc s1)), some (.lst .own ((((List.range 4).take j).map fun x => (tenLate s1 x, 1)).map enc)), none, none]) rfl ?_ ?_ ?_)
    · rintro ρ' rfl; rfl
    · rintro j d ρ' hd2 rfl
      obtain ⟨x, hx, rfl⟩ := take_map hd2
      refine ⟨[3], _, t1 3 sc_ten.nd, sq_cons (s1_setD (i := 4) (d := enc s1) sc_ten.nd rfl (.inl rfl) (v 1) ?_)⟩
      have fin : ∀ (y : Nat), y = tenLate s1 x → (fun ρ' => ρ' = [some (Bd.lst .own ((tenTo i).map enc)), some (.dat (enc s1)), some (.lst .own ((((List.range 4).take j).map fun x => (tenLate s1 x, 1)).map enc)), some (.dat (enc x)), some (.dat (enc (tenLate s1 x)))]) [some (Bd.lst .own ((tenTo i).map enc)), some (.dat (enc s1)), some (.lst .own ((((List.range 4).take j).map fun x => (tenLate s1 x, 1)).map enc)), some (.dat (enc x)), some (.dat (enc y))] := fun y e => by rw [e]
      refine sq_cons (S1.mono (E := { nx := fun ρ' => ρ' = [some (Bd.lst .own ((tenTo i).map enc)), some (.dat (enc s1)), some (.lst .own ((((List.range 4).take j).map fun x => (tenLate s1 x, 1)).map enc)), some (.dat (enc x)), some (.dat (enc (tenLate s1 x)))], rt := fun _ => False }) (s1_if (td_and2 (td_eqNat hr (v 3) ed_int) (td_eqNat hr (v 1) ed_int)) (fun hc => ?_) fun hc => ?_) (fun ρ' e => ?_) (fun _ z => z.elim) (fun _ z => z.elim) fun _ z => z.elim)
      · rw [Bool.and_eq_true, decide_eq_true_eq, decide_eq_true_eq] at hc
        refine sq_cons (s1_setD (i := 4) (d := enc 0) sc_ten.nd rfl (.inl rfl) ed_int (sq_nil (fin 0 ?_)))
        unfold tenLate
        rw [if_pos hc]
      · have n1 : ¬ (x = 0 ∧ s1 = 1) := fun z => by rw [decide_eq_true z.1, decide_eq_true z.2] at hc; cases hc
        refine sq_cons (s1_if (td_and2 (td_gtE (i := x) (j := 0) (v 3) ed_int) (td_eqNat hr (v 1) (v 3))) (fun hc2 => ?_) fun hc2 => ?_)
        · rw [Bool.and_eq_true, decide_eq_true_eq, decide_eq_true_eq] at hc2
          refine sq_cons (s1_setD (i := 4) (d := enc (x + 1)) sc_ten.nd rfl (.inl rfl) (addE (v 3) ed_int) (sq_nil (sq_nil (fin (x + 1) ?_))))
          unfold tenLate
          rw [if_neg n1, if_pos hc2]
        · have n2 : ¬ (0 < x ∧ s1 = x) := fun z => by rw [decide_eq_true z.1, decide_eq_true z.2] at hc2; cases hc2
          refine sq_cons (s1_if (td_and2 (td_gtE (i := x) (j := 0) (v 3) ed_int) (td_eqNat hr (v 1) (addE (j := 1) (v 3) ed_int))) (fun hc3 => ?_) fun hc3 => ?_)
          · rw [Bool.and_eq_true, decide_eq_true_eq, decide_eq_true_eq] at hc3
            refine sq_cons (s1_setD (i := 4) (d := enc x) sc_ten.nd rfl (.inl rfl) (v 3) (sq_nil (sq_nil (sq_nil (fin x ?_)))))
            unfold tenLate
            rw [if_neg n1, if_neg n2, if_pos hc3]
          · have n3 : ¬ (0 < x ∧ s1 = x + 1) := fun z => by rw [decide_eq_true z.1, decide_eq_true z.2] at hc3; cases hc3
            refine sq_nil (sq_nil (sq_nil (fin s1 ?_)))
            unfold tenLate
            rw [if_neg n1, if_neg n2, if_neg n3]
      · subst e
        refine sq_cons (s1_append (i := 2) rfl rfl (.inl rfl) (EQ.mono (Q := (· = .dat (enc ((tenLate s1 x, 1) : Nat × Nat)))) (prE (v 4) ed_int) fun b e => ⟨_, e, sq_nilF [3, 4] ?_⟩) ?_)
        · show _ = _
          rw [take_next hx, List.map_append, List.map_append]; rfl
        · rw [List.length_map, List.length_map, List.length_take, List.length_range, sizeLine_eq]
          omega
    · rintro ρ' rfl
      rw [List.length_map, List.length_range, show (List.range 4).take 4 = List.range 4 from rfl]
      refine sq_cons (s1_append (i := 0) rfl rfl (.inl rfl) (EQ.mono (Q := (· = .dat (enc (tenRow s1)))) (ed_tuple rfl E.tuple_ (EQ.itemsL (o := .par) (vl 2))) fun b e => ⟨_, e, sq_nilF [1, 2] ?_⟩) ?_)
      · show _ = _
        rw [hnx, List.map_append]; rfl
      · rw [List.length_map, sizeLine_eq]
        show (((List.range 4).take i).map fun k => tenRow (1 + k)).length + 1 < _
        rw [List.length_map, List.length_take]
        omega
  · rintro ρ' rfl
    rw [List.length_map, List.length_map, List.length_range]
    exact sq_cons (s1_retD (d := enc mTen) (ed_tuple rfl E.tuple_ (EQ.itemsL (o := .par) (vl 0))) rfl)
end
end W97
end
section
set_option Elab.async false
set_option linter.all false
set_option maxRecDepth 100000
set_option maxHeartbeats 2000000
namespace W97
open PySem PySem.Spec PyProof.Rows L2 PyEnc
/-! ### the law's feed -/
instance : PyEnc Int where
  enc n := .int n
  eqv a b := by
    simp only [PyData.eqv]
    rw [Bool.eq_iff_iff]
    simp
  lay a := by simp [PyData.canLay0]
  dep := 0
  depth a := by simp [PyData.depth]
section
variable {X : Cx} {m : Mo} {HE H0 H H1 : Hp} {ρ ρ' : Ab} {σ : L2.St} {a b c e elt tg iter : Expr} {es : List Expr} {pos p q0 : Pos} {E : AE} {ds es' : List PyData}
theorem vf (i : Nat) {x : Str} (hi : ρ[i]? = some (some .feed) := by rfl) (hN : X.N[i]? = some x := by rfl) (hv : Vis X.env.scope x := by first | exact .inl rfl | exact .inr (.inl rfl) | exact .inr (.inr rfl))
    (hd : (x == ("__debug__" : Str)) = false := by decide) (hcd : (x == ("__classdict__" : Str)) = false := by decide) : EQ X m ρ (.Name x pos) (· = .feed) := eq_var hi hN hv rfl hd hcd
theorem feed_turn {ca : Addr} {n r t : Int} : valV (feedK ca n r t) (sx "turn") = some (.int t) := by kernel_rfl
theorem feed_rest {ca : Addr} {n r t : Int} : valV (feedK ca n r t) (sx "rest") = some (.int r) := by kernel_rfl
theorem feed_next {ca : Addr} {n r t : Int} : valV (feedK ca n r t) (sx "next") = some (.int n) := by kernel_rfl
theorem feed_cells {ca : Addr} {n r t : Int} : valV (feedK ca n r t) (sx "cells") = some (.ref ca) := by kernel_rfl
theorem put_turn {ca : Addr} {n r t z : Int} : L2.putK (feedK ca n r t) (sx "turn") (.int z) = feedK ca n r z := by kernel_rfl
theorem put_rest {ca : Addr} {n r t z : Int} : L2.putK (feedK ca n r t) (sx "rest") (.int z) = feedK ca n z t := by kernel_rfl
theorem put_next {ca : Addr} {n r t z : Int} : L2.putK (feedK ca n r t) (sx "next") (.int z) = feedK ca z r t := by kernel_rfl
/-- what the feed gives at a key -/
theorem eq_fget {i k : Nat} {x : Str} {key : String} {j : Nat} {p3 : Pos} {g : Addr → Int → Int → Int → V} {Q : Bd → Prop} (r : Room k X.A) (hi : ρ[i]? = some (some .feed)) (hN : X.N[i]? = some x) (hv : Vis X.env.scope x) (hg : ∀ ca n r t, valV (feedK ca n r t) (sx key) = some (g ca n r t))
    (hq : ∀ n r t, 0 ≤ n → ∃ bd, (∀ H, hr X.K m H H (g m.ca n r t) bd) ∧ Q bd) (hs : NoSl (.Constant (.str (Str.ofString key)) j p3) := by intro _ _; rfl)
    (hd : (x == ("__debug__" : Str)) = false := by decide) (hcd : (x == ("__classdict__" : Str)) = false := by decide) : EQ X m ρ (.Subscript (.Name x p) (.Constant (.str (Str.ofString key)) j p3) pos) Q := by
  intro σ H HE H0 S Qv kk
  obtain ⟨v, hv', a, e1, e2⟩ := S.slots i _ hi
  subst e2
  obtain ⟨cs, n, r0, t, h1, h2, h3, h4⟩ := S.fe1 a e1
  obtain ⟨bd, hb, q⟩ := hq n r0 t h4
  refine ew_of (pe_dget (by have := r.un; omega) (pe_var hN hv hd hcd) pe_str hs) ⟨_, hv', a, g m.ca n r0 t, rfl, ?_, kk _ bd H Gr.refl (hb H) q⟩
  have z := DGet.k (k := sx key) h1
  rw [hg] at z
  exact z
/-- the feed is changed -/
theorem Gr.feedput {a : Addr} {cs : List Int} {n r t n' r' t' : Int} (hf : m.fa = some a) (h1 : H a = some (.dK (feedK m.ca n r t))) (h2 : H m.ca = some (.lst (cs.map V.int))) (h3 : cs.length ≤ 63) (hn : 0 ≤ n') : Gr m H (upd H a (.dK (feedK m.ca n' r' t'))) := by
  have ne : ∀ b o, H b = some o → (∀ kvs, o ≠ .dK kvs) → b ≠ a := fun b o e no z => by
    subst z
    rw [h1] at e
    exact no _ (Option.some.inj e).symm
  refine ⟨fun b o e _ z => ?_, fun T _ tt q hq => ?_, fun b e => ?_, fun a' e x => ?_⟩
  · rw [upd_ne (fun w => z (by rw [w]; exact hf))]
    exact e
  · obtain ⟨ps, k1, k2, k3⟩ := tt q hq
    refine ⟨ps, by rw [upd_ne (ne _ _ k1 fun _ z => by cases z)]; exact k1, k2, fun pos cv hc => ?_⟩
    obtain ⟨c, a1, a2⟩ := k3 pos cv hc
    exact ⟨c, a1, by rw [upd_ne (ne _ _ a2 fun _ z => by unfold LamX.CodeO at z; cases z)]; exact a2⟩
  · by_cases z : b = a
    · rw [z, upd_same] at e; cases e
    · rwa [upd_ne z] at e
  · rw [hf] at e
    cases e
    exact ⟨cs, n', r', t', upd_same, by rw [upd_ne (ne _ _ h2 fun _ z => by cases z)]; exact h2, h3, hn⟩
theorem s1_fput {i k : Nat} {x : Str} {key : String} {j : Nat} {p3 pos' : Pos} {P : Int → Prop} (r : Room k X.A) (hi : ρ[i]? = some (some .feed)) (hN : X.N[i]? = some x) (hv : Vis X.env.scope x) (h : EQ X m ρ e fun b => ∃ z, b = .dat (.int z) ∧ P z)
    (hg : ∀ ca n r t z, P z → 0 ≤ n → ∃ n' r' t', 0 ≤ n' ∧ L2.putK (feedK ca n r t) (sx key) (.int z) = feedK ca n' r' t') (q : E.nx ρ) (hs : swapsWith e (some (.Subscript (.Name x p) (.Constant (.str (Str.ofString key)) j p3) pos')) pos.line X.env = pure false := by rfl)
    (hd : (x == ("__debug__" : Str)) = false := by decide) (hcd : (x == ("__classdict__" : Str)) = false := by decide) : S1 X m ρ (.Assign [.Subscript (.Name x p) (.Constant (.str (Str.ofString key)) j p3) pos'] e pos) E := by
  intro σ H HE H0 S D dd
  refine s1_of (ps_dput (by have := r.un; omega) (pe_var hN hv hd hcd) pe_str (pe_ew X e) hs) (ew_then h S fun v b1 H1 g1 S1 r1 e1 => ?_)
  obtain ⟨z, e1, hz⟩ := e1
  subst e1
  rw [DV.int_eq r1]
  obtain ⟨v, hv', a, e1, e2⟩ := S1.slots i _ hi
  subst e2
  obtain ⟨cs, n, r0, t, h1, h2, h3, h4⟩ := S1.fe1 a e1
  obtain ⟨n', r', t', hn, ep⟩ := hg m.ca n r0 t z hz h4
  refine ⟨_, hv', a, upd H1 a (.dK (feedK m.ca n' r' t')), rfl, ?_, dd.nx _ _ _ (S1.go (Gr.feedput e1 h1 h2 h3 hn)) q⟩
  have y := DPut.k (k := sx key) (v := .int z) h1 (by show 4 < sizeLine; rw [sizeLine_eq]; decide)
  rw [ep] at y
  exact y
/-- the feed's cells stand -/
def Cells (m : Mo) (cs : List Int) : Mo := { m with phi := fun HE => HE m.ca = some (.lst (cs.map V.int)) }
theorem sq_cells {ss : List Stmt} (i : Nat) (hi : ρ[i]? = some (some .feed)) (h : ∀ cs : List Int, cs.length ≤ 63 → SQ X (Cells m cs) ρ ss E) : SQ X m ρ ss E := by
  intro σ H HE H0 S D d
  obtain ⟨v, hv', a, e1, e2⟩ := S.slots i _ hi
  obtain ⟨cs, n, r0, t, h1, h2, h3, h4⟩ := S.fe a e1
  have gr : ∀ {A B : Hp}, Gr m A B → Gr (Cells m cs) A B := fun g => ⟨g.keep, g.tabs, g.free, g.feed⟩
  have rg : ∀ {A B : Hp}, Gr (Cells m cs) A B → Gr m A B := fun g => ⟨g.keep, g.tabs, g.free, g.feed⟩
  have hd : ∀ {HE H0 H : Hp} {v : V} {b : Bd}, holds X.K m HE H0 H v b → holds X.K (Cells m cs) HE H0 H v b := fun {HE H0 H v b} z => by
    cases b with
    | lst k ds => cases k <;> exact z
    | dct k ds => cases k <;> exact z
    | _ => exact z
  have dh : ∀ {HE H0 H : Hp} {v : V} {b : Bd}, holds X.K (Cells m cs) HE H0 H v b → holds X.K m HE H0 H v b := fun {HE H0 H v b} z => by
    cases b with
    | lst k ds => cases k <;> exact z
    | dct k ds => cases k <;> exact z
    | _ => exact z
  refine h cs h3 σ H HE H0 ⟨h2, gr S.ent, gr S.gr, S.fe, S.tb, S.len, fun i b e => let ⟨v, a1, a2⟩ := S.slots i b e; ⟨v, a1, hd a2⟩, S.apart⟩ D ?_
  have back : ∀ {ρ' : Ab} {σ' : L2.St} {H' : Hp}, SSt X.K (Cells m cs) HE H0 ρ' σ' H' → SSt X.K m HE H0 ρ' σ' H' := fun S' => ⟨S.phi, rg S'.ent, rg S'.gr, S'.fe, S'.tb, S'.len, fun i b e => let ⟨v, a1, a2⟩ := S'.slots i b e; ⟨v, a1, dh a2⟩, S'.apart⟩
  exact ⟨fun ρ' σ' H' S' q => d.nx _ _ _ (back S') q, fun v b H' g r q => d.rt v b H' (rg g) (hr_mode (m := Cells m cs) (m' := m) rfl (.inr rfl) r) q, fun ρ' σ' H' S' q => d.bk _ _ _ (back S') q, fun ρ' σ' H' S' q => d.ct _ _ _ (back S') q⟩
/-- a name of the cells, read as a list -/
theorem vcell (i : Nat) {x : Str} {cs : List Int} (hi : ρ[i]? = some (some (.val (.ref m.ca))) := by rfl) (hN : X.N[i]? = some x := by rfl) (hv : Vis X.env.scope x := by first | exact .inl rfl | exact .inr (.inl rfl) | exact .inr (.inr rfl))
    (hd : (x == ("__debug__" : Str)) = false := by decide) (hcd : (x == ("__classdict__" : Str)) = false := by decide) : EQ X (Cells m cs) ρ (.Name x pos) (· = .lst .par (cs.map enc)) := by
  intro σ H HE H0 S Qv kk
  obtain ⟨v, hv', e⟩ := S.slots i _ hi
  have e : v = .ref m.ca := e
  subst e
  have h0 : HE m.ca = some (.lst (cs.map V.int)) := S.phi
  have h1 := S.gr.lst S.fe0 (S.ent.lst S.fe h0)
  exact ew_of (pe_var hN hv hd hcd) ⟨_, hv', kk _ (.lst .par (cs.map enc)) H Gr.refl ⟨_, _, rfl, .of h1, DVs.ints cs⟩ rfl⟩
/-! ### numbers of which only something is known -/
abbrev EZ (X : Cx) (m : Mo) (ρ : Ab) (e : Expr) (P : Int → Prop) : Prop := EQ X m ρ e fun b => ∃ i, b = .dat (.int i) ∧ P i
variable {P P1 P2 : Int → Prop}
theorem ez {i : Int} (h : ED X m ρ e (.int i)) (q : P i) : EZ X m ρ e P := h.mono fun b eb => ⟨i, eb, q⟩
theorem ez_n {i : Nat} (h : ED X m ρ e (enc i)) (q : P (i : Int)) : EZ X m ρ e P := h.mono fun b eb => ⟨i, eb, q⟩
theorem AR.mono {r : R2} {b1 b2 : Bd} {Q Q' : Bd → Prop} (h : AR X m r b1 b2 Q) (q : ∀ b, Q b → Q' b) : AR X m r b1 b2 Q' := fun Ha Hb H x y f r1 r2 Qv k => h Ha Hb H x y f r1 r2 Qv fun v d H' g r z => k v d H' g r (q _ z)
theorem ez2 {r : R2} {g : Int → Int → Int} (h1 : EZ X m ρ a P1) (h2 : EZ X m ρ b P2) (hr : ∀ i j, P1 i → P2 j → AR X m r (.dat (.int i)) (.dat (.int j)) (· = .dat (.int (g i j)))) (q : ∀ i j, P1 i → P2 j → P (g i j)) :
    EQ X m ρ a fun b1 => EQ X m ρ b fun b2 => AR X m r b1 b2 fun d => ∃ i, d = .dat (.int i) ∧ P i := h1.mono fun b1 ⟨i, e1, p1⟩ => h2.mono fun b2 ⟨j, e2, p2⟩ => by
  subst e1 e2
  exact (hr i j p1 p2).mono fun d e => ⟨_, e, q i j p1 p2⟩
theorem ez_add (h1 : EZ X m ρ a P1) (h2 : EZ X m ρ b P2) (q : ∀ i j, P1 i → P2 j → P (i + j)) : EZ X m ρ (.BinOp a .Add b pos) P := eq_bop op_add (ez2 h1 h2 (fun i j _ _ => ar_I0 fun _ _ _ => .int _) q)
theorem ez_mul (h1 : EZ X m ρ a P1) (h2 : EZ X m ρ b P2) (hc : ∀ i j, P1 i → P2 j → CMul i j) (q : ∀ i j, P1 i → P2 j → P (i * j)) : EZ X m ρ (.BinOp a .Mult b pos) P := eq_bop op_mul (ez2 h1 h2 (fun i j p1 p2 => ar_I (gd := fun i j => .int (i * j)) (fun _ _ _ => .int _) (hc i j p1 p2)) q)
theorem ez_mod (h1 : EZ X m ρ a P1) (h2 : EZ X m ρ b P2) (hc : ∀ j, P2 j → 0 < j) (q : ∀ i j, P1 i → P2 j → P (i % j)) : EZ X m ρ (.BinOp a .Mod b pos) P := eq_bop op_mod (ez2 h1 h2 (fun i j p1 p2 => ar_I (gd := fun i j => .int (i % j)) (fun _ _ _ => .int _) (hc j p2)) q)
theorem ez_fdiv (h1 : EZ X m ρ a P1) (h2 : EZ X m ρ b P2) (hc : ∀ i j, P1 i → P2 j → CDiv i j) (q : ∀ i j, P1 i → P2 j → P (i / j)) : EZ X m ρ (.BinOp a .FloorDiv b pos) P := eq_bop op_fdiv (ez2 h1 h2 (fun i j p1 p2 => ar_I (gd := fun i j => .int (i / j)) (fun _ _ _ => .int _) (hc i j p1 p2)) q)
theorem ez_int (hg : Gl X "int") (hm : X.mg "int" = none) (h : EZ X m ρ a P) (hs : starEach [a] X.env = (false, eval a X.env) :: starEach [] X.env := by rfl) (hpl : (backTo pos (starEach [] X.env)).any (·.1) = false := by rfl) : EZ X m ρ (.Call (.Name "int" p) [a] [] pos) P :=
  eq_cb (pe_callTy call_int1 hg hm (by decide +kernel) (pa_aw X [a]) (he := hs) (hpl := hpl)) (aq_cons (h.mono fun b ⟨i, e, hp⟩ => aq_nil (by
    subst e
    intro Ha H vs _ r Qv k
    cases r with
    | cons r1 r2 =>
      cases r2
      rw [DV.int_eq r1]
      exact .inl ⟨i, rfl, k _ (.dat (.int i)) H Gr.refl (.int _) ⟨i, rfl, hp⟩⟩)) hs)
theorem ez_any (h : EZ X m ρ e P) : EZ X m ρ e fun _ => True := h.mono fun b ⟨i, e, _⟩ => ⟨i, e, True.intro⟩
/-- a name is given such a number -/
theorem s1_setZ {i : Nat} {x : Str} {pos' : Pos} (hN : X.N.Nodup) (hi : X.N[i]? = some x) (hx : Loc X.env.scope x) (h : EZ X m ρ e P) (q : ∀ z, P z → E.nx (ρ.set i (some (.dat (.int z))))) (hs : swapsWith e (some (.Name x pos')) pos.line X.env = pure false := by rfl)
    (hf : X.fn x = true ∨ X.env.scope.names.lookup x = some .local := by first | exact .inl rfl | exact .inr rfl | assumption) : S1 X m ρ (.Assign [.Name x pos'] e pos) E :=
  s1_set hN hi hx (h.mono fun b ⟨z, e, hp⟩ => by rw [e]; exact ⟨True.intro, q z hp⟩) hs hf
theorem s1_retQ {Q : Bd → Prop} (h : EQ X m ρ e Q) (q : ∀ b, Q b → E.rt b) : S1 X m ρ (.Return (some e) pos) E := s1_ret (h.mono q)
/-! ### tests of which only something is known -/
theorem s1_ifQ {sa sb : List Stmt} {Q : Bool → Prop} (h : TQ X m ρ c Q) (ht : Q true → SQ X m ρ sa E) (hf : Q false → SQ X m ρ sb E) : S1 X m ρ (.If c sa sb pos) E := by
  intro σ H HE H0 S D d
  refine s1_of (ps_if (pt_tw X c) (pss_sw X sa) (pss_sw X sb)) (tw_then h S fun k' H1 g1 S1 e1 => ?_)
  cases k' with
  | true => exact ht e1 σ H1 HE H0 S1 D d
  | false => exact hf e1 σ H1 HE H0 S1 D d
theorem tq_cmp {op : CmpOp} {r : R2} {Q : Bool → Prop} (ho : OpR X (compareOp op) r) (hm : behindInMarks op b = false) (hq : EQ X m ρ a fun b1 => EQ X m ρ b fun b2 => AR X m r b1 b2 fun d => ∃ k, d = .dat (.bool k) ∧ Q k) : TQ X m ρ (.Compare a [op] [b] pos) Q := by
  intro σ H HE H0 S Qv kk pins s I
  refine (pt_cmpR ho (pe_ew X a) (pe_ew X b) hm).run pins s σ H Qv I (ew_then hq S fun x b1 H1 g1 S1 r1 h1 => ew_then h1 S1 fun y b2 H2 g2 S2 r2 h2 => ?_)
  refine h2 _ _ H2 x y S2.fe1 (hr_go r1 g2 S1.fe1) r2 _ fun v d H3 g3 r3 ⟨k, e, q⟩ => ?_
  subst e
  exact ⟨k, DV.bl_eq r3, kk k H3 ((g1.trans g2).trans g3) q⟩
theorem tq_gt (h1 : EZ X m ρ a P1) (h2 : EZ X m ρ b P2) : TQ X m ρ (.Compare a [.Gt] [b] pos) fun k => ∃ i j, P1 i ∧ P2 j ∧ k = decide (j < i) :=
  tq_cmp op_gt (nomark _) (h1.mono fun b1 ⟨i, e1, p1⟩ => h2.mono fun b2 ⟨j, e2, p2⟩ => by
    subst e1 e2
    exact (ar_I0 (gd := fun i j => .bool (decide (j < i))) fun _ _ _ => .bl _).mono fun d e => ⟨_, e, i, j, p1, p2, rfl⟩)
theorem tq_lt (h1 : EZ X m ρ a P1) (h2 : EZ X m ρ b P2) : TQ X m ρ (.Compare a [.Lt] [b] pos) fun k => ∃ i j, P1 i ∧ P2 j ∧ k = decide (i < j) :=
  tq_cmp op_lt (nomark _) (h1.mono fun b1 ⟨i, e1, p1⟩ => h2.mono fun b2 ⟨j, e2, p2⟩ => by
    subst e1 e2
    exact (ar_I0 (gd := fun i j => .bool (decide (i < j))) fun _ _ _ => .bl _).mono fun d e => ⟨_, e, i, j, p1, p2, rfl⟩)
theorem tq_ge (h1 : EZ X m ρ a P1) (h2 : EZ X m ρ b P2) : TQ X m ρ (.Compare a [.GtE] [b] pos) fun k => ∃ i j, P1 i ∧ P2 j ∧ k = decide (j ≤ i) :=
  tq_cmp op_ge (nomark _) (h1.mono fun b1 ⟨i, e1, p1⟩ => h2.mono fun b2 ⟨j, e2, p2⟩ => by
    subst e1 e2
    exact (ar_I0 (gd := fun i j => .bool (decide (j ≤ i))) fun _ _ _ => .bl _).mono fun d e => ⟨_, e, i, j, p1, p2, rfl⟩)
/-- a test that only leaves the feed and new things behind -/
theorem tq_and {Q Q1 : Bool → Prop} (h : TQ X m ρ a Q1) (h2 : TQ X m ρ b Q) (h0 : Q1 false → Q false) : TQ X m ρ (.BoolOp .And [a, b] pos) Q := by
  intro σ H HE H0 S Qv kk pins s I
  refine (pw_and (pt_tw X a) (pw_and1 (pt_tw X b))).run _ pins s σ H Qv I (tw_then h S fun c H1 g1 S1 q1 => ?_)
  cases c with
  | true => exact h2 σ H1 HE H0 S1 _ fun c H' g q => kk c H' (g1.trans g) q
  | false => exact kk false H1 g1 (h0 q1)
theorem TQ.any {Q : Bool → Prop} (h : TQ X m ρ c Q) : TQ X m ρ c fun _ => True := h.mono fun _ _ => True.intro
end
end W97
end
section
set_option Elab.async false
set_option linter.all false
set_option maxRecDepth 100000
set_option maxHeartbeats 2000000
namespace W97
open PySem PySem.Spec PyProof.Rows L2 PyEnc
section
variable {X : Cx} {m : Mo} {HE H0 H H1 : Hp} {ρ ρ' : Ab} {σ : L2.St} {a b c e : Expr} {es : List Expr} {pos p q0 : Pos} {E : AE}
theorem s1_par3 {i j l : Nat} {x y z : Str} {px py pz pt : Pos} {kt k2 pt2} (hc : X.calm = true) (hN : X.N.Nodup) (hi : X.N[i]? = some x) (hj : X.N[j]? = some y) (hl : X.N[l]? = some z) (hij : i ≠ j) (hil : i ≠ l) (hjl : j ≠ l)
    (hx : X.env.scope.names.lookup x = some .local) (hy : X.env.scope.names.lookup y = some .local) (hz : X.env.scope.names.lookup z = some .local)
    (h : EQ X m ρ a fun b1 => b1.fine ∧ EQ X m ρ b fun b2 => b2.fine ∧ EQ X m ρ c fun b3 => b3.fine ∧ E.nx (((ρ.set i (some b1)).set j (some b2)).set l (some b3)))
    (hw : swappedStores [.Tuple [.Name x px, .Name y py, .Name z pz] kt pt] (.Tuple [a, b, c] k2 pt2) X.env = pure (some [x, y, z]) := by rfl)
    (hs : swapsWithSole [.Tuple [.Name x px, .Name y py, .Name z pz] kt pt] (.Tuple [a, b, c] k2 pt2) pos.line X.env = pure false := by rfl)
    (h1 : starEach [a, b, c] X.env = (false, eval a X.env) :: starEach [b, c] X.env := by rfl) (h2 : starEach [b, c] X.env = (false, eval b X.env) :: starEach [c] X.env := by rfl) (h3 : starEach [c] X.env = (false, eval c X.env) :: starEach [] X.env := by rfl) :
    S1 X m ρ (.Assign [.Tuple [.Name x px, .Name y py, .Name z pz] kt pt] (.Tuple [a, b, c] k2 pt2) pos) E := by
  intro σ H HE H0 S D d
  refine s1_of (ps_par3 hc hN hi hj hl hij hil hjl hx hy hz (pa_cons (pe_ew X a) (pa_cons (pe_ew X b) (pa_cons (pe_ew X c) pa_nil h3) h2) h1) hw hs) (ew_then h S fun v b1 H1 g1 S1 r1 q1 => ew_then q1.2 S1 fun u b2 H2 g2 S2 r2 q2 => ew_then q2.2 S2 fun w b3 H3 g3 S3 r3 q3 => ?_)
  exact ⟨v, u, w, rfl, d.nx _ _ H3 (((S.set g1 r1 q1.1).set g2 r2 q2.1).set g3 r3 q3.1) q3.2⟩
theorem sq_thru {st : Stmt} {ss : List Stmt} (N : Ab → Prop) (h : S1 X m ρ st { E with nx := N }) (k : ∀ ρ', N ρ' → SQ X m ρ' ss E) : SQ X m ρ (st :: ss) E := sq_cons (h.mono k (fun _ z => z) (fun _ z => z) fun _ z => z)
end
section
variable {P : Program} {w : World} {K : PySem.W.Frag} {mg : Str → Option Value} {base : Heap}
def Fpick : List Bd → (Bd → Prop) → Prop := fun bs R => ∃ lim : Nat, 0 < lim ∧ lim < 1073741824 ∧ bs = [.feed, .dat (enc lim)] ∧ R = fun b => ∃ n, n < lim ∧ b = .dat (enc n)
theorem sc_pick : FnScope ["_law_feed_here", "_law_limit", "_law_figure", "_law_here", "_law_cells", "_law_cell", "_law_mixed"] ["_law_feed_here", "_law_limit"] (defScope (topS 79)) := ⟨rfl, rfl, rfl, by decide +kernel, rfl, by decide +kernel, by decide +kernel⟩
theorem below {z : Int} {lim : Nat} (h : 0 ≤ z ∧ z < lim) : ∃ n, n < lim ∧ Bd.dat (.int z) = .dat (enc n) := ⟨z.toNat, by omega, by
  show Bd.dat (.int z) = .dat (.int (z.toNat : Int))
  rw [Int.toNat_of_nonneg h.1]⟩
theorem f_pick (E : En K mg) : Fn P w K mg base "_law_pick" 1 ["_law_feed_here", "_law_limit"] none true Fpick := by
  refine mkFn E 55 sc_pick (by decide) (fun bs R h => by obtain ⟨_, _, _, rfl, _⟩ := h; rfl) (fun _ _ _ _ _ _ us hl => match us, hl with | [_, _], _ => rfl) fun f cdv A outer s H X fa ca bs R hr hf h => ?_
  obtain ⟨lim, hl0, hl1, rfl, rfl⟩ := h
  have lp : (0 : Int) < lim := by omega
  refine sq_cells 0 rfl fun cs hcs => ?_
  refine sq_cons (s1_fput (i := 0) (key := "turn") (P := fun _ => True) hr rfl rfl (.inl rfl) (ez_add (P1 := fun _ => True) (P2 := fun _ => True) (eq_fget (i := 0) (key := "turn") hr rfl rfl (.inl rfl) (fun _ _ _ _ => feed_turn) fun n r t _ => ⟨.dat (.int t), fun H => .int t, t, rfl, True.intro⟩) (ez ed_int True.intro) fun _ _ _ _ => True.intro) (fun ca n r t z _ hn => ⟨n, r, z, hn, put_turn⟩) ?_)
  have rest : ∀ {ρ : Ab}, ρ[0]? = some (some .feed) → True := fun _ => True.intro
  refine sq_cons (s1_ifQ (TQ.any (tq_gt (P1 := fun _ => True) (P2 := fun _ => True) (eq_fget (i := 0) (key := "rest") hr rfl rfl (.inl rfl) (fun _ _ _ _ => feed_rest) fun n r t _ => ⟨.dat (.int r), fun H => .int r, r, rfl, True.intro⟩) (ez ed_int True.intro))) (fun _ => ?_) fun _ => sq_nil ?_)
  · refine sq_cons (s1_setZ (i := 2) (P := fun z => 0 ≤ z ∧ z < lim) sc_pick.nd rfl (.inl rfl) (ez_mod (P1 := fun _ => True) (P2 := fun z => z = lim) (ez_int rfl E.int_ (eq_fget (i := 0) (key := "rest") hr rfl rfl (.inl rfl) (fun _ _ _ _ => feed_rest) fun n r t _ => ⟨.dat (.int r), fun H => .int r, r, rfl, True.intro⟩)) (ez (v 1) rfl) (fun j e => by omega) fun i j _ e => by
      subst e
      exact ⟨Int.emod_nonneg _ (by omega), Int.emod_lt_of_pos _ lp⟩) fun z hz => ?_)
    refine sq_cons (s1_fput (i := 0) (key := "rest") (P := fun _ => True) hr rfl rfl (.inl rfl) (ez_fdiv (P1 := fun _ => True) (P2 := fun z => z = lim) (eq_fget (i := 0) (key := "rest") hr rfl rfl (.inl rfl) (fun _ _ _ _ => feed_rest) fun n r t _ => ⟨.dat (.int r), fun H => .int r, r, rfl, True.intro⟩) (ez (v 1) rfl) (fun i j _ e => ⟨by omega, by omega⟩) fun _ _ _ _ => True.intro) (fun ca n r t z _ hn => ⟨n, z, t, hn, put_rest⟩) ?_)
    exact sq_cons (s1_retD (v 2) (below hz))
  refine sq_cons (s1_par3 (i := 3) (j := 4) (l := 5) rfl sc_pick.nd rfl rfl rfl (by decide) (by decide) (by decide) rfl rfl rfl (eq_fget (i := 0) (key := "next") hr rfl rfl (.inl rfl) (fun _ _ _ _ => feed_next) fun n r t hn => ⟨.dat (.int n), fun H => .int n, True.intro, ?_⟩))
  refine eq_fget (i := 0) (key := "cells") hr rfl rfl (.inl rfl) (fun _ _ _ _ => feed_cells) fun _ _ _ _ => ⟨.val (.ref ca), fun H => rfl, True.intro, ?_⟩
  refine ed_int.mono fun b e => ⟨by rw [e]; exact True.intro, ?_⟩
  subst e
  obtain ⟨n0, rfl⟩ := Int.eq_ofNat_of_zero_le hn
  refine sq_cons (s1_fput (i := 0) (key := "next") (P := fun z => 0 ≤ z) hr rfl rfl (.inl rfl) (ez_add (P1 := fun z => 0 ≤ z) (P2 := fun z => 0 ≤ z) (ez (v 3) (by omega)) (ez ed_int (by decide)) fun i j h1 h2 => by omega) (fun ca n r t z hz hn => ⟨z, r, t, hz, put_next⟩) ?_)
  refine sq_thru (fun ρ' => ∃ z : Int, ρ' = [some .feed, some (.dat (enc lim)), none, some (.dat (enc n0)), some (.val (.ref ca)), some (.dat (.int z)), none]) (s1_if (k := !decide (cs = [])) (td_neLE (l := cs) (l' := []) (o' := .own) hr (vcell 4) (el_lst ad_nil (Nat.zero_le _))) (fun hc => ?_) fun _ => sq_nil ⟨58276, rfl⟩) ?_
  · have hne : cs ≠ [] := by simpa using hc
    have hlen : 0 < cs.length := List.length_pos_iff.mpr hne
    have hx : n0 % cs.length < cs.length := Nat.mod_lt _ hlen
    exact sq_cons (s1_setD (d := enc (cs[n0 % cs.length])) sc_pick.nd (i := 5) rfl (.inl rfl) (ixL (n := n0 % cs.length) (vcell 4) (ed_mod (i := (n0 : Int)) (j := (cs.length : Int)) (ed_intOf rfl E.int_ (v 3)) (lenL rfl E.len_ (vcell 4)) (by omega)) (List.getElem?_eq_getElem hx)) (sq_nil ⟨_, rfl⟩))
  rintro _ ⟨z, rfl⟩
  refine sq_cons (s1_ifQ (TQ.any (tq_and (Q := fun _ => True) (tq_lt (P1 := fun _ => True) (P2 := fun _ => True) (ez (v 3) True.intro) (ez (lenL rfl E.len_ (vcell 4)) True.intro)) (tq_ge (P1 := fun _ => True) (P2 := fun _ => True) (ez (v 5) True.intro) (ez (ed_pow ed_int ed_int ⟨by decide, by decide, by decide⟩) True.intro)).any fun _ => True.intro)) (fun _ => ?_) fun _ => sq_nil ?_)
  · refine sq_cons (s1_fput (i := 0) (key := "rest") (P := fun _ => True) hr rfl rfl (.inl rfl) (ez_fdiv (P1 := fun _ => True) (P2 := fun z => z = lim) (ez (v 5) True.intro) (ez (v 1) rfl) (fun i j _ e => ⟨by omega, by omega⟩) fun _ _ _ _ => True.intro) (fun ca n r t z _ hn => ⟨n, z, t, hn, put_rest⟩) ?_)
    exact sq_cons (s1_retQ (ez_mod (P := fun z => 0 ≤ z ∧ z < lim) (P1 := fun _ => True) (P2 := fun z => z = lim) (ez_int rfl E.int_ (ez (v 5) True.intro)) (ez (v 1) rfl) (fun j e => by omega) fun i j _ e => by
      subst e
      exact ⟨Int.emod_nonneg _ (by omega), Int.emod_lt_of_pos _ lp⟩) fun b ⟨z, e, hz⟩ => by subst e; exact below hz)
  have tt : ∀ {X : Cx} {m : Mo} {ρ : Ab} {e : Expr} {i : Int}, ED X m ρ e (.int i) → EZ X m ρ e fun _ => True := fun h => ez h True.intro
  refine sq_cons (s1_setZ (i := 6) (P := fun z => 0 ≤ z ∧ z < 2147483647) sc_pick.nd rfl (.inl rfl) (ez_mod (P1 := fun _ => True) (P2 := fun z => z = 2147483647) (ez_int rfl E.int_ (ez_add (P1 := fun _ => True) (P2 := fun _ => True) (ez_add (P1 := fun _ => True) (P2 := fun _ => True) (ez_mod (P1 := fun _ => True) (P2 := fun z => z = 1000000967) (ez_int rfl E.int_ (tt (v 5))) (ez ed_int rfl) (fun j e => by omega) fun _ _ _ _ => True.intro) (ez_mul (P1 := fun z => z = 287344) (P2 := fun _ => True) (ez ed_int rfl) (eq_fget (i := 0) (key := "turn") hr rfl rfl (.inl rfl) (fun _ _ _ _ => feed_turn) fun n r t _ => ⟨.dat (.int t), fun H => .int t, t, rfl, True.intro⟩) (fun i j e _ => .inl ⟨by omega, by omega⟩) fun _ _ _ _ => True.intro) fun _ _ _ _ => True.intro) (tt ed_int) fun _ _ _ _ => True.intro)) (ez ed_int rfl) (fun j e => by omega) fun i j _ e => ⟨Int.emod_nonneg _ (by omega), by have := Int.emod_lt_of_pos i (b := j) (by omega); omega⟩) fun y hy => ?_)
  refine sq_cons (s1_setZ (i := 6) (P := fun z => 0 ≤ z ∧ z < 2147483629) sc_pick.nd rfl (.inl rfl) (ez_mod (P1 := fun _ => True) (P2 := fun z => z = 2147483629) (ez_int rfl E.int_ (ez_add (P1 := fun _ => True) (P2 := fun _ => True) (ez_add (P1 := fun _ => True) (P2 := fun _ => True) (ez_mul (P1 := fun z => z = y) (P2 := fun _ => True) (ez (v 6) rfl) (tt (v 6)) (fun i j e _ => .inl ⟨by omega, by omega⟩) fun _ _ _ _ => True.intro) (ez_mul (P1 := fun z => z = 7332448) (P2 := fun _ => True) (ez ed_int rfl) (eq_fget (i := 0) (key := "turn") hr rfl rfl (.inl rfl) (fun _ _ _ _ => feed_turn) fun n r t _ => ⟨.dat (.int t), fun H => .int t, t, rfl, True.intro⟩) (fun i j e _ => .inl ⟨by omega, by omega⟩) fun _ _ _ _ => True.intro) fun _ _ _ _ => True.intro) (tt ed_int) fun _ _ _ _ => True.intro)) (ez ed_int rfl) (fun j e => by omega) fun i j _ e => ⟨Int.emod_nonneg _ (by omega), by have := Int.emod_lt_of_pos i (b := j) (by omega); omega⟩) fun x hx => ?_)
  exact sq_cons (s1_retQ (ez_mod (P := fun z => 0 ≤ z ∧ z < lim) (P1 := fun _ => True) (P2 := fun z => z = lim) (ez_int rfl E.int_ (ez_fdiv (P1 := fun _ => True) (P2 := fun z => z = 16) (ez_mod (P1 := fun _ => True) (P2 := fun z => z = 2147483587) (ez_int rfl E.int_ (ez_add (P1 := fun _ => True) (P2 := fun _ => True) (ez_mul (P1 := fun z => z = x) (P2 := fun _ => True) (ez (v 6) rfl) (tt (v 6)) (fun i j e _ => .inl ⟨by omega, by omega⟩) fun _ _ _ _ => True.intro) (ez_mul (P1 := fun z => z = 4828) (P2 := fun _ => True) (ez ed_int rfl) (tt (v 6)) (fun i j e _ => .inl ⟨by omega, by omega⟩) fun _ _ _ _ => True.intro) fun _ _ _ _ => True.intro)) (ez ed_int rfl) (fun j e => by omega) fun _ _ _ _ => True.intro) (ez ed_int rfl) (fun i j _ e => ⟨by omega, by omega⟩) fun _ _ _ _ => True.intro)) (ez (v 1) rfl) (fun j e => by omega) fun i j _ e => by
      subst e
      exact ⟨Int.emod_nonneg _ (by omega), Int.emod_lt_of_pos _ lp⟩) fun b ⟨z, e, hz⟩ => by subst e; exact below hz)
end
end W97
end
section
set_option Elab.async false
set_option linter.all false
set_option maxRecDepth 100000
set_option maxHeartbeats 2000000
namespace W97
open PySem PySem.Spec PyProof.Rows L2 PyEnc
theorem map_erase {α β : Type} {f : α → β} : ∀ (l : List α) (n : Nat), (l.eraseIdx n).map f = (l.map f).eraseIdx n
  | [], _ => rfl
  | _ :: _, 0 => rfl
  | a :: l, n + 1 => congrArg (f a :: ·) (map_erase l n)
section
variable {X : Cx} {m : Mo} {HE H0 H H1 : Hp} {ρ ρ' : Ab} {σ : L2.St} {a b c e elt tg iter : Expr} {es : List Expr} {pos p q0 : Pos} {E : AE} {α β : Type} [DecidableEq α] [PyEnc α] [DecidableEq β] [PyEnc β]
theorem eq_pick {k lim : Nat} (F : Fn X.prog X.w X.K X.mg X.base "_law_pick" 1 ["_law_feed_here", "_law_limit"] none true Fpick) (hr' : Room k X.A) (hk : 1 ≤ k) (hg : Gl X "_law_pick") (hw : m.wd = some X.w) (h1 : EQ X m ρ a (· = .feed)) (h2 : ED X m ρ b (enc lim)) (hl0 : 0 < lim) (hl1 : lim < 1073741824)
    (he : starEach [a, b] X.env = (false, eval a X.env) :: starEach [b] X.env := by rfl) (he2 : starEach [b] X.env = (false, eval b X.env) :: starEach [] X.env := by rfl) (hpl : (backTo pos (starEach [b] X.env)).any (·.1) = false := by rfl) :
    EQ X m ρ (.Call (.Name "_law_pick" p) [a, b] [] pos) fun d => ∃ n : Nat, d = .dat (enc n) ∧ n < lim :=
  eq_call F (hr'.mono hk) hg hw (.inl rfl) (aq_cons (h1.mono fun b1 e1 => aq_cons (h2.mono fun b2 e2 => aq_nil ⟨(fun z => by cases z), [.feed, .dat (enc lim)], _, by subst e1 e2; rfl, ⟨lim, hl0, hl1, rfl, rfl⟩, fun b ⟨n, h, e⟩ => ⟨n, e, h⟩⟩) he2) he) (by decide) he hpl
theorem dvs_erase {K : PySem.W.Frag} {H : Hp} : ∀ {ds : List PyData} {vs : List V} (n : Nat), DVs K H vs ds → DVs K H (vs.eraseIdx n) (ds.eraseIdx n)
  | [], _, n, h => by cases h; exact .nil
  | d :: ds, _, 0, h => by
    cases h with
    | cons _ h2 => exact h2
  | d :: ds, _, n + 1, h => by
    cases h with
    | cons h1 h2 => exact .cons h1 (dvs_erase n h2)
theorem seqIx {n len : Nat} (h : n < len) : seqIndex? (n : Int) len = some n := by
  unfold seqIndex?
  have e1 : ¬ ((n : Int) < 0) := by omega
  simp only [e1, if_false]
  rw [if_pos (by simp; omega)]
  simp
/-- xs.append(ys.pop(e)) -/
theorem s1_appPop {i j : Nat} {x y : Str} {px py apos cpos apos2 cpos2 : Pos} {ds es' : List PyData} (hij : i ≠ j) (hi : ρ[i]? = some (some (.lst .own ds))) (hj : ρ[j]? = some (some (.lst .own es'))) (hN : X.N[i]? = some x) (hv : Vis X.env.scope x) (hN2 : X.N[j]? = some y) (hv2 : Vis X.env.scope y)
    (h : EQ X m ρ e fun b => ∃ n : Nat, b = .dat (enc n) ∧ ∃ d, es'[n]? = some d ∧ E.nx ((ρ.set j (some (.lst .own (es'.eraseIdx n)))).set i (some (.lst .own (ds ++ [d]))))) (hl : ds.length < sizeLine) (hl2 : es'.length ≤ 1000)
    (hd : (x == ("__debug__" : Str)) = false := by decide) (hcd : (x == ("__classdict__" : Str)) = false := by decide) (hd2 : (y == ("__debug__" : Str)) = false := by decide) (hcd2 : (y == ("__classdict__" : Str)) = false := by decide)
    (hb1 : attributeBase (.Name x px) "append" X.env (eval (.Name x px) X.env) = eval (.Name x px) X.env := by rfl)
    (hf1 : ((backTo cpos (starEach [.Call (.Attribute (.Name y py) "pop" apos2) [e] [] cpos2] X.env)).all (fun x => !x.1) && (backToKw cpos (keywordEach [] X.env)).all (fun x => x.1.isSome) && decide (([.Call (.Attribute (.Name y py) "pop" apos2) [e] [] cpos2] : List Expr).length + ([] : List Keyword).length + (if ([] : List Keyword).isEmpty then 0 else 1) < 30)) = true := by rfl)
    (hn1 : (apos.endLine == cpos.line) = true := by rfl) (hs1 : starEach [.Call (.Attribute (.Name y py) "pop" apos2) [e] [] cpos2] X.env = (false, eval (.Call (.Attribute (.Name y py) "pop" apos2) [e] [] cpos2) X.env) :: starEach [] X.env := by rfl) (hp1 : (backTo cpos (starEach [] X.env)).any (·.1) = false := by rfl)
    (hb2 : attributeBase (.Name y py) "pop" X.env (eval (.Name y py) X.env) = eval (.Name y py) X.env := by rfl)
    (hf2 : ((backTo cpos2 (starEach [e] X.env)).all (fun x => !x.1) && (backToKw cpos2 (keywordEach [] X.env)).all (fun x => x.1.isSome) && decide ([e].length + ([] : List Keyword).length + (if ([] : List Keyword).isEmpty then 0 else 1) < 30)) = true := by rfl)
    (hn2 : (apos2.endLine == cpos2.line) = true := by rfl) (hs2 : starEach [e] X.env = (false, eval e X.env) :: starEach [] X.env := by rfl) (hp2 : (backTo cpos2 (starEach [] X.env)).any (·.1) = false := by rfl)
    (hsw : swapsWith (.Call (.Attribute (.Name x px) "append" apos) [.Call (.Attribute (.Name y py) "pop" apos2) [e] [] cpos2] [] cpos) none pos.line X.env = pure false := by rfl) :
    S1 X m ρ (.Expr (.Call (.Attribute (.Name x px) "append" apos) [.Call (.Attribute (.Name y py) "pop" apos2) [e] [] cpos2] [] cpos) pos) E := by
  intro σ H HE H0 S D d
  refine s1_of (ps_expr (pe_bm PySem.F.plainAttrs_list PySem.F.slot_list_append PySem.F.type_list_append mt_append (pe_var hN hv hd hcd) (pa_cons (pe_bm PySem.F.plainAttrs_list PySem.F.slot_list_pop PySem.F.type_list_pop mt_popAt (pe_var hN2 hv2 hd2 hcd2) (pa_cons (pe_ew X e) pa_nil hs2) hb2 hf2 hn2 hs2 hp2) pa_nil hs1) hb1 hf1 hn1 hs1 hp1) hsw) ?_
  obtain ⟨v, hv', p, vs, ev, h1, h2, h3⟩ := S.slots i _ hi
  obtain ⟨u, hu', q, us, eu, k1, k2, k3⟩ := S.slots j _ hj
  have hpq : p ≠ q := fun z => S.apart i j _ _ v hij hi hj rfl rfl hv' (by rw [ev, z, ← eu]; exact hu')
  subst ev eu
  refine ⟨_, hv', .inl ⟨rfl, _, .of h1⟩, _, hu', .inl ⟨rfl, _, .of k1⟩, ew_then h S fun y b H1 g1 S1 r1 qq => ?_⟩
  obtain ⟨n, eb, d0, hd0, hnx⟩ := qq
  subst eb
  have hp := g1.lst S.fe1 h1
  have hq := g1.lst S.fe1 k1
  have dv := k2.keep (g1.tk S.fe1)
  obtain ⟨yv, hy, dy⟩ := dv.at hd0
  have hn : n < us.length := (List.getElem?_eq_some_iff.mp hy).1
  have hul : us.length ≤ 1000 := by rw [dv.len]; exact hl2
  refine ⟨q, us, n, n, yv, rfl, by rw [DV.int_eq r1], hq, by omega, by omega, seqIx hn, hy, ?_⟩
  have S2 := S1.mut (ys := us.eraseIdx n) hj hu' rfl hq k3 (dvs_erase n dv)
  have tk := tk_lst (ys := us.eraseIdx n) hq
  have hp2 : upd H1 q (.lst (us.eraseIdx n)) p = some (.lst vs) := by rw [upd_ne hpq]; exact hp
  refine ⟨p, vs, yv, rfl, rfl, hp2, by rw [h2.len]; exact hl, d.nx _ _ _ (S2.mut (i := i) (ds := ds) (by rw [List.getElem?_set_ne (fun z => hij z.symm)]; exact hi) hv' rfl hp2 h3 (((h2.keep (g1.tk S.fe1)).keep tk).app (.cons (dy.keep tk) .nil))) hnx⟩
theorem eq_lcE {scope : Scope} {l : List α} {Q : Bd → Prop} (G : β → Prop) (own : List (Str × Nat)) (hc : X.calm = true) (hN : X.N.Nodup) (it : ITC X m ρ tg iter (l.map enc)) (ok : BlkOk X.N X.env.scope scope own) (hlen : l.length < 100000)
    (h : ∀ x ∈ l, ∃ is ρ'', (∀ j ∈ is, j ∈ own.map (·.2)) ∧ (Blk X scope fun X' => TGD X' tg is (enc x) (wipeA (fzA ρ) (own.map (·.2))) ρ'') ∧ Blk X scope fun X' => EQ X' m ρ'' elt fun b => ∃ y, b = .dat (enc y) ∧ G y) (q : ∀ ys : List β, ys.length = l.length → (∀ y ∈ ys, G y) → Q (.lst .own (ys.map enc)))
    (hf : ∀ x, foldedSetIterable iter X.env x = pure x := by intro _; rfl) : EQ X m ρ (.ListComp elt [⟨tg, iter, [], 0⟩] scope pos) Q :=
  eq_lc hc hN it ok (Nat.zero_le _) (by rw [List.length_map]; exact hlen) (fun i acc => ∃ ys : List β, acc = ys.map enc ∧ ys.length = i ∧ ∀ y ∈ ys, G y) ⟨[], rfl, rfl, fun y h => by cases h⟩ (fun i d acc hd hI => by
    obtain ⟨x, hx, rfl⟩ := take_map hd
    obtain ⟨ys, rfl, hl, hG⟩ := hI
    obtain ⟨is, ρ'', h1, h2, h3⟩ := h x (List.mem_of_getElem? hx)
    refine ⟨is, ρ'', h1, h2, fun s H C cl fp => (h3 s H C cl fp).mono fun b ⟨y, e, hy⟩ => ⟨_, e, ys ++ [y], by rw [List.map_append]; rfl, by rw [List.length_append, hl]; rfl, fun z hz => ?_⟩⟩
    rcases List.mem_append.mp hz with hz | hz
    · exact hG z hz
    · rw [List.mem_singleton.mp hz]; exact hy) (fun acc ⟨ys, e, hl, hG⟩ => by rw [e]; exact q ys (by rw [hl, List.length_map]) hG) hf
theorem eq_tupE {G : List α → Prop} (hg : Gl X "tuple") (hm : X.mg "tuple" = none) (h : EQ X m ρ a fun b => ∃ ys : List α, b = .lst .own (ys.map enc) ∧ G ys) (hs : starEach [a] X.env = (false, eval a X.env) :: starEach [] X.env := by rfl) (hpl : (backTo pos (starEach [] X.env)).any (·.1) = false := by rfl) :
    EQ X m ρ (.Call (.Name "tuple" p) [a] [] pos) fun b => ∃ ys : List α, b = .dat (enc ys) ∧ G ys :=
  eq_tuple hg hm (h.mono fun b ⟨ys, e, q⟩ => ⟨ys.map enc, by subst e; exact (rfl : ys.map enc = ys.map enc), ys, rfl, q⟩) hs hpl
theorem prQ {x1 : Nat} {G1 : α → Prop} {G2 : β → Prop} (h1 : EQ X m ρ a fun d => ∃ x, d = .dat (enc x) ∧ G1 x) (h2 : EQ X m ρ b fun d => ∃ y, d = .dat (enc y) ∧ G2 y) (hs : starEach [a, b] X.env = (false, eval a X.env) :: starEach [b] X.env := by rfl) (hs2 : starEach [b] X.env = (false, eval b X.env) :: starEach [] X.env := by rfl) :
    EQ X m ρ (.Tuple [a, b] x1 pos) fun d => ∃ z : α × β, d = .dat (enc z) ∧ G1 z.1 ∧ G2 z.2 :=
  eq_tup (aq_cons (h1.mono fun b1 ⟨x, e1, q1⟩ => aq_cons (h2.mono fun b2 ⟨y, e2, q2⟩ => aq_nil ⟨[enc x, enc y], by subst e1 e2; rfl, show 2 ≤ sizeLine by rw [sizeLine_eq]; decide, (x, y), rfl, q1, q2⟩) hs2) hs)
end
section
variable {P : Program} {w : World} {K : PySem.W.Frag} {mg : Str → Option Value} {base : Heap}
def Fnames (K : PySem.W.Frag) : List Bd → (Bd → Prop) → Prop := fun bs R => ∃ size : Nat, size ≤ 60 ∧ bs = [.feed, .dat (enc size)] ∧ R = fun b => ∃ o : List Nat, b = .ft K (o.map enc) ∧ o.length = size ∧ (∀ s ∈ o, s < size) ∧ ∀ s, s < size → s ∈ o
theorem sc_names : FnScope ["_law_feed_here", "_law_size", "_law_left", "_law_names_here", "_law_lap"] ["_law_feed_here", "_law_size"] (defScope (topS 80)) := ⟨rfl, rfl, rfl, by decide +kernel, rfl, by decide +kernel, by decide +kernel⟩
theorem f_names (E : En K mg) : Fn P w K mg base "_law_names" 2 ["_law_feed_here", "_law_size"] none true (Fnames K) := by
  refine mkFn E 56 sc_names (by decide) (fun bs R h => by obtain ⟨_, _, rfl, _⟩ := h; rfl) (fun _ _ _ _ _ _ us hl => match us, hl with | [_, _], _ => rfl) fun f cdv A outer s H X fa ca bs R hr hf h => ?_
  obtain ⟨size, hs, rfl, rfl⟩ := h
  refine sq_cons (s1_par (i := 2) (j := 3) rfl sc_names.nd rfl rfl (by decide) rfl rfl (EQ.mono (Q := (· = .lst .own ((List.range size).map enc))) (el_listRg (n := size) rfl rfl E.list_ rfl E.range_ (v 1) (by omega)) fun b e => ⟨by rw [e]; exact True.intro, ?_⟩))
  subst e
  refine (el_lst ad_nil (Nat.zero_le _)).mono fun b e => ⟨by rw [e]; exact True.intro, ?_⟩
  subst e
  refine sq_cons (s1_for PassesOwn.never rfl (itl_rg1 (n := size) rfl E.range_ (v 1) (by omega)) (fun i ρ' => ∃ l o : List Nat, o.length = i ∧ l.length + i = size ∧ (∀ s ∈ l, s < size) ∧ (∀ s ∈ o, s < size) ∧ (∀ s, s < size → s ∈ l ∨ s ∈ o) ∧ ρ' = [some .feed, some (.dat (enc size)), some (.lst .own (l.map enc)), some (.lst .own (o.map enc)), none]) ?_ ?_ ?_ ?_)
  · exact ⟨List.range size, [], rfl, by rw [List.length_range]; rfl, fun s h => List.mem_range.mp h, (fun s h => nomatch h), (fun s h => .inl (List.mem_range.mpr h)), rfl⟩
  · rintro ρ' ⟨_, _, _, _, _, _, _, rfl⟩; rfl
  · rintro i d ρ' hd ⟨l, o, ho, hl, h1, h2, h3, rfl⟩
    have hi : i < size := by
      have z := (List.getElem?_eq_some_iff.mp hd).1
      rwa [List.length_map, List.length_range] at z
    refine ⟨[4], _, t1 4 sc_names.nd, sq_cons (s1_appPop (i := 3) (j := 2) (by decide) rfl rfl rfl (.inl rfl) rfl (.inl rfl) ((eq_pick (f_pick E) hr (by decide) rfl rfl (vf 0) (lenL (l := l) rfl E.len_ (vl 2)) (by omega) (by omega)).mono fun b ⟨n, e, hn⟩ => ⟨n, e, enc l[n], by rw [List.getElem?_map, List.getElem?_eq_getElem hn]; rfl, sq_nilF [4] ⟨l.eraseIdx n, o ++ [l[n]], ?_, ?_, ?_, ?_, ?_, ?_⟩⟩) ?_ ?_)⟩
    · rw [List.length_append, ho]; rfl
    · rw [List.length_eraseIdx_of_lt hn]; omega
    · exact fun s hs => h1 s (List.mem_of_mem_eraseIdx hs)
    · intro s hs
      rcases List.mem_append.mp hs with hs | hs
      · exact h2 s hs
      · rw [List.mem_singleton.mp hs]; exact h1 _ (List.getElem_mem hn)
    · intro s hs
      rcases h3 s hs with z | z
      · obtain ⟨k, hk⟩ := List.mem_iff_getElem?.mp z
        by_cases e : k = n
        · subst e
          rw [List.getElem?_eq_getElem hn] at hk
          exact .inr (List.mem_append_right _ (by rw [Option.some.inj hk]; exact List.mem_singleton.mpr rfl))
        · exact .inl (List.mem_eraseIdx_iff_getElem?.mpr ⟨k, e, hk⟩)
      · exact .inr (List.mem_append_left _ z)
    · rw [List.map_append, map_erase]; rfl
    · rw [List.length_map, ho, sizeLine_eq]; omega
    · rw [List.length_map]; omega
  · rintro ρ' ⟨l, o, ho, hl, h1, h2, h3, rfl⟩
    rw [List.length_map, List.length_range] at ho hl
    refine sq_cons (s1_retQ (eq_tupleF (ds := o.map enc) rfl E.tuple_ (vl 3)) fun b e => ⟨o, e, ho, h2, fun s hs => ?_⟩)
    rcases h3 s hs with z | z
    · have : l = [] := List.eq_nil_of_length_eq_zero (by omega)
      rw [this] at z; cases z
    · exact z
def Fdrawn : List Bd → (Bd → Prop) → Prop := fun bs R => ∃ wide most top : Nat, 0 < wide ∧ wide ≤ 4 ∧ 0 < most ∧ most ≤ 5 ∧ 0 < top ∧ top ≤ 10 ∧ bs = [.feed, .dat (enc wide), .dat (enc most), .dat (enc top)] ∧ R = fun b => ∃ m : Mc, b = .dat (enc m) ∧ Ok m wide ∧ m.length ≤ most
theorem sc_drawn : FnScope ["_law_feed_here", "_law_wide", "_law_most", "_law_top", "_law_size", "_law_x", "_law_s"] ["_law_feed_here", "_law_wide", "_law_most", "_law_top"] (defScope (topS 81)) := ⟨rfl, rfl, rfl, by decide +kernel, rfl, by decide +kernel, by decide +kernel⟩
theorem ez_of_pick {X : Cx} {m : Mo} {ρ : Ab} {e : Expr} {lim : Nat} (h : EQ X m ρ e fun d => ∃ n : Nat, d = .dat (enc n) ∧ n < lim) : EZ X m ρ e fun z => ∃ n : Nat, n < lim ∧ z = n := h.mono fun b ⟨n, e, hn⟩ => ⟨(n : Int), e, n, hn, rfl⟩
theorem f_drawn (E : En K mg) : Fn P w K mg base "_law_drawn" 2 ["_law_feed_here", "_law_wide", "_law_most", "_law_top"] none true Fdrawn := by
  refine mkFn E 57 sc_drawn (by decide) (fun bs R h => by obtain ⟨_, _, _, _, _, _, _, _, _, rfl, _⟩ := h; rfl) (fun _ _ _ _ _ _ us hl => match us, hl with | [_, _, _, _], _ => rfl) fun f cdv A outer s H X fa ca bs R hr hf h => ?_
  obtain ⟨wide, most, top, w0, w1, m0, m1, t0, t4, rfl, rfl⟩ := h
  refine sq_cons (s1_setZ (i := 4) (P := fun z => ∃ n : Nat, n < most ∧ z = ((1 + n : Nat) : Int)) sc_drawn.nd rfl (.inr rfl) (ez_add (P1 := fun z => z = 1) (ez ed_int rfl) (ez_of_pick (eq_pick (lim := most) (f_pick E) hr (by decide) rfl rfl (vf 0) (v 2) m0 (by omega))) fun i j e ⟨n, hn, e2⟩ => ⟨n, hn, by omega⟩) fun z ⟨n, hn, e⟩ => ?_)
  subst e
  refine sq_cons (s1_retQ (eq_tupE (G := fun m : Mc => m.length = 1 + n ∧ ∀ r ∈ m, r.length = wide ∧ ∀ p ∈ r, p.1 < 1 + n) rfl E.tuple_ ?lc) fun b ⟨m, e, hl, hm⟩ => ⟨m, e, ⟨by omega, w0, fun r hr => (hm r hr).1, fun r hr p hp => by rw [hl]; exact (hm r hr).2 p hp⟩, by omega⟩)
  refine eq_lcE (l := List.range (1 + n)) (fun r : List (Nat × Nat) => r.length = wide ∧ ∀ p ∈ r, p.1 < 1 + n) [("_law_s", 6)] rfl sc_drawn.nd (itc_rg1 (n := 1 + n) rfl E.range_ (v 4) (by omega)) (blkOk_by (by kernel_rfl)) (by rw [List.length_range]; omega) (fun x hx => ⟨[6], _, by decide, fun _ _ _ _ _ => t1 6 sc_drawn.nd, fun _ _ _ _ _ => ?in1⟩) fun ys hl hy => ⟨ys, rfl, by rw [hl, List.length_range], hy⟩
  refine eq_tupE (G := fun r : List (Nat × Nat) => r.length = wide ∧ ∀ p ∈ r, p.1 < 1 + n) rfl E.tuple_ ?lc2
  refine eq_lcE (l := List.range wide) (fun p : Nat × Nat => p.1 < 1 + n ∧ p.2 < top) [("_law_x", 5)] rfl sc_drawn.nd (itc_rg1 (n := wide) rfl E.range_ (v 1) (by omega)) (blkOk_by (by kernel_rfl)) (by rw [List.length_range]; omega) (fun x hx => ⟨[5], _, by decide, fun _ _ _ _ _ => t1 5 sc_drawn.nd, fun _ _ _ _ _ => ?in2⟩) fun ys hl hy => ⟨ys, rfl, by rw [hl, List.length_range], fun p hp => (hy p hp).1⟩
  exact prQ (G1 := fun x : Nat => x < 1 + n) (G2 := fun y : Nat => y < top) (eq_pick (lim := 1 + n) (f_pick E) hr (by decide) rfl rfl (vf 0) (v 4) (by omega) (by omega)) (eq_pick (lim := top) (f_pick E) hr (by decide) rfl rfl (vf 0) (v 3) t0 (by omega))
end
end W97
end
section
set_option Elab.async false
set_option linter.all false
set_option maxRecDepth 100000
set_option maxHeartbeats 2000000
namespace W97
open PySem PySem.Spec PyProof.Rows L2 PyEnc
section
variable {X : Cx} {m : Mo} {HE H0 H H1 : Hp} {ρ ρ' : Ab} {σ : L2.St} {a b c e elt tg iter : Expr} {es : List Expr} {pos p q0 : Pos} {E : AE} {α β : Type} [DecidableEq α] [PyEnc α] [DecidableEq β] [PyEnc β]
/-- a call that may take the feed -/
theorem eq_callF {x : Str} {k j : Nat} {ps : List Str} {tb : Option (List NdefX.NTab)} {Fs : List Bd → (Bd → Prop) → Prop} {Q : Bd → Prop} (F : Fn X.prog X.w X.K X.mg X.base x j ps tb true Fs) (hr' : Room k X.A) (hk : j ≤ k) (hg : Gl X x) (hw : m.wd = some X.w) (ht : tb = none ∨ tb = m.tb)
    (ha : AQ X m ρ (e :: es) fun bs => ∃ R, Fs bs R ∧ ∀ b, R b → Q b) (hdb : (x == ("__debug__" : Str)) = false := by decide)
    (he : starEach (e :: es) X.env = (false, eval e X.env) :: starEach es X.env := by rfl) (hpl : (backTo pos (starEach es X.env)).any (·.1) = false := by rfl) : EQ X m ρ (.Call (.Name x p) (e :: es) [] pos) Q :=
  eq_call F (hr'.mono hk) hg hw ht (fun σ H HE H0 S Qv kk => ha σ H HE H0 S Qv fun vs bs H' g r ⟨R, h1, h2⟩ => kk vs bs H' g r ⟨(fun z => by cases z), bs, R, rfl, h1, h2⟩) hdb he hpl
theorem aqF {Q : List Bd → Prop} (h : EQ X m ρ e (· = .feed)) (h2 : AQ X m ρ es fun bs => Q (.feed :: bs)) (hs : starEach (e :: es) X.env = (false, eval e X.env) :: starEach es X.env := by rfl) : AQ X m ρ (e :: es) Q := aq_cons (h.mono fun b eb => by subst eb; exact h2) hs
theorem aqD {Q : List Bd → Prop} {d : PyData} (h : ED X m ρ e d) (h2 : AQ X m ρ es fun bs => Q (.dat d :: bs)) (hs : starEach (e :: es) X.env = (false, eval e X.env) :: starEach es X.env := by rfl) : AQ X m ρ (e :: es) Q := aq_cons (h.mono fun b eb => by subst eb; exact h2) hs
theorem aqQ {Q : List Bd → Prop} {G : α → Prop} (h : EQ X m ρ e fun b => ∃ x : α, b = .dat (enc x) ∧ G x) (h2 : ∀ x, G x → AQ X m ρ es fun bs => Q (.dat (enc x) :: bs)) (hs : starEach (e :: es) X.env = (false, eval e X.env) :: starEach es X.env := by rfl) : AQ X m ρ (e :: es) Q := aq_cons (h.mono fun b ⟨x, eb, hx⟩ => by subst eb; exact h2 x hx) hs
theorem eq_ifQ {Q : Bd → Prop} (h : TQ X m ρ c fun _ => True) (h1 : EQ X m ρ a Q) (h2 : EQ X m ρ b Q) : EQ X m ρ (.IfExp c a b pos) Q := by
  intro σ H HE H0 S Qv kk
  refine ew_of (pe_ifExp (pt_tw X c) (pe_ew X a) (pe_ew X b)) (tw_then h S fun k' H1 g1 S1 e1 => ?_)
  have fin : ∀ (v : V) (bd : Bd) (H2 : Hp), Gr m H1 H2 → hr X.K m H1 H2 v bd → Q bd → Qv v H2 := fun v bd H2 g r q => kk v bd H2 (g1.trans g) (hr_back r g1) q
  cases k' with
  | true => exact h1 σ H1 HE H0 S1 Qv fin
  | false => exact h2 σ H1 HE H0 S1 Qv fin
theorem ez_pick1 {lim : Nat} (h1 : ED X m ρ a (.int 1)) (h : EQ X m ρ b fun d => ∃ n : Nat, d = .dat (enc n) ∧ n < lim) : EQ X m ρ (.BinOp a .Add b pos) fun d => ∃ n : Nat, d = .dat (enc (1 + n)) ∧ n < lim :=
  EQ.mono (Q := fun b => ∃ i, b = .dat (.int i) ∧ ∃ n : Nat, n < lim ∧ i = ((1 + n : Nat) : Int)) (ez_add (P1 := fun z => z = 1) (ez h1 rfl) (ez_of_pick h) fun i j e ⟨n, hn, e2⟩ => ⟨n, hn, by omega⟩) fun b ⟨i, e, n, hn, e2⟩ => ⟨n, by rw [e, e2]; rfl, hn⟩
end
section
variable {P : Program} {w : World} {K : PySem.W.Frag} {mg : Str → Option Value} {base : Heap}
def Ftailed : List Bd → (Bd → Prop) → Prop := fun bs R => ∃ (m : Mc) (wd more : Nat), Ok m wd ∧ wd ≤ 4 ∧ m.length ≤ 8 ∧ more ≤ 4 ∧ bs = [.feed, .dat (enc m), .dat (enc more)] ∧ R = fun b => ∃ n : Mc, b = .dat (enc n) ∧ Ok n wd ∧ n.length = m.length + more
theorem sc_tailed : FnScope ["_law_feed_here", "_law_base", "_law_more", "_law_found", "_law_lap", "_law_size", "_law_pair_here"] ["_law_feed_here", "_law_base", "_law_more"] (defScope (topS 82)) := ⟨rfl, rfl, rfl, by decide +kernel, rfl, by decide +kernel, by decide +kernel⟩
theorem f_tailed (E : En K mg) : Fn P w K mg base "_law_tailed" 2 ["_law_feed_here", "_law_base", "_law_more"] none true Ftailed := by
  refine mkFn E 58 sc_tailed (by decide) (fun bs R h => by obtain ⟨_, _, _, _, _, _, _, rfl, _⟩ := h; rfl) (fun _ _ _ _ _ _ us hl => match us, hl with | [_, _, _], _ => rfl) fun f cdv A outer s H X fa ca bs R hr hf h => ?_
  obtain ⟨m, wd, more, k, w4, l8, m4, rfl, rfl⟩ := h
  refine sq_cons (s1_setB (i := 3) (bd := .lst .own (m.map enc)) sc_tailed.nd rfl (.inl rfl) (el_list rfl E.list_ (EQ.items (v 1))) ?_)
  refine sq_cons (s1_for PassesOwn.never rfl (itl_rg1 (n := more) rfl E.range_ (v 2) (by omega)) (fun i ρ' => ∃ n : Mc, n.length = m.length + i ∧ (∀ r ∈ n, r.length = wd ∧ ∀ p ∈ r, p.1 < n.length) ∧ ρ' = [some .feed, some (.dat (enc m)), some (.dat (enc more)), some (.lst .own (n.map enc)), none, none, none]) ?_ ?_ ?_ ?_)
  · exact ⟨m, rfl, fun r hr => ⟨k.wide r hr, k.lt r hr⟩, rfl⟩
  · rintro ρ' ⟨_, _, _, rfl⟩; rfl
  · rintro i d ρ' hd ⟨n, hn, hG, rfl⟩
    have hi : i < more := by
      have z := (List.getElem?_eq_some_iff.mp hd).1
      rwa [List.length_map, List.length_range] at z
    obtain ⟨x, hx, rfl⟩ := take_map hd
    refine ⟨[4], _, t1 4 sc_tailed.nd, sq_cons (s1_setD (d := enc (n.length + 1)) sc_tailed.nd (i := 5) rfl (.inr rfl) (addE (lenL (l := n) rfl E.len_ (vl 3)) ed_int) ?_)⟩
    refine sq_cons (s1_append (i := 3) rfl rfl (.inl rfl) (EQ.mono (Q := fun b => ∃ r : List (Nat × Nat), b = .dat (enc r) ∧ r.length = wd ∧ ∀ p ∈ r, p.1 < n.length + 1) ?lc fun b ⟨r, e, hl, hp⟩ => ⟨_, e, sq_nilF [4, 5] ⟨n ++ [r], ?_, ?_, ?_⟩⟩) ?_)
    case lc =>
      refine eq_tupE (G := fun r : List (Nat × Nat) => r.length = wd ∧ ∀ p ∈ r, p.1 < n.length + 1) rfl E.tuple_ ?_
      refine eq_lcE (l := st m 0) (fun p : Nat × Nat => p.1 < n.length + 1 ∧ p.2 < 2) [("_law_pair_here", 6)] rfl sc_tailed.nd (itc_tup (ds := (st m 0).map enc) (ixE (v 1) ed_int (st_at k.ne))) (blkOk_by (by kernel_rfl)) (by rw [k.wst k.ne]; omega) (fun x hx => ⟨[6], _, by decide, fun _ _ _ _ _ => t1 6 sc_tailed.nd, fun _ _ _ _ _ => ?in2⟩) fun ys hl hy => ⟨ys, rfl, by rw [hl, k.wst k.ne], fun p hp => (hy p hp).1⟩
      exact prQ (G1 := fun x : Nat => x < n.length + 1) (G2 := fun y : Nat => y < 2) (eq_pick (lim := n.length + 1) (f_pick E) hr (by decide) rfl rfl (vf 0) (v 5) (by omega) (by omega)) (eq_pick (lim := 2) (f_pick E) hr (by decide) rfl rfl (vf 0) ed_int (by decide) (by decide))
    · rw [List.length_append, hn]; rfl
    · intro r2 hr2
      rw [List.length_append]
      rcases List.mem_append.mp hr2 with z | z
      · exact ⟨(hG r2 z).1, fun p hp => Nat.lt_succ_of_lt ((hG r2 z).2 p hp)⟩
      · rw [List.mem_singleton.mp z]; exact ⟨hl, hp⟩
    · rw [List.map_append]; rfl
    · rw [List.length_map, sizeLine_eq]; omega
  · rintro ρ' ⟨n, hn, hG, rfl⟩
    rw [List.length_map, List.length_range] at hn
    exact sq_cons (s1_retQ (ed_tuple (ds := n.map enc) rfl E.tuple_ (EQ.itemsL (vl 3))) fun b e => ⟨n, e, ⟨by have := k.ne; omega, k.wp, fun r hr => (hG r hr).1, fun r hr => (hG r hr).2⟩, hn⟩)
def Fpair : List Bd → (Bd → Prop) → Prop := fun bs R => bs = [.feed] ∧ R = fun b => ∃ z : Mc × Mc, b = .dat (enc z) ∧ ∃ wd, P5 z.1 z.2 wd
theorem part_ok {m : Mc} {wd : Nat} {o : List Nat} (k : Ok m wd) (ho : o.length = m.length) (h1 : ∀ s ∈ o, s < m.length) (h2 : ∀ s, s < m.length → s ∈ o) : Ok (partBy m o) wd := by
  unfold partBy
  refine ⟨by rw [List.length_map, ho]; exact k.ne, k.wp, fun r hr => ?_, fun r hr p hp => ?_⟩
  · obtain ⟨t, ht, rfl⟩ := List.mem_map.mp hr
    rw [List.length_map]; exact k.wst (h1 t ht)
  · obtain ⟨t, ht, rfl⟩ := List.mem_map.mp hr
    obtain ⟨q, hq, rfl⟩ := List.mem_map.mp hp
    rw [List.length_map]
    exact List.idxOf_lt_length_of_mem (h2 _ (k.lt _ (st_mem (h1 t ht)) q hq))
theorem sc_pair : FnScope ["_law_feed_here", "_law_wide", "_law_way", "_law_base", "_law_near", "_law_far"] ["_law_feed_here"] (defScope (topS 85)) := ⟨rfl, rfl, rfl, by decide +kernel, rfl, by decide +kernel, by decide +kernel⟩
theorem f_pair (E : En K mg) : Fn P w K mg base "_law_pair" 3 ["_law_feed_here"] none true Fpair := by
  refine mkFn E 61 sc_pair (by decide) (fun bs R h => by obtain ⟨rfl, _⟩ := h; rfl) (fun _ _ _ _ _ _ us hl => match us, hl with | [_], _ => rfl) fun f cdv A outer s H X fa ca bs R hr hf h => ?_
  obtain ⟨rfl, rfl⟩ := h
  refine sq_cons (s1_par (i := 1) (j := 2) rfl sc_pair.nd rfl rfl (by decide) rfl rfl (EQ.mono (Q := fun d => ∃ n : Nat, d = .dat (enc (1 + n)) ∧ n < 4) (ez_pick1 ed_int (eq_pick (lim := 4) (f_pick E) hr (by decide) rfl rfl (vf 0) ed_int (by decide) (by decide))) fun b ⟨n4, e, hn4⟩ => ⟨by rw [e]; exact True.intro, ?_⟩))
  subst e
  refine (eq_pick (lim := 6) (f_pick E) hr (by decide) rfl rfl (vf 0) ed_int (by decide) (by decide)).mono fun b ⟨way, e, hway⟩ => ⟨by rw [e]; exact True.intro, ?_⟩
  subst e
  generalize hwd : 1 + n4 = wd
  have wd1 : 0 < wd := by omega
  have wd4 : wd ≤ 4 := by omega
  refine sq_cons (s1_set (i := 3) sc_pair.nd rfl (.inl rfl) (eq_callF (f_drawn E) hr (by decide) rfl rfl (.inl rfl) (aqF (vf 0) (aqD (v 1) (aqD (d := enc 3) ed_int (aqD (d := enc 2) ed_int (aq_nil ⟨_, ⟨wd, 3, 2, wd1, wd4, by decide, by decide, by decide, by decide, rfl, rfl⟩, fun b ⟨m, e, k, hm⟩ => ⟨by rw [e]; exact True.intro, ?_⟩⟩)))))))
  subst e
  refine sq_cons (s1_par (i := 4) (j := 5) rfl sc_pair.nd rfl rfl (by decide) rfl rfl (eq_callF (f_tailed E) hr (by decide) rfl rfl (.inl rfl) (aqF (vf 0) (aqD (v 3) (aqQ (G := fun n : Nat => n < 3) (eq_pick (lim := 3) (f_pick E) hr (by decide) rfl rfl (vf 0) ed_int (by decide) (by decide)) fun more hmore => aq_nil ⟨_, ⟨m, wd, more, k, wd4, by omega, by omega, rfl, rfl⟩, fun b ⟨near, e, kn, hnl⟩ => ⟨by rw [e]; exact True.intro, ?_⟩⟩)))))
  subst e
  refine (v 3).mono fun b e => ⟨by rw [e]; exact True.intro, ?_⟩
  subst e
  refine sq_thru (fun ρ' => ∃ n f : Mc, P5 n f wd ∧ ρ' = [some .feed, some (.dat (enc wd)), some (.dat (enc way)), some (.dat (enc m)), some (.dat (enc n)), some (.dat (enc f))]) ?_ ?_
  · have here : ∀ f : Mc, Ok f wd → f.length ≤ 5 → ∃ n g : Mc, P5 n g wd ∧ ([some .feed, some (.dat (enc wd)), some (.dat (enc way)), some (.dat (enc m)), some (.dat (enc near)), some (.dat (enc f))] : Ab) = [some .feed, some (.dat (enc wd)), some (.dat (enc way)), some (.dat (enc m)), some (.dat (enc n)), some (.dat (enc g))] := fun f kf lf => ⟨near, f, ⟨kn, kf, by omega, lf, wd4⟩, rfl⟩
    refine s1_if (td_eqE (x := way) (y := 0) hr (v 2) ed_int) (fun _ => ?_) fun _ => sq_cons (s1_if (td_eqE (x := way) (y := 1) hr (v 2) ed_int) (fun _ => ?_) fun _ => sq_cons (s1_if (td_eqE (x := way) (y := 2) hr (v 2) ed_int) (fun _ => ?_) fun _ => sq_cons (s1_if (td_eqE (x := way) (y := 3) hr (v 2) ed_int) (fun _ => ?_) fun _ => sq_cons (s1_if (td_eqE (x := way) (y := 4) hr (v 2) ed_int) (fun _ => ?_) fun _ => sq_nil (sq_nil (sq_nil (sq_nil (sq_nil (here m k (by omega)))))))))) 
    · exact sq_cons (s1_set (i := 5) sc_pair.nd rfl (.inl rfl) (eq_callF (f_drawn E) hr (by decide) rfl rfl (.inl rfl) (aqF (vf 0) (aqD (v 1) (aqD (d := enc 4) ed_int (aqD (d := enc 2) ed_int (aq_nil ⟨_, ⟨wd, 4, 2, wd1, wd4, by decide, by decide, by decide, by decide, rfl, rfl⟩, fun b ⟨f, e, kf, hf⟩ => ⟨by rw [e]; exact True.intro, by subst e; exact sq_nil (here f kf (by omega))⟩⟩)))))))
    · refine sq_cons (s1_set (i := 5) sc_pair.nd rfl (.inl rfl) (eq_call (f_called E) (hr.mono (by decide)) rfl rfl (.inl rfl) (aqD (v 3) (aq_cons (EQ.mono (Q := fun b => ∃ o : List Nat, b = .ft K (o.map enc) ∧ o.length = m.length ∧ (∀ s ∈ o, s < m.length) ∧ ∀ s, s < m.length → s ∈ o) (eq_callF (f_names E) hr (by decide) rfl rfl (.inl rfl) (aqF (vf 0) (aqD (lenE (l := m) rfl E.len_ (v 3)) (aq_nil ⟨_, ⟨m.length, by omega, rfl, rfl⟩, fun b h => h⟩)))) fun b ⟨o, e, ol, h1, h2⟩ => aq_nil ⟨fun _ c hc z => ?_, [.dat (enc m), b], _, rfl, ⟨m, wd, o, k, by omega, by omega, h1, h2, by rw [e]; rfl, rfl⟩, fun b2 e2 => ⟨by rw [e2]; exact True.intro, by subst e2; exact sq_nil (sq_nil (here _ (part_ok k ol h1 h2) (by show (o.map _).length ≤ 5; rw [List.length_map]; omega)))⟩⟩)))))
      · rcases List.mem_cons.mp hc with y | y
        · rw [y] at z; cases z
        · rw [List.mem_singleton.mp y, e] at z; cases z
    · exact sq_cons (s1_set (i := 5) sc_pair.nd rfl (.inl rfl) (eq_callF (f_tailed E) hr (by decide) rfl rfl (.inl rfl) (aqF (vf 0) (aqD (v 3) (aqQ (α := Nat) (G := fun n : Nat => n < 3) (EQ.mono (Q := fun d => ∃ n : Nat, d = .dat (enc (1 + n)) ∧ n < 2) (ez_pick1 ed_int (eq_pick (lim := 2) (f_pick E) hr (by decide) rfl rfl (vf 0) ed_int (by decide) (by decide))) fun b ⟨n, e, hn⟩ => ⟨1 + n, e, by omega⟩) fun more hmore => aq_nil ⟨_, ⟨m, wd, more, k, wd4, by omega, by omega, rfl, rfl⟩, fun b ⟨f, e, kf, hfl⟩ => ⟨by rw [e]; exact True.intro, by subst e; exact sq_nil (sq_nil (sq_nil (here f kf (by omega))))⟩⟩)))))
    · refine sq_cons (s1_set (i := 5) sc_pair.nd rfl (.inl rfl) (eq_call (f_joined E) (hr.mono (by decide)) rfl rfl (.inl rfl) (aqD (v 3) (aq_cons (EQ.mono (Q := fun b => ∃ n : Mc, b = .dat (enc n) ∧ Ok n wd ∧ n.length ≤ 2) (eq_callF (f_drawn E) hr (by decide) rfl rfl (.inl rfl) (aqF (vf 0) (aqD (v 1) (aqD (d := enc 2) ed_int (aqD (d := enc 2) ed_int (aq_nil ⟨_, ⟨wd, 2, 2, wd1, wd4, by decide, by decide, by decide, by decide, rfl, rfl⟩, fun b h => h⟩)))))) fun b ⟨n, e, kn2, hn2⟩ => aq_nil ⟨fun _ c hc z => ?_, [.dat (enc m), b], _, rfl, ⟨[enc m, enc n], _, by rw [e]; rfl, ⟨m, n, wd, k, kn2, by omega, by omega, by omega, rfl, rfl⟩, rfl⟩, fun b2 e2 => ⟨by rw [e2]; exact True.intro, by subst e2; exact sq_nil (sq_nil (sq_nil (sq_nil (here _ (bes_ok k kn2) (by rw [bes_len]; omega)))))⟩⟩)))))
      · rcases List.mem_cons.mp hc with y | y
        · rw [y] at z; cases z
        · rw [List.mem_singleton.mp y, e] at z; cases z
    · refine sq_cons (s1_set (i := 4) sc_pair.nd rfl (.inl rfl) (eq_call (f_joined E) (hr.mono (by decide)) rfl rfl (.inl rfl) (aqD (v 3) (aq_cons (EQ.mono (Q := fun b => ∃ n : Mc, b = .dat (enc n) ∧ Ok n wd ∧ n.length ≤ 2) (eq_callF (f_drawn E) hr (by decide) rfl rfl (.inl rfl) (aqF (vf 0) (aqD (v 1) (aqD (d := enc 2) ed_int (aqD (d := enc 2) ed_int (aq_nil ⟨_, ⟨wd, 2, 2, wd1, wd4, by decide, by decide, by decide, by decide, rfl, rfl⟩, fun b h => h⟩)))))) fun b ⟨n, e, kn2, hn2⟩ => aq_nil ⟨fun _ c hc z => ?_, [.dat (enc m), b], _, rfl, ⟨[enc m, enc n], _, by rw [e]; rfl, ⟨m, n, wd, k, kn2, by omega, by omega, by omega, rfl, rfl⟩, rfl⟩, fun b2 e2 => ⟨by rw [e2]; exact True.intro, by subst e2; exact sq_nil (sq_nil (sq_nil (sq_nil (sq_nil ⟨bes m n, m, ⟨bes_ok k kn2, k, by rw [bes_len]; omega, by omega, wd4⟩, rfl⟩))))⟩⟩)))))
      · rcases List.mem_cons.mp hc with y | y
        · rw [y] at z; cases z
        · rw [List.mem_singleton.mp y, e] at z; cases z
  · rintro _ ⟨n, f, T, rfl⟩
    refine sq_cons (s1_ret (eq_ifQ (TQ.any (tq_gt (ez_of_pick (eq_pick (lim := 3) (f_pick E) hr (by decide) rfl rfl (vf 0) ed_int (by decide) (by decide))) (ez (P := fun _ => True) ed_int True.intro))) ((prE (v 4) (v 5)).mono fun b e => ⟨(n, f), e, wd, T⟩) ((prE (v 5) (v 4)).mono fun b e => ⟨(f, n), e, wd, T.swap⟩)))
end
end W97
end
section
set_option Elab.async false
set_option linter.all false
set_option maxRecDepth 100000
set_option maxHeartbeats 4000000
namespace W97
open PySem PySem.Spec PyProof.Rows L2 PyEnc
section
variable {α : Type} [DecidableEq α] {w : Nat} {step : α → Nat → α} {fin : α → Bool}
theorem grow_at {n : Nat} {r : Row} {s : α} (hr : r.length ≤ n) : ∀ (xs : List Nat) (L : List (Row × α)), (∀ p ∈ L, p.1.length ≤ n + 1) → ∀ p ∈ xs.foldl (put1 step r s) L, p.1.length ≤ n + 1
  | [], L, h => h
  | x :: xs, L, h => by
    rw [List.foldl_cons]
    refine grow_at hr xs _ fun p hp => ?_
    unfold put1 at hp
    split at hp
    · exact h p hp
    · rcases List.mem_append.mp hp with z | z
      · exact h p z
      · rw [List.mem_singleton.mp z, List.length_append]
        show r.length + 1 ≤ n + 1
        omega
theorem bfs_len : ∀ (f : Nat) (L : List (Row × α)) (k : Nat), (∀ p ∈ L, p.1.length ≤ k) → ∀ r, bfs w step fin f L k = some r → r.length ≤ k + f
  | 0, _, _, _, r, e => by cases e
  | f + 1, L, k, h, r, e => by
    unfold bfs at e
    cases hL : L[k]? with
    | none => rw [hL] at e; cases e
    | some p =>
      obtain ⟨r0, s⟩ := p
      rw [hL] at e
      have h0 : r0.length ≤ k := h (r0, s) (List.mem_of_getElem? hL)
      simp only at e
      split at e
      · cases e; omega
      · have z := bfs_len f _ (k + 1) (grow_at h0 (List.range w) L fun p hp => Nat.le_succ_of_le (h p hp)) r e
        omega
end
theorem due_len {w : Nat} {one other : Mc} {r : Row} (h : due w one other = some r) : r.length ≤ 200 := by
  have z := bfs_len 200 _ 0 (fun p hp => by rw [List.mem_singleton.mp hp]; exact Nat.le_refl _) r h
  omega
section
variable {X : Cx} {m : Mo} {HE H0 H H1 : Hp} {ρ ρ' : Ab} {σ : L2.St} {a b c e elt tg iter : Expr} {es : List Expr} {pos p q0 : Pos} {E : AE} {α β : Type} [DecidableEq α] [PyEnc α] [DecidableEq β] [PyEnc β]
theorem eq_callDT {x : Str} {k j : Nat} {ps : List Str} {tb : Option (List NdefX.NTab)} {Fs : List Bd → (Bd → Prop) → Prop} {ds : List PyData} {R : Bd → Prop} (F : Fn X.prog X.w X.K X.mg X.base x j ps tb false Fs) (hr' : Room k X.A) (hk : j ≤ k) (hg : Gl X x) (hw : m.wd = some X.w) (ht : tb = none ∨ tb = m.tb) (ha : AD X m ρ (e :: es) ds) (hf : Fs (ds.map Bd.dat) R) (hdb : (x == ("__debug__" : Str)) = false := by decide)
    (he : starEach (e :: es) X.env = (false, eval e X.env) :: starEach es X.env := by rfl) (hpl : (backTo pos (starEach es X.env)).any (·.1) = false := by rfl) : EQ X m ρ (.Call (.Name x p) (e :: es) [] pos) R :=
  eq_call F (hr'.mono hk) hg hw ht (fun σ H HE H0 S Qv k => ha σ H HE H0 S Qv fun vs bs H' g r q => k vs bs H' g r ⟨(fun _ b hb z => by
    rw [q] at hb
    obtain ⟨d, _, e⟩ := List.mem_map.mp hb
    rw [z] at e
    cases e), ds.map Bd.dat, _, by rw [q], hf, fun b h => h⟩) hdb he hpl
theorem td_or2K {k : Bool} (h : TD X m ρ a false) (h2 : TD X m ρ b k) : TD X m ρ (.BoolOp .Or [a, b] pos) k := (tw_or (k := false) (l := k) h fun _ => tw_or1 h2).td
theorem eq_tup1 {x1 : Nat} {G : List α → Prop} {G1 : α → Prop} (h : EQ X m ρ a fun d => ∃ x, d = .dat (enc x) ∧ G1 x) (q : ∀ x, G1 x → G [x]) (hs : starEach [a] X.env = (false, eval a X.env) :: starEach [] X.env := by rfl) : EQ X m ρ (.Tuple [a] x1 pos) fun d => ∃ l : List α, d = .dat (enc l) ∧ G l :=
  eq_tup (aq_cons (h.mono fun b1 ⟨x, e1, q1⟩ => aq_nil ⟨[enc x], by subst e1; rfl, show 1 ≤ sizeLine by rw [sizeLine_eq]; decide, [x], rfl, q x q1⟩) hs)
theorem catQ {G G1 G2 : List α → Prop} (h1 : EQ X m ρ a fun d => ∃ l : List α, d = .dat (enc l) ∧ G1 l) (h2 : EQ X m ρ b fun d => ∃ l : List α, d = .dat (enc l) ∧ G2 l) (q : ∀ l1 l2, G1 l1 → G2 l2 → l1.length + l2.length ≤ sizeLine ∧ G (l1 ++ l2)) : EQ X m ρ (.BinOp a .Add b pos) fun d => ∃ l : List α, d = .dat (enc l) ∧ G l :=
  eq_bop op_catA (h1.mono fun b1 ⟨l1, e1, g1⟩ => h2.mono fun b2 ⟨l2, e2, g2⟩ => by
    subst e1 e2
    obtain ⟨hl, hG⟩ := q l1 l2 g1 g2
    intro Ha Hb H x y f r1 r2 Qv k
    obtain ⟨t1, xs, e1, s1, d1⟩ := DV.tup_eq r1
    obtain ⟨t2, ys, e2, s2, d2⟩ := DV.tup_eq r2
    subst e1 e2
    have hl1 := d1.len
    have hl2 := d2.len
    rw [List.length_map] at hl1 hl2
    have fin : ∀ v H', Gr m H H' → DV X.K H' v (.tuple (l1.map enc ++ l2.map enc)) → Qv v H' := fun v H' g r => k v (.dat (enc (l1 ++ l2))) H' g (by
      show DV X.K H' v (.tuple ((l1 ++ l2).map enc))
      rw [List.map_append]; exact r) ⟨l1 ++ l2, rfl, hG⟩
    refine ⟨t1, t2, xs, ys, rfl, rfl, s1, s2, by rw [hl1, hl2]; exact hl, fun hx => ?_, fun _ hy => ?_, fun _ _ l hl' => ?_⟩
    · subst hx
      have e : l1 = [] := List.eq_nil_of_length_eq_zero hl1.symm
      subst e
      exact fin _ H Gr.refl (.tup s2 d2)
    · subst hy
      have e : l2 = [] := List.eq_nil_of_length_eq_zero hl2.symm
      subst e
      exact fin _ H Gr.refl (by rw [List.map_nil, List.append_nil]; exact .tup s1 d1)
    · exact fin _ _ (Gr.new hl') (.tup (.of upd_same) ((d1.app d2).keep ((Gr.new (m := m) hl').tk f))))
end
theorem none_left {one other : Mc} {wd : Nat} {r : Row} (pl : Plain wd one other r) : ((runS one (List.range one.length) r).filter fun s => !decide (s ∈ good one other)).map (fun s => s) = [] := by
  rw [List.map_eq_nil_iff, List.filter_eq_nil_iff]
  intro t ht
  obtain ⟨s, hs, rfl⟩ := mem_runS.mp ht
  have z := pl.2 s (List.mem_range.mp hs)
  simp [z]
section
variable {P : Program} {w : World} {K : PySem.W.Frag} {mg : Str → Option Value} {base : Heap}
def Ffine : List Bd → (Bd → Prop) → Prop := fun bs R => ∃ (one other : Mc) (wd : Nat), P5 one other wd ∧ bs = [.feed, .dat (enc one), .dat (enc other)] ∧ R = (· = .dat (.bool true))
theorem sc_fine : FnScope ["_law_feed_here", "_law_near", "_law_far", "_law_due", "_law_good_here", "_law_told", "_law_wide", "_law_row", "_law_late", "_law_many", "_law_s"] ["_law_feed_here", "_law_near", "_law_far"] (defScope (topS 96)) := ⟨rfl, rfl, rfl, by decide +kernel, rfl, by decide +kernel, by decide +kernel⟩
theorem f_fine (E : EnT K mg base) : Fn P w K mg base "_law_is_fine" 12 ["_law_feed_here", "_law_near", "_law_far"] (some (TT K)) true Ffine := by
  refine mkFn E.en 72 sc_fine (by decide) (fun bs R h => by obtain ⟨_, _, _, _, rfl, _⟩ := h; rfl) (fun _ _ _ _ _ _ us hl => match us, hl with | [_, _, _], _ => rfl) fun f cdv A outer s H X fa ca bs R hr hf h => ?_
  obtain ⟨one, other, wd, T, rfl, rfl⟩ := h
  have k := T.k1
  have k' := T.k2
  have l1 := T.l1
  have lw := T.lw
  have hgl : (good one other).length ≤ 1000 := by
    unfold good
    exact Nat.le_trans (List.length_filter_le _ _) (by rw [List.length_range]; omega)
  have iss : (!isNoneD (rowD (due wd one other))) = true ↔ ∃ r, Plain wd one other r := by
    rw [← due_isSome k k' l1]
    cases due wd one other with
    | none => exact ⟨(fun z => by cases z), (fun ⟨_, z⟩ => by cases z)⟩
    | some r => exact ⟨fun _ => ⟨r, rfl⟩, fun _ => rfl⟩
  generalize hdr : due wd one other = dr at iss
  refine sq_cons (s1_parT (i := 3) (j := 4) rfl sc_fine.nd rfl rfl (.inl rfl) (.inr rfl) (EQ.mono (Q := (· = .dat (rowD dr))) (eq_callDT (f_lplain E.en) hr (by decide) rfl rfl (.inl rfl) (ad_cons (v 1) (ad_cons (v 2) ad_nil)) ⟨one, other, wd, T, rfl, by rw [hdr]⟩) fun b e => ⟨by rw [e]; exact True.intro, ?_⟩))
  subst e
  refine EQ.mono (Q := (· = .lst .own ((good one other).map enc))) (eq_callDT (f_good E.en) hr (by decide) rfl rfl (.inl rfl) (ad_cons (v 1) (ad_cons (v 2) ad_nil)) ⟨one, other, wd, T, rfl, rfl⟩) fun b e => ⟨by rw [e]; exact True.intro, ?_⟩
  subst e
  refine sq_cons (s1_setB (i := 5) (bd := .lst .own [rowD dr, .bool (!isNoneD (rowD dr)), .bool (decide (good one other = List.range one.length))]) sc_fine.nd rfl (.inl rfl) (el_lst (ad_cons (eq_callDT (f_plain_letters E) hr (by decide) rfl rfl (.inr rfl) (ad_cons (v 1) (ad_cons (v 2) ad_nil)) ⟨one, other, wd, T, rfl, by rw [hdr]⟩) (ad_cons (ed_call (f_shares_cores E.en) (hr.mono (by decide)) rfl rfl (ad_cons (v 1) (ad_cons (v 2) ad_nil)) ⟨one, other, wd, _, T, iss, rfl, rfl⟩) (ad_cons (ed_call (f_is_plain E.en) (hr.mono (by decide)) rfl rfl (ad_cons (v 1) (ad_cons (v 2) ad_nil)) ⟨one, other, wd, T.two, T.small, rfl, rfl⟩) ad_nil))) (show 3 ≤ sizeLine by rw [sizeLine_eq]; decide)) ?_)
  have sd : ∀ e ∈ [rowD dr, PyData.bool (!isNoneD (rowD dr)), PyData.bool (decide (good one other = List.range one.length))], SD 1 e := fun e he => by
    rcases List.mem_cons.mp he with e1 | he
    · rw [e1]
      cases dr with
      | none => exact .inl (.inl rfl)
      | some r =>
        refine .inr ⟨r.map enc, rfl, by rw [List.length_map]; have := due_len hdr; omega, fun d hd => ?_⟩
        obtain ⟨x, _, rfl⟩ := List.mem_map.mp hd
        exact .inr (.inr (.inl ⟨x, rfl⟩))
    rcases List.mem_cons.mp he with e1 | he
    · rw [e1]; exact .inl (.inr (.inl ⟨_, rfl⟩))
    · rw [List.mem_singleton.mp he]; exact .inl (.inr (.inl ⟨_, rfl⟩))
  refine sq_cons (s1_if (k := false) (td_not (k := true) (td_val (eq_call (f_same E.en 2) (hr.mono (by decide)) rfl rfl (.inl rfl) (aq_lst (o := .own) (el_lst (ad_cons (v 3) (ad_cons (ed_notN (v 3)) (ad_cons (ed_eqLE hr (vl 4) (el_listRg (n := one.length) rfl rfl E.en.list_ rfl E.en.range_ (lenE rfl E.en.len_ (v 1)) (by omega))) ad_nil))) (show 3 ≤ sizeLine by rw [sizeLine_eq]; decide)) (aq_lst (vl 5) (aq_nil ⟨fun _ b hb => ?nf, [.lst .par _, .lst .par _], _, rfl, ⟨rfl, .inr ⟨1, _, rfl, (by show 3 ≤ 1000; decide), sd, rfl⟩⟩, fun b h => h⟩)))))) (fun z => by cases z) fun _ => sq_nil ?_)
  case nf =>
    rcases List.mem_cons.mp hb with e | hb
    · rw [e]; exact fun z => by cases z
    rw [List.mem_singleton.mp hb]; exact fun z => by cases z
  cases dr with
  | none =>
    refine sq_cons (s1_if (k := true) (td_isN (d := .none) (v 3)) (fun _ => ?_) fun z => by cases z)
    exact sq_cons (s1_retD (d := .bool true) (ed_isN (d1 := .none) (ed_callV (f_least_beats E.en) (hr.mono (by decide)) rfl rfl (fun H => .cons .non .nil) (ad_cons (v 1) (ad_cons (v 2) ad_nil)) ⟨one, other, wd, T, fun ⟨r, p⟩ => due_none k k' l1 hdr r p, rfl, rfl⟩)) rfl)
  | some r =>
    refine sq_cons (s1_if (k := false) (td_isN (d := enc r) (v 3)) (fun z => by cases z) fun _ => sq_nil ?_)
    obtain ⟨pl, mn⟩ := due_some k k' l1 hdr
    have rl := due_len hdr
    have hw0 : (st one 0).length = wd := k.wst k.ne
    refine sq_cons (s1_setD (d := enc (st one 0).length) sc_fine.nd (i := 6) rfl (.inl rfl) (lenE (l := st one 0) rfl E.en.len_ (ixE (v 1) ed_int (st_at k.ne))) ?_)
    rw [hw0]
    have pk : ∀ {ρ : Ab} {X : Cx} {m : Mo} {e : Expr}, (EQ X m ρ e fun d => ∃ n : Nat, d = .dat (enc n) ∧ n < wd) → EQ X m ρ e fun d => ∃ n : Nat, d = .dat (enc n) ∧ n < wd := fun h => h
    refine sq_cons (s1_set (i := 7) sc_fine.nd rfl (.inl rfl) (EQ.mono (Q := fun d => ∃ l : List Nat, d = .dat (enc l) ∧ ∃ a b, Let wd a ∧ Let wd b ∧ a.length = 1 ∧ b.length = 1 ∧ l = a ++ r ++ b) ?row fun b ⟨l, e, ra, rb, la, lb, na, nb, el⟩ => ⟨by rw [e]; exact True.intro, ?_⟩))
    case row =>
      have one1 : ∀ x : Nat, x < wd → Let wd [x] ∧ [x].length = 1 := fun x hx => ⟨fun y hy => by rw [List.mem_singleton.mp hy]; exact hx, rfl⟩
      refine catQ (G1 := fun l => ∃ a, Let wd a ∧ a.length = 1 ∧ l = a ++ r) (G2 := fun l => Let wd l ∧ l.length = 1) (catQ (G1 := fun l => Let wd l ∧ l.length = 1) (G2 := fun l => l = r) (eq_tup1 (G := fun l => Let wd l ∧ l.length = 1) (G1 := fun x => x < wd) (eq_pick (lim := wd) (f_pick E.en) hr (by decide) rfl rfl (vf 0) (v 6) k.wp (by omega)) one1) (EQ.mono (Q := (· = .dat (enc r))) (v 3) fun b e => ⟨r, e, rfl⟩) fun l1 l2 h1 h2 => ⟨?_, l1, h1.1, h1.2, by rw [h2]⟩) (eq_tup1 (G := fun l => Let wd l ∧ l.length = 1) (G1 := fun x => x < wd) (eq_pick (lim := wd) (f_pick E.en) hr (by decide) rfl rfl (vf 0) (v 6) k.wp (by omega)) one1) fun l1 l2 ⟨a, h1, h2, h3⟩ h4 => ⟨?_, a, l2, h1, h4.1, h2, h4.2, by rw [h3]⟩
      · rw [h1.2, h2, sizeLine_eq]; omega
      · rw [h3, h4.2, List.length_append, h2, sizeLine_eq]; omega
    subst e el
    have pl2 : Plain wd one other (ra ++ r ++ rb) := plain_within k k' pl la lb
    have rl2 : (ra ++ r ++ rb).length ≤ 202 := by rw [List.length_append, List.length_append, na, nb]; omega
    generalize ra ++ r ++ rb = row at pl2 rl2
    refine sq_cons (s1_for PassesOwn.never rfl (itl_lst (el_lst (ds := ([r, row] : List Row).map enc) (ad_cons (v 3) (ad_cons (v 7) ad_nil)) (show 2 ≤ sizeLine by rw [sizeLine_eq]; decide))) (fun i ρ' => ρ' = [some .feed, some (.dat (enc one)), some (.dat (enc other)), some (.dat (enc r)), some (.lst .own ((good one other).map enc)), some (.lst .own [rowD (some r), .bool (!isNoneD (rowD (some r))), .bool (decide (good one other = List.range one.length))]), some (.dat (enc wd)), some (.dat (enc row)), none, none, none]) rfl ?_ ?_ ?_)
    · rintro ρ' rfl; rfl
    · rintro i d ρ' hd rfl
      obtain ⟨late, hx, rfl⟩ := take_map hd
      have hl : Plain wd one other late ∧ late.length ≤ 1000 := by
        rcases List.mem_cons.mp (List.mem_of_getElem? hx) with e | z
        · rw [e]; exact ⟨pl, by omega⟩
        · rw [List.mem_singleton.mp z]; exact ⟨pl2, by omega⟩
      refine ⟨[8], _, t1 8 sc_fine.nd, sq_cons (s1_if (k := !decide (((runS one (List.range one.length) late).filter fun s => !decide (s ∈ good one other)).map (fun s => s) = [])) (td_neLE (o := .own) (o' := .own) hr ?comp (el_lst ad_nil (Nat.zero_le _))) (fun hc => ?_) fun _ => sq_nil ?_)⟩
      case comp =>
        exact el_filE (l := runS one (List.range one.length) late) (q := fun s => !decide (s ∈ good one other)) (g := fun s => s) [("_law_s", 10)] rfl sc_fine.nd (itc_lst (k := .own) (eq_callDT (f_comes E.en) hr (by decide) rfl rfl (.inl rfl) (ad_cons (v 1) (ad_cons (v 8) ad_nil)) ⟨one, wd, late, k, by omega, hl.1.1, rfl, rfl⟩)) (blkOk_by (by kernel_rfl)) (by have := (runS_set k hl.1.1).2; omega) fun s hs => ⟨[10], _, by decide, fun _ _ _ _ _ => t1 10 sc_fine.nd, fun _ _ _ _ _ => td_niLE hr (v 10) (vl 4), fun _ _ _ _ _ _ => v 10⟩
      · rw [none_left hl.1] at hc
        simp at hc
      refine sq_cons (s1_if (k := decide (late.length < 11) && false) (td_and2 (td_ltE (lenE rfl E.en.len_ (v 8)) ed_int) (td_not (k := true) (td_val (eq_callDT (f_is_let E) hr (by decide) rfl rfl (.inr rfl) (ad_cons (v 1) (ad_cons (v 2) (ad_cons (v 8) ad_nil))) ⟨one, other, wd, late, T, hl.1, hl.2, rfl, rfl⟩)))) (fun hc => ?_) fun _ => sq_nil (sq_nilF [8] rfl))
      rw [Bool.and_false] at hc
      cases hc
    rintro ρ' rfl
    refine sq_cons (s1_set (i := 9) sc_fine.nd rfl (.inl rfl) (EQ.mono (Q := fun b => b = .dat .none ∨ ∃ n : Nat, b = .dat (enc n) ∧ n ≤ one.length ∧ ∀ t ∈ afterI one n, Settled one t) (eq_callDT (f_settled_after E.en) hr (by decide) rfl rfl (.inl rfl) (ad_cons (v 1) ad_nil) ⟨one, wd, T.f1, rfl, rfl⟩) fun b hb => ?_))
    rcases hb with e | ⟨n, e, hn, hset⟩
    · refine ⟨by rw [e]; exact True.intro, ?_⟩
      subst e
      exact sq_cons (s1_if (k := true) (td_or2T (td_isN (d := .none) (v 9))) (fun _ => sq_cons (s1_retD (d := .bool true) ed_bl rfl)) fun z => by cases z)
    refine ⟨by rw [e]; exact True.intro, ?_⟩
    subst e
    refine sq_cons (s1_if (k := decide (3 < n)) (td_or2K (td_isN (d := enc n) (v 9)) (td_gtE (i := n) (j := 3) (v 9) ed_int)) (fun _ => sq_cons (s1_retD (d := .bool true) ed_bl rfl)) fun h3 => sq_nil ?_)
    have n3 : n ≤ 3 := by have := of_decide_eq_false h3; omega
    have all : ∀ late ∈ rowsM wd n, Plain wd one other late ∧ late.length ≤ 1000 := fun late hl => by
      obtain ⟨z1, z2⟩ := rowsM_mem hl
      exact ⟨settled_plain k k' hset ⟨r, pl⟩ z2 z1, by omega⟩
    refine sq_cons (s1_for PassesOwn.never rfl (itl_lst (ds := (rowsM wd n).map enc) (eq_callDT (f_rows E.en) hr (by decide) rfl rfl (.inl rfl) (ad_cons (v 6) (ad_cons (v 9) ad_nil)) ⟨wd, n, lw, n3, rfl, rfl⟩)) (fun i ρ' => ρ' = [some .feed, some (.dat (enc one)), some (.dat (enc other)), some (.dat (enc r)), some (.lst .own ((good one other).map enc)), some (.lst .own [rowD (some r), .bool (!isNoneD (rowD (some r))), .bool (decide (good one other = List.range one.length))]), some (.dat (enc wd)), some (.dat (enc row)), none, some (.dat (enc n)), none]) rfl ?_ ?_ ?_)
    · rintro ρ' rfl; rfl
    · rintro i d ρ' hd rfl
      obtain ⟨late, hx, rfl⟩ := take_map hd
      have hl := all late (List.mem_of_getElem? hx)
      refine ⟨[8], _, t1 8 sc_fine.nd, sq_cons (s1_if (k := !decide (((runS one (List.range one.length) late).filter fun s => !decide (s ∈ good one other)).map (fun s => s) = [])) (td_neLE (o := .own) (o' := .own) hr ?comp (el_lst ad_nil (Nat.zero_le _))) (fun hc => ?_) fun _ => sq_nil ?_)⟩
      case comp =>
        exact el_filE (l := runS one (List.range one.length) late) (q := fun s => !decide (s ∈ good one other)) (g := fun s => s) [("_law_s", 10)] rfl sc_fine.nd (itc_lst (k := .own) (eq_callDT (f_comes E.en) hr (by decide) rfl rfl (.inl rfl) (ad_cons (v 1) (ad_cons (v 8) ad_nil)) ⟨one, wd, late, k, by omega, hl.1.1, rfl, rfl⟩)) (blkOk_by (by kernel_rfl)) (by have := (runS_set k hl.1.1).2; omega) fun s hs => ⟨[10], _, by decide, fun _ _ _ _ _ => t1 10 sc_fine.nd, fun _ _ _ _ _ => td_niLE hr (v 10) (vl 4), fun _ _ _ _ _ _ => v 10⟩
      · rw [none_left hl.1] at hc
        simp at hc
      exact sq_cons (s1_if (k := false) (td_not (k := true) (td_val (eq_callDT (f_is_let E) hr (by decide) rfl rfl (.inr rfl) (ad_cons (v 1) (ad_cons (v 2) (ad_cons (v 8) ad_nil))) ⟨one, other, wd, late, T, hl.1, hl.2, rfl, rfl⟩))) (fun hc => by cases hc) fun _ => sq_nil (sq_nilF [8] rfl))
    rintro ρ' rfl
    refine sq_cons (s1_retD (d := .bool (decide ((r.length : Int) ≤ (n : Int)))) (ed_le (lenE (l := r) rfl E.en.len_ (v 3)) (v 9)) ?_)
    obtain ⟨late, hl⟩ : ∃ late, late ∈ rowsM wd n := by
      have z := rowsM_len wd n
      cases e : rowsM wd n with
      | nil =>
        rw [e] at z
        have : 0 < wd ^ n := Nat.pow_pos k.wp
        simp at z
        omega
      | cons a l => exact ⟨a, List.mem_cons_self⟩
    have z := mn late (all late hl).1
    rw [(rowsM_mem hl).1] at z
    show Bd.dat _ = _
    rw [decide_eq_true (show (r.length : Int) ≤ (n : Int) by omega)]
end
end W97
end
section
set_option Elab.async false
set_option linter.all false
set_option maxRecDepth 100000
set_option maxHeartbeats 4000000
namespace W97
open PySem PySem.Spec PyProof.Rows L2 PyEnc
section
variable {P : Program} {w : World} {K : PySem.W.Frag} {mg : Str → Option Value} {base : Heap}
/-- the feed is made -/
def spFeed (K : PySem.W.Frag) : Sp := fun vs H Q _ => ∃ (a : Addr) (ns : List Int), vs = [.ref a] ∧ SqL K H a (ns.map V.int) ∧ ∀ (p c : Addr) (H' : Hp), (∀ b o, H b = some o → H' b = some o) → H' p = some (.dK (feedK c 0 0 0)) → H' c = some (.lst ((ns.take 63).map V.int)) → Q (.ref p) H'
theorem sc_feed : FnScope ["_law_script"] ["_law_script"] (defScope (topS 78)) := ⟨rfl, rfl, rfl, by decide +kernel, rfl, by decide +kernel, by decide +kernel⟩
theorem merge_feed {c : Addr} : mergeK [] (feedK c 0 0 0) = feedK c 0 0 0 := by kernel_rfl
theorem feed_ok (E : En K mg) : ∃ fd, FnOk P w K mg base CX0 1 (He.ga K "_law_feed") fd ["_law_script"] (spFeed K) ∧ mg "_law_feed" = some (.ref (He.ga K "_law_feed")) ∧ PySem.W.keepIn K (.ref (He.ga K "_law_feed")) = true ∧ Binds K fd ["_law_script"] [] := by
  obtain ⟨fd, F⟩ := E.def 54
  refine ⟨fd, F.ok sc_feed (fun vs H Q E h => by obtain ⟨_, _, rfl, _⟩ := h; rfl) (fun cdv A outer s H vs Q E0 hr h => ?_), E.glo 54, F.kp, F.bindsN fun _ _ _ _ _ _ us hl => match us, hl with | [_], _ => rfl⟩
  obtain ⟨a, ns, rfl, hs, fin⟩ := h
  have S : SSt K (mo0 w) H H ([some (.lst .par (ns.map enc))] : Ab) ([some (.ref a)] : L2.St) H :=
    sst_start (K := K) (m := mo0 w) (zs := [.ref a]) (ds := [.lst .par (ns.map enc)]) (k := 0) True.intro (fun a e => by cases e) (fun T e => by cases e) (.cons ⟨a, _, rfl, hs, DVs.ints ns⟩ .nil)
  refine ⟨_, PSs.nox (pss_cons (ps_ret (pe_disp (pps_cons pe_str (pe_ew _ _) (pps_cons pe_str pe_int (pps_cons pe_str pe_int (pps_cons pe_str pe_int pps_nil)))) rfl rfl (by intro z; cases z) (by decide))) pss_nil), ?_⟩
  intro p hp
  have g0 : Gr (mo0 w) H (upd H p (.dK [])) := Gr.new hp
  have S1 := S.go g0
  refine (show EQ _ (mo0 w) [some (.lst .par (ns.map enc))] _ (· = .lst .own ((ns.map enc).take 63)) from ?lst) _ _ H H S1 _ fun v b H2 g r e => ?_
  case lst => exact el_list (ds := (ns.map enc).take 63) rfl E.list_ (EQ.itemsL (o := .own) (el_slTo (n := 63) (vl 0) ed_int))
  subst e
  obtain ⟨c, vs, ev, h1, h2, h3⟩ := r
  subst ev
  have hp2 : H2 p = some (.dK []) := g.keep p _ upd_same (.inl rfl) (by intro z; cases z)
  have hcp : c ≠ p := fun z => by rw [z, upd_same] at h1; cases h1
  refine ⟨hp2, feedK c 0 0 0, rfl, (show 4 ≤ 15 by decide), ?_⟩
  rw [merge_feed]
  refine fin p c _ (fun b o hb => ?_) upd_same ?_
  · have hbp : b ≠ p := ne_of_none hb hp
    rw [upd_ne hbp]
    exact g.keep b o (by rw [upd_ne hbp]; exact hb) (.inl rfl) (by intro z; cases z)
  · rw [upd_ne hcp, h2]
    have e : vs = (ns.take 63).map V.int := DVs.of_ints (K := K) (H := H2) (by rw [List.map_take]; exact h3)
    rw [e]
end
section
variable {X : Cx} {m : Mo} {HE H0 H H1 : Hp} {ρ ρ' : Ab} {σ : L2.St} {a b c e tg : Expr} {es : List Expr} {pos p q0 : Pos} {E : AE}
theorem s1_tgtQ (h : EQ X m ρ e fun b => ∃ d, b = .dat d ∧ ∃ is ρ', TGD X tg is d ρ ρ' ∧ E.nx ρ') (hs : swapsWithSole [tg] e pos.line X.env = pure false := by rfl) (hw : swappedStores [tg] e X.env = pure none := by rfl)
    (h1 : (assignEach [tg] X.env).map (·.2) = [assign tg X.env] := by rfl) : S1 X m ρ (.Assign [tg] e pos) E := by
  intro σ H HE H0 S D dd
  refine s1_of (ps_asg (pe_ew X e) (pg_gw X tg) hs hw h1) (ew_then h S fun v b H1 g1 S1 r1 e1 => ?_)
  obtain ⟨d, e1, is, ρ', ht, q⟩ := e1
  subst e1
  exact ht m HE H0 σ H1 S1 v r1 _ fun σ' S' _ => dd.nx _ _ H1 S' q
end
section
variable {P : Program} {w : World} {K : PySem.W.Frag} {mg : Str → Option Value} {base : Heap}
def spLaw (K : PySem.W.Frag) : Sp := fun vs H Q _ => ∃ (a : Addr) (ns : List Int), vs = [.ref a] ∧ SqL K H a (ns.map V.int) ∧ NdefX.TabsN (TT K) H ∧ ∀ H', Q (.bl true) H'
abbrev lawN : List Str := ["_law_script", "_law_feed_here", "_law_near", "_law_far", "_law_row", "_law_ten_here", "_law_zero", "_law_lap"]
theorem sc_law : FnScope lawN ["_law_script"] (defScope (topS 97)) := ⟨rfl, rfl, rfl, by decide +kernel, rfl, by decide +kernel, by decide +kernel⟩
theorem noFeed2 {d e : PyData} : noFeed [.dat d, .dat e] := fun b hb => by
  rcases List.mem_cons.mp hb with e | hb
  · rw [e]; exact fun z => by cases z
  rw [List.mem_singleton.mp hb]; exact fun z => by cases z
theorem sd_row {o : Option Row} (h : ∀ r, o = some r → r.length ≤ 1000) : SD 1 (rowD o) := by
  cases o with
  | none => exact .inl (.inl rfl)
  | some r =>
    refine .inr ⟨r.map enc, rfl, by rw [List.length_map]; exact h r rfl, fun d hd => ?_⟩
    obtain ⟨x, _, rfl⟩ := List.mem_map.mp hd
    exact .inr (.inr (.inl ⟨x, rfl⟩))
theorem ten5 : P5 mTen mZero4 4 := ⟨ten_ok, zero4_ok, by decide, by decide, by decide⟩
theorem law_rest (E : EnT K mg base) {f : Addr} {cdv : Value} {A : Around} {outer : List Env} {s : Shared} {H : Hp} {X : XK} {p c : Addr} (hr : Room 13 (cxB P w K mg base lawN "law" 97 f cdv A outer s H X).A) :
    SQ (cxB P w K mg base lawN "law" 97 f cdv A outer s H X) { tb := some (TT K), fa := some p, ca := c, wd := some w } [none, some .feed, none, none, none, none, none, none] (defBody (topS 97)).tail { nx := fun _ => False, rt := (· = .dat (.bool true)) } := by
  refine sq_cons (s1_for PassesOwn.never rfl (itl_lst (ds := wrL) (eq_call0 (f_written E.en) (hr.mono (by decide)) rfl rfl ⟨rfl, rfl⟩)) (fun i ρ' => ρ' = [none, some .feed, none, none, none, none, none, none]) rfl ?_ ?_ ?_)
  · rintro ρ' rfl; rfl
  · rintro i d ρ' hd rfl
    have hd2 : (written.map trD)[i]? = some d := by rw [written_data]; exact hd
    rw [List.getElem?_map] at hd2
    obtain ⟨q, hq, rfl⟩ := Option.map_eq_some_iff.mp hd2
    obtain ⟨k1, k2, l1, l2, hdue⟩ := written_ok q (List.mem_of_getElem? hq)
    have hwd : q.w ≤ 4 := by
      have z : ∀ q ∈ written, q.w ≤ 4 := by decide
      exact z q (List.mem_of_getElem? hq)
    have T : P5 q.near q.far q.w := ⟨k1, k2, l1, l2, hwd⟩
    refine ⟨[2, 3, 4], _, t3 2 3 4 rfl sc_law.nd, sq_cons (s1_if (k := false) (td_or2F (td_not (k := true) (td_val ?same)) (td_not (k := true) (td_val ?fine))) (fun z => by cases z) fun _ => sq_nil (sq_nilF [2, 3, 4] rfl))⟩
    case same =>
      exact eq_call (f_same E.en 1) (hr.mono (by decide)) rfl rfl (.inl rfl) (aqD (v 4) (aqD (d := rowD q.row) (eq_callDT (f_plain_letters E) hr (by decide) rfl rfl (.inr rfl) (ad_cons (v 2) (ad_cons (v 3) ad_nil)) ⟨q.near, q.far, q.w, T, rfl, by rw [hdue]⟩) (aq_nil ⟨fun _ => noFeed2, [.dat (rowD q.row), .dat (rowD q.row)], _, rfl, ⟨rfl, .inl ⟨rowD q.row, sd_row fun r e => by rw [e] at hdue; have := due_len hdue; omega, rfl⟩⟩, fun b h => h⟩)))
    case fine =>
      exact eq_callF (f_fine E) hr (by decide) rfl rfl (.inr rfl) (aqF (vf 1) (aqD (v 2) (aqD (v 3) (aq_nil ⟨_, ⟨q.near, q.far, q.w, T, rfl, rfl⟩, fun b e => e⟩))))
  rintro ρ' rfl
  obtain ⟨r, hten, rlen⟩ : ∃ r, due 4 mTen mZero4 = some r ∧ r.length = 10 := by
    have z := ten_due
    cases e : due 4 mTen mZero4 with
    | none => rw [e] at z; cases z
    | some r => rw [e] at z; exact ⟨r, rfl, Option.some.inj z⟩
  have lp : ∀ {R : Bd → Prop}, R = (· = .dat (enc r)) → FplainBy [.dat (enc mTen), .dat (enc mZero4)] R := fun h => ⟨mTen, mZero4, 4, ten5, rfl, by rw [h, hten]; rfl⟩
  have plr : Plain 4 mTen mZero4 r := (due_some ten_ok zero4_ok (by decide) hten).1
  refine sq_cons (s1_par (i := 5) (j := 6) rfl sc_law.nd rfl rfl (by decide) rfl rfl (EQ.mono (Q := (· = .dat (enc mTen))) (eq_call0 (f_ten E.en) (hr.mono (by decide)) rfl rfl ⟨rfl, rfl⟩) fun b e => ⟨by rw [e]; exact True.intro, ?_⟩) (hw := by kernel_rfl) (hs := by kernel_rfl))
  subst e
  refine EQ.mono (Q := (· = .dat (enc mZero4))) ?zero fun b e => ⟨by rw [e]; exact True.intro, ?_⟩
  case zero => exact (eb_c (by kernel_rfl)).h
  subst e
  refine sq_cons (s1_if (k := false) (td_or2F ?len (td_not (k := true) (td_val ?same))) (fun z => by cases z) fun _ => sq_nil ?_)
  case len =>
    refine td_neS (x := r.length) hr (lenE (l := r) rfl E.en.len_ (eq_callDT (f_lplain E.en) hr (by decide) rfl rfl (.inl rfl) (ad_cons (v 5) (ad_cons (v 6) ad_nil)) (lp rfl))) ?_
    rw [rlen]
    exact ed_int
  case same =>
    exact eq_call (f_same E.en 1) (hr.mono (by decide)) rfl rfl (.inl rfl) (aqD (d := enc r) (eq_callDT (f_lplain E.en) hr (by decide) rfl rfl (.inl rfl) (ad_cons (v 5) (ad_cons (v 6) ad_nil)) (lp rfl)) (aqD (d := enc r) (eq_callDT (f_plain_letters E) hr (by decide) rfl rfl (.inr rfl) (ad_cons (v 5) (ad_cons (v 6) ad_nil)) (lp rfl)) (aq_nil ⟨fun _ => noFeed2, [.dat (enc r), .dat (enc r)], _, rfl, ⟨rfl, .inl ⟨enc r, sd_row (o := some r) fun r' e => by rw [← Option.some.inj e, rlen]; decide, rfl⟩⟩, fun b h => h⟩)))
  refine sq_cons (s1_if (k := false) (td_not (k := true) (td_val ?let1)) (fun z => by cases z) fun _ => sq_nil ?_)
  case let1 =>
    exact eq_callDT (f_is_let E) hr (by decide) rfl rfl (.inr rfl) (ad_cons (v 5) (ad_cons (v 6) (ad_cons (eq_callDT (f_lplain E.en) hr (by decide) rfl rfl (.inl rfl) (ad_cons (v 5) (ad_cons (v 6) ad_nil)) (lp rfl)) ad_nil))) ⟨mTen, mZero4, 4, r, ten5, plr, by rw [rlen]; decide, rfl, rfl⟩
  refine sq_cons (s1_for PassesOwn.never rfl (itl_rg1 (n := 5) rfl E.en.range_ ed_int (by decide)) (fun i ρ' => ρ' = [none, some .feed, none, none, none, some (.dat (enc mTen)), some (.dat (enc mZero4)), none]) rfl ?_ ?_ ?_)
  · rintro ρ' rfl; rfl
  · rintro i d ρ' hd rfl
    obtain ⟨x, hx, rfl⟩ := take_map hd
    refine ⟨[7], _, t1 7 sc_law.nd, sq_cons (s1_tgtQ (EQ.mono (Q := fun b => ∃ z : Mc × Mc, b = .dat (enc z) ∧ ∃ wd, P5 z.1 z.2 wd) (eq_callF (f_pair E.en) hr (by decide) rfl rfl (.inl rfl) (aqF (vf 1) (aq_nil ⟨_, ⟨rfl, rfl⟩, fun b h => h⟩))) fun b ⟨z, e, wd, T⟩ => ⟨_, e, [2, 3], _, t2 2 3 rfl sc_law.nd, ?_⟩))⟩
    refine sq_cons (s1_if (k := false) (td_or2F (td_not (k := true) (td_val ?f1)) (td_not (k := true) (td_val ?f2))) (fun z => by cases z) fun _ => sq_nil (sq_nilF [2, 3, 7] rfl))
    case f1 =>
      exact eq_callF (f_fine E) hr (by decide) rfl rfl (.inr rfl) (aqF (vf 1) (aqD (v 2) (aqD (v 3) (aq_nil ⟨_, ⟨z.1, z.2, wd, T, rfl, rfl⟩, fun b e => e⟩))))
    case f2 =>
      exact eq_callF (f_fine E) hr (by decide) rfl rfl (.inr rfl) (aqF (vf 1) (aqD (v 3) (aqD (v 2) (aq_nil ⟨_, ⟨z.2, z.1, wd, T.swap, rfl, rfl⟩, fun b e => e⟩))))
  rintro ρ' rfl
  exact sq_cons (s1_retD (d := .bool true) ed_bl rfl)
theorem law_binds {fd : FuncData} (F : FunD K "law" "law" (defArgs (topS 97)) (defBody (topS 97)) (defScope (topS 97)) [] [] (He.ga K "law") fd) (s : Shared) (u : Value) : BindsTo s fd ⟨[u], []⟩ [("_law_script", u)] :=
  F.bindsA (ps := ["_law_script"]) (fun _ _ _ _ _ _ us hl => match us, hl with | [_], _ => rfl) s [u] rfl
theorem law_ok {fd : FuncData} (F : FunD K "law" "law" (defArgs (topS 97)) (defBody (topS 97)) (defScope (topS 97)) [] [] (He.ga K "law") fd) (E : EnT K mg base) : FnOk P w K mg base CX0 14 (He.ga K "law") fd ["_law_script"] (spLaw K) := by
  obtain ⟨fdf, hF, hm, hk, hb⟩ := feed_ok (P := P) (w := w) (base := base) E.en
  refine F.ok sc_law (fun vs H Q E h => by obtain ⟨_, _, rfl, _⟩ := h; rfl) (fun cdv A outer s H vs Q E0 hr h => ?_)
  · obtain ⟨a, ns, rfl, hs, ht, fin⟩ := h
    refine ⟨_, PSs.nox (pss_cons (ps_set (i := 1) sc_law.nd rfl (.inl rfl) (pe_call hF (hr.mono (by decide)) rfl hm hk hb .nil pass0 (pa_cons (pe_var (i := 0) rfl (.inl rfl)) pa_nil)) rfl (.inl rfl)) (pss_sw _ _)), ?_⟩
    refine ⟨.ref a, rfl, a, ns, rfl, hs, fun p c H' ext hp hc => ?_⟩
    have S : SSt K { tb := some (TT K), fa := some p, ca := c, wd := some w } H' H' ([none, some .feed, none, none, none, none, none, none] : Ab) ([some (.ref a), some (.ref p), none, none, none, none, none, none] : L2.St) H' := by
      have only : ∀ {i : Nat} {b : Bd}, ([none, some .feed, none, none, none, none, none, none] : Ab)[i]? = some (some b) → i = 1 ∧ b = .feed := fun {i b} e => by
        match i, e with
        | 0, e => cases e
        | 1, e => cases e; exact ⟨rfl, rfl⟩
        | n + 2, e =>
          have e : (List.replicate 6 (none : Option Bd))[n]? = some (some b) := e
          rw [List.getElem?_replicate] at e
          split at e <;> cases e
      refine ⟨True.intro, Gr.refl, Gr.refl, fun q e => ?_, fun T e => ?_, rfl, fun i b e => ?_, fun i j b b' u n e1 e2 o1 o2 => ?_⟩
      · cases e
        exact ⟨ns.take 63, 0, 0, 0, hp, hc, by rw [List.length_take]; omega, Int.le_refl _⟩
      · cases e
        exact ht.ext ext
      · obtain ⟨rfl, rfl⟩ := only e
        exact ⟨.ref p, rfl, p, rfl, rfl⟩
      · obtain ⟨_, rfl⟩ := only e1
        cases o1
    exact law_rest E hr _ H' H' H' S _ ⟨fun _ _ _ _ q => q.elim, fun u b H2 g r q => by
      subst q
      have e : u = .bl true := DV.bl_eq r
      subst e
      exact fin H2, fun _ _ _ _ q => q.elim, fun _ _ _ _ q => q.elim⟩
end
end W97
end
section
set_option Elab.async false
set_option linter.all false
set_option maxRecDepth 100000
set_option maxHeartbeats 0
namespace W97
open PySem PySem.Spec PyProof.Rows L2
theorem law_at {w : World} {K : PySem.W.Frag} {h : Heap} {mg : Str → Option Value} {f : Addr} (X : K.In h) (G : h.Ns mainGlobals mg) (hfa : mg ("law" : Str) = some (.ref f)) (c : He.SaysX fa fn [] tfs exB w h K) :
    LamX.LawAtS PySem.Challenge.rw_wokeas_k97_whole_plain_rows_by_walk w K CX0 14 63 "_law_script" mg f h := by
  have En : En K mg := ⟨c.t.d, h, X, G⟩
  obtain ⟨fd, F⟩ := En.def 73
  have e := hfa.symm.trans (En.glo 73)
  cases e
  have ne : (He.cT K dPlain).2 ≠ (He.cT K dLet).2 := by
    have z : (!decide ((He.cT K dPlain).2 = (He.cT K dLet).2)) = true := c.more
    simpa using z
  refine ⟨fd, tfs.map (He.cT K), spLaw K, fun p hp => ?_, fun p hp => ?_, fun p hp => ?_, law_binds F, fun H a ns hn _ hT hS => ⟨a, ns, rfl, hS, fun p hp => ?_, fun _ => rfl⟩, fun base hb hns hT => law_ok F ⟨En, hT _ (List.mem_map.mpr ⟨dPlain, List.mem_cons_self, rfl⟩), hT _ (List.mem_map.mpr ⟨dLet, List.mem_cons_of_mem _ List.mem_cons_self, rfl⟩), ne⟩⟩
  · obtain ⟨q, hq, rfl⟩ := List.mem_map.mp hp
    exact c.empty q hq
  · obtain ⟨q, hq, rfl⟩ := List.mem_map.mp hp
    exact c.out q hq
  · obtain ⟨q, hq, rfl⟩ := List.mem_map.mp hp
    exact PySem.W.codeHd_of_K X (c.hd q hq)
  · rcases List.mem_cons.mp hp with rfl | hp
    · exact .nil (hT _ (List.mem_map.mpr ⟨dPlain, List.mem_cons_self, rfl⟩))
    · rw [List.mem_singleton.mp hp]
      exact .nil (hT _ (List.mem_map.mpr ⟨dLet, List.mem_cons_of_mem _ List.mem_cons_self, rfl⟩))
theorem left : Left := fun w K h mg f X G hfa c => law_at X G hfa c
end W97
theorem PySem.Challenge.cw_wokeas_k97_whole_plain_rows_by_walk_holds : PySem.Challenge.rw_wokeas_k97_whole_plain_rows_by_walk.Holds :=
  W97.holds_of W97.left
end
