import PyProof.Rows.All
import Wide.All
import OpenK.AllK
import Wide.FinOn
import HandS.ForMost
import HandS.NoneIn
import HandS.Walk
import HandS.FStr
import HandS.IsInst
import HandS.Defaults
import HandS.MakeKwOnly
import KE.GoesEnum
import PyProof.CollectIter
import PySem.Challenge.RW_neverlate_k09_whole_text_and_back
set_option Elab.async false
set_option linter.all false
set_option maxRecDepth 100000
set_option maxHeartbeats 4100000
/-! NvM: plain mathematics of the written form: words, lines, texts; names; numbers. -/
namespace Nv
open PySem PySem.Builtin PySem.Builtin.Str PySem.StrLaws TL

/-! ### data -/
abbrev KD := Str × Int × Int
abbrev WD := Str × Str × Int
structure TD where
  name : Str
  kinds : List KD
  ways : List WD
def num (i : Int) : Str := Str.ofString (toString i)
def chars : Str := Str.ofString "abcdefghijklmnopqrstuvwxyz0123456789"
def charsL : List Nat := [97, 98, 99, 100, 101, 102, 103, 104, 105, 106, 107, 108, 109, 110, 111, 112, 113, 114, 115, 116, 117, 118, 119, 120, 121, 122, 48, 49, 50, 51, 52, 53, 54, 55, 56, 57]
theorem tl_chars : tl chars = charsL := by decide +kernel
structure NameOk (z : Str) : Prop where
  lo : 1 ≤ z.length
  hi : z.length ≤ 12
  ch : ∀ c ∈ tl z, c ∈ charsL
structure KOk (k : KD) : Prop where
  nm : NameOk k.1
  c1 : 1 ≤ k.2.1
  c2 : k.2.1 ≤ 1000
  d1 : 1 ≤ k.2.2
  d2 : k.2.2 ≤ 1000
structure WOk (ks : List KD) (w : WD) : Prop where
  s : w.1 ∈ ks.map (·.1)
  t : w.2.1 ∈ ks.map (·.1)
  d1 : 1 ≤ w.2.2
  d2 : w.2.2 ≤ 1000
structure TOk (t : TD) : Prop where
  nm : NameOk t.name
  k1 : 1 ≤ t.kinds.length
  k8 : t.kinds.length ≤ 8
  kn : (t.kinds.map (·.1)).Nodup
  ko : ∀ k ∈ t.kinds, KOk k
  w16 : t.ways.length ≤ 16
  wo : ∀ w ∈ t.ways, WOk t.kinds w
def CapOk (c : Int) : Prop := 0 ≤ c ∧ c ≤ 1000000
structure SOk (ts : List TD) (tb : List Int) : Prop where
  t6 : ts.length ≤ 6
  tn : (ts.map (·.name)).Nodup
  to : ∀ t ∈ ts, TOk t
  b1 : 1 ≤ tb.length
  b2 : tb.length ≤ 1001
  bo : ∀ c ∈ tb, CapOk c

/-! ### numbers -/
theorem tl_num0 {i : Int} (h : 0 ≤ i) : tl (num i) = numL i.toNat := by
  have e : ((i.toNat : Nat) : Int) = i := by omega
  have q := tl_num i.toNat
  rw [e] at q
  exact q
theorem num_len {i : Int} {k : Nat} (hk : 0 < k) (h : 0 ≤ i) (h2 : i.toNat < 10 ^ k) : (num i).length ≤ k := by
  rw [len_tl, tl_num0 h]
  exact numL_len hk h2
theorem numL_head : ∀ n : Nat, ∃ c r, numL n = c :: r ∧ (c = 48 → r = []) := fun n => by
  induction n using Nat.strongRecOn with | _ n ih =>
    by_cases h : n < 10
    · exact ⟨48 + n, [], numL_lt h, fun _ => rfl⟩
    · obtain ⟨c, r, e, q⟩ := ih (n / 10) (by omega)
      refine ⟨c, r ++ [48 + n % 10], by rw [numL_step (by omega), e]; rfl, fun hc => ?_⟩
      exfalso
      have hr := q hc
      subst hr hc
      have v := numL_val (n / 10)
      rw [e] at v
      have v0 : NumText.digitsVal [48] = 0 := by decide
      omega
theorem num_head {i : Int} (h : 0 ≤ i) : ∃ c, (num i).cps[0]? = some c ∧ (c = 48 → (num i).length = 1) := by
  obtain ⟨c, r, e, q⟩ := numL_head i.toNat
  have t := tl_num0 h
  rw [e] at t
  refine ⟨c, ?_, fun hc => ?_⟩
  · rw [← Array.getElem?_toList]
    show (tl (num i))[0]? = _
    rw [t] <;> rfl
  · rw [len_tl, t, q hc] <;> rfl
theorem num_pos {i : Int} (h : 0 ≤ i) : 1 ≤ (num i).length := by
  obtain ⟨c, r, e, _⟩ := numL_head i.toNat
  rw [len_tl, tl_num0 h, e, List.length_cons]
  omega
theorem num_ne {i : Int} (h : 0 ≤ i) : ¬ num i = (Str.ofString "") := fun e => by
  have q := num_pos h
  rw [e] at q
  exact absurd q (by decide +kernel)
theorem num_digit {i : Int} (h : 0 ≤ i) {c : Nat} (hc : c ∈ tl (num i)) : 48 ≤ c ∧ c ≤ 57 := by
  rw [tl_num0 h] at hc
  have q := numL_digits i.toNat c hc
  exact q
def digits : Str := Str.ofString "0123456789"
theorem tl_digits : tl digits = [48, 49, 50, 51, 52, 53, 54, 55, 56, 57] := by decide +kernel
theorem mem_digits {c : Nat} (h : 48 ≤ c ∧ c ≤ 57) : c ∈ tl digits := by
  rw [tl_digits]
  have : c = 48 ∨ c = 49 ∨ c = 50 ∨ c = 51 ∨ c = 52 ∨ c = 53 ∨ c = 54 ∨ c = 55 ∨ c = 56 ∨ c = 57 := by omega
  rcases this with z | z | z | z | z | z | z | z | z | z <;> subst z <;> decide
theorem num_int {i : Int} (h : 0 ≤ i) (h2 : i ≤ 1000000) : intText? (num i) = some i := by
  have e : i = ((i.toNat : Nat) : Int) := by omega
  have l : (numL i.toNat).length ≤ 7 := numL_len (by decide) (by omega)
  have q := int_num (n := i.toNat) (by omega)
  unfold num
  rw [← e] at q
  exact q
theorem num_len7 {i : Int} (h : CapOk i) : (num i).length ≤ 7 := num_len (by decide) h.1 (by have := h.2; omega)

/-! ### words, lines, texts -/
structure WordOk (w : Str) : Prop where
  len : w.length ≤ 12
  sp : 32 ∉ tl w
  nl : 10 ∉ tl w
structure LineOk (ws : List Str) : Prop where
  ne : ws ≠ []
  len : ws.length ≤ 1002
  wo : ∀ w ∈ ws, WordOk w
def spS : Str := Str.ofString " "
def nlS : Str := Str.ofString "\n"
theorem tl_sp : tl spS = [32] := by decide +kernel
theorem tl_nl : tl nlS = [10] := by decide +kernel
def lineOf (ws : List Str) : Str := Txt.join spS ws
def textOf (ls : List (List Str)) : Str := Txt.join nlS (ls.map lineOf)
theorem tl_lineOf (ws : List Str) : tl (lineOf ws) = joinL [32] (ws.map tl) := by
  unfold lineOf
  rw [join_eq, tl_join, tl_sp]
theorem split_line {ws : List Str} (h : LineOk ws) : Txt.split (lineOf ws) spS = ws :=
  split_join tl_sp (by decide +kernel) h.ne fun w hw => (h.wo w hw).sp
theorem joinL_len (S : List Nat) (b : Nat) (hS : S.length ≤ 1) : ∀ ps : List (List Nat), (∀ p ∈ ps, p.length ≤ b) → (joinL S ps).length ≤ (b + 1) * ps.length
  | [], _ => Nat.zero_le _
  | [p], h => by
    have := h p (List.mem_singleton.mpr rfl)
    show p.length ≤ (b + 1) * 1
    omega
  | p :: q :: r, h => by
    have h1 := h p (List.mem_cons_self ..)
    have h2 := joinL_len S b hS (q :: r) fun z hz => h z (List.mem_cons_of_mem _ hz)
    show (p ++ (S ++ joinL S (q :: r))).length ≤ (b + 1) * (r.length + 1 + 1)
    rw [List.length_append, List.length_append]
    have e : (b + 1) * (q :: r).length = (b + 1) * (r.length + 1) := rfl
    rw [e] at h2
    have e2 : (b + 1) * (r.length + 1 + 1) = (b + 1) * (r.length + 1) + (b + 1) := Nat.mul_succ _ _
    omega
theorem line_len {ws : List Str} (h : LineOk ws) : (lineOf ws).length ≤ 13026 := by
  rw [len_tl, tl_lineOf]
  have q := joinL_len [32] 12 (by decide) (ws.map tl) fun p hp => by
    obtain ⟨w, hw, rfl⟩ := List.mem_map.mp hp
    have := (h.wo w hw).len
    rwa [len_tl] at this
  rw [List.length_map] at q
  have := h.len
  omega
theorem joinL_mem {S : List Nat} {c : Nat} : ∀ {ps : List (List Nat)}, c ∈ joinL S ps → c ∈ S ∨ ∃ p ∈ ps, c ∈ p
  | [], h => by cases h
  | [p], h => .inr ⟨p, List.mem_singleton.mpr rfl, h⟩
  | p :: q :: r, h => by
    have h' : c ∈ p ++ (S ++ joinL S (q :: r)) := h
    rcases List.mem_append.mp h' with h' | h'
    · exact .inr ⟨p, List.mem_cons_self .., h'⟩
    · rcases List.mem_append.mp h' with h' | h'
      · exact .inl h'
      · rcases joinL_mem h' with z | ⟨z, hz, hc⟩
        · exact .inl z
        · exact .inr ⟨z, List.mem_cons_of_mem _ hz, hc⟩
theorem line_nl {ws : List Str} (h : LineOk ws) : 10 ∉ tl (lineOf ws) := fun hc => by
  rw [tl_lineOf] at hc
  rcases joinL_mem hc with z | ⟨p, hp, hc⟩
  · exact absurd z (by decide)
  · obtain ⟨w, hw, rfl⟩ := List.mem_map.mp hp
    exact (h.wo w hw).nl hc
structure TextOk (ls : List (List Str)) : Prop where
  ne : ls ≠ []
  len : ls.length ≤ 151
  lo : ∀ ws ∈ ls, LineOk ws
theorem split_text {ls : List (List Str)} (h : TextOk ls) : Txt.split (textOf ls) nlS = ls.map lineOf :=
  split_join tl_nl (by decide +kernel) (fun e => h.ne (List.map_eq_nil_iff.mp e)) fun p hp => by
    obtain ⟨ws, hw, rfl⟩ := List.mem_map.mp hp
    exact line_nl (h.lo ws hw)
theorem text_len {ls : List (List Str)} (h : TextOk ls) : (textOf ls).length ≤ 2000000 := by
  unfold textOf
  rw [len_tl, join_eq, tl_join, tl_nl]
  have q := joinL_len [10] 13026 (by decide) ((ls.map lineOf).map tl) fun p hp => by
    obtain ⟨z, hz, rfl⟩ := List.mem_map.mp hp
    obtain ⟨ws, hw, rfl⟩ := List.mem_map.mp hz
    have := line_len (h.lo ws hw)
    rwa [len_tl] at this
  repeat rw [List.length_map] at q
  have := h.len
  have : 13027 * ls.length ≤ 13027 * 151 := Nat.mul_le_mul_left _ this
  omega
theorem sum_le {α : Type} (f : α → Nat) (b : Nat) : ∀ l : List α, (∀ x ∈ l, f x ≤ b) → (l.map f).sum ≤ b * l.length
  | [], _ => Nat.zero_le _
  | x :: l, h => by
    rw [List.map_cons, List.sum_cons, List.length_cons, Nat.mul_succ]
    have hx := h x (List.mem_cons_self ..)
    have h2 := sum_le f b l fun z hz => h z (List.mem_cons_of_mem _ hz)
    omega
/-- room for the joining of lines -/
theorem text_room {ls : List (List Str)} (h : TextOk ls) : ((ls.map lineOf).map (·.length)).sum + (ls.map lineOf).length * nlS.length ≤ 16777216 := by
  have q := sum_le (fun z : Str => z.length) 13026 (ls.map lineOf) fun z hz => by
    obtain ⟨ws, hw, rfl⟩ := List.mem_map.mp hz
    exact line_len (h.lo ws hw)
  have e1 : nlS.length = 1 := by decide +kernel
  rw [e1]
  rw [List.length_map] at q ⊢
  have := h.len
  have : 13026 * ls.length ≤ 13026 * 151 := Nat.mul_le_mul_left _ this
  omega
theorem line_room {ws : List Str} (h : LineOk ws) : (ws.map (·.length)).sum + ws.length * spS.length ≤ 16777216 := by
  have q := sum_le (fun z : Str => z.length) 12 ws fun z hz => (h.wo z hz).len
  have e1 : spS.length = 1 := by decide +kernel
  rw [e1]
  have := h.len
  omega

/-! ### names -/
theorem chars_lo {c : Nat} (h : c ∈ charsL) : 48 ≤ c ∧ c ≤ 122 := by
  have q : ∀ c ∈ charsL, 48 ≤ c ∧ c ≤ 122 := by decide
  exact q c h
theorem NameOk.word {z : Str} (h : NameOk z) : WordOk z :=
  ⟨h.hi, fun hc => absurd (chars_lo (h.ch _ hc)) (by decide), fun hc => absurd (chars_lo (h.ch _ hc)) (by decide)⟩
theorem num_word {i : Int} (h : CapOk i) : WordOk (num i) :=
  ⟨Nat.le_trans (num_len7 h) (by decide), fun hc => absurd (num_digit h.1 hc) (by decide), fun hc => absurd (num_digit h.1 hc) (by decide)⟩

/-! ### the written form -/
def kwKind : Str := Str.ofString "kind"
def kwWay : Str := Str.ofString "way"
def kwTask : Str := Str.ofString "task"
def kwTable : Str := Str.ofString "table"
theorem kwKind_ok : WordOk kwKind := ⟨by decide +kernel, by decide +kernel, by decide +kernel⟩
theorem kwWay_ok : WordOk kwWay := ⟨by decide +kernel, by decide +kernel, by decide +kernel⟩
theorem kwTask_ok : WordOk kwTask := ⟨by decide +kernel, by decide +kernel, by decide +kernel⟩
theorem kwTable_ok : WordOk kwTable := ⟨by decide +kernel, by decide +kernel, by decide +kernel⟩
def kindW (k : KD) : List Str := [kwKind, k.1, num k.2.1, num k.2.2]
def wayW (w : WD) : List Str := [kwWay, w.1, w.2.1, num w.2.2]
def headW (n : Str) : List Str := [kwTask, n]
def taskW (t : TD) : List (List Str) := headW t.name :: (t.kinds.map kindW ++ t.ways.map wayW)
def tableW (tb : List Int) : List Str := kwTable :: tb.map num
def blocks (ts : List TD) : List (List Str) := (ts.map taskW).flatten
def sysW (ts : List TD) (tb : List Int) : List (List Str) := tableW tb :: blocks ts
theorem cap_of {i : Int} (h1 : 1 ≤ i) (h2 : i ≤ 1000) : CapOk i := ⟨by omega, by omega⟩
theorem KOk.line {k : KD} (h : KOk k) : LineOk (kindW k) :=
  ⟨by unfold kindW; simp, by unfold kindW; simp, fun w hw => by
    have hw' : w = kwKind ∨ w = k.1 ∨ w = num k.2.1 ∨ w = num k.2.2 := by simpa [kindW] using hw
    rcases hw' with z | z | z | z <;> subst z
    · exact kwKind_ok
    · exact h.nm.word
    · exact num_word (cap_of h.c1 h.c2)
    · exact num_word (cap_of h.d1 h.d2)⟩
theorem TOk.name_of {t : TD} (h : TOk t) {n : Str} (hn : n ∈ t.kinds.map (·.1)) : NameOk n := by
  obtain ⟨k, hk, rfl⟩ := List.mem_map.mp hn
  exact (h.ko k hk).nm
theorem TOk.wline {t : TD} (h : TOk t) {w : WD} (hw : w ∈ t.ways) : LineOk (wayW w) :=
  ⟨by unfold wayW; simp, by unfold wayW; simp, fun z hz => by
    have hz' : z = kwWay ∨ z = w.1 ∨ z = w.2.1 ∨ z = num w.2.2 := by simpa [wayW] using hz
    have o := h.wo w hw
    rcases hz' with q | q | q | q <;> subst q
    · exact kwWay_ok
    · exact (h.name_of o.s).word
    · exact (h.name_of o.t).word
    · exact num_word (cap_of o.d1 o.d2)⟩
theorem head_line {n : Str} (h : NameOk n) : LineOk (headW n) :=
  ⟨by unfold headW; simp, by unfold headW; simp, fun z hz => by
    have hz' : z = kwTask ∨ z = n := by simpa [headW] using hz
    rcases hz' with q | q <;> subst q
    · exact kwTask_ok
    · exact h.word⟩
theorem TOk.lines {t : TD} (h : TOk t) : ∀ ws ∈ taskW t, LineOk ws := fun ws hw => by
  rcases List.mem_cons.mp hw with e | hw
  · subst e
    exact head_line h.nm
  · rcases List.mem_append.mp hw with hw | hw
    · obtain ⟨k, hk, rfl⟩ := List.mem_map.mp hw
      exact (h.ko k hk).line
    · obtain ⟨w, hw2, rfl⟩ := List.mem_map.mp hw
      exact h.wline hw2
theorem table_line {tb : List Int} (h2 : tb.length ≤ 1001) (ho : ∀ c ∈ tb, CapOk c) : LineOk (tableW tb) :=
  ⟨by unfold tableW; simp, by unfold tableW; simp; omega, fun z hz => by
    obtain e | hz := List.mem_cons.mp hz
    · subst e
      exact kwTable_ok
    · obtain ⟨c, hc, rfl⟩ := List.mem_map.mp hz
      exact num_word (ho c hc)⟩
theorem taskW_len {t : TD} : (taskW t).length = 1 + t.kinds.length + t.ways.length := by
  unfold taskW
  rw [List.length_cons, List.length_append, List.length_map, List.length_map]
  omega
theorem blocks_len : ∀ {ts : List TD}, (∀ t ∈ ts, TOk t) → (blocks ts).length ≤ 25 * ts.length
  | [], _ => Nat.le_refl _
  | t :: ts, h => by
    have h1 := h t (List.mem_cons_self ..)
    have h2 := blocks_len (ts := ts) fun z hz => h z (List.mem_cons_of_mem _ hz)
    have e : blocks (t :: ts) = taskW t ++ blocks ts := rfl
    rw [e, List.length_append, taskW_len, List.length_cons]
    have := h1.k8
    have := h1.w16
    omega
theorem SOk.text {ts : List TD} {tb : List Int} (h : SOk ts tb) : TextOk (sysW ts tb) where
  ne := by unfold sysW; simp
  len := by
    have q := blocks_len h.to
    have := h.t6
    unfold sysW
    rw [List.length_cons]
    omega
  lo := fun ws hw => by
    rcases List.mem_cons.mp hw with e | hw
    · subst e
      exact table_line h.b2 h.bo
    · obtain ⟨l, hl, hw⟩ := List.mem_flatten.mp hw
      obtain ⟨t, ht, rfl⟩ := List.mem_map.mp hl
      exact (h.to t ht).lines ws hw

/-! ### the same lines, glued otherwise -/
theorem line4 (a b c d : Str) : tl (lineOf [a, b, c, d]) = tl a ++ (32 :: (tl b ++ (32 :: (tl c ++ (32 :: tl d))))) := by
  rw [tl_lineOf] <;> rfl
theorem line2 (a b : Str) : tl (lineOf [a, b]) = tl a ++ (32 :: tl b) := by
  rw [tl_lineOf] <;> rfl
theorem tl_empty : tl Str.empty = [] := rfl
theorem ofS (x : String) (l : List Nat) (h : tl (Str.ofString x) = l) : tl (Str.ofString x) = l := h
theorem tl_kind_ : tl (Str.ofString "kind ") = tl kwKind ++ [32] := by decide +kernel
theorem tl_way_ : tl (Str.ofString "way ") = tl kwWay ++ [32] := by decide +kernel
theorem tl_task_ : tl (Str.ofString "task ") = tl kwTask ++ [32] := by decide +kernel
theorem tl_table_ : tl (Str.ofString "table ") = tl kwTable ++ [32] := by decide +kernel
theorem tl_spx : tl (Str.ofString " ") = [32] := tl_sp
theorem glue_kind (n c d : Str) : Str.ofString "kind " ++ n ++ Str.ofString " " ++ c ++ Str.ofString " " ++ d = lineOf [kwKind, n, c, d] := by
  refine ext_tl ?_
  simp only [tl_append, line4, tl_kind_, tl_spx, List.append_assoc, List.cons_append, List.nil_append]
theorem glue_kindF (n c d : Str) : Str.empty ++ Str.ofString "kind " ++ n ++ Str.ofString " " ++ c ++ Str.ofString " " ++ d = lineOf [kwKind, n, c, d] := by
  refine ext_tl ?_
  simp only [tl_append, line4, tl_kind_, tl_spx, tl_empty, List.append_assoc, List.cons_append, List.nil_append]
theorem glue_way (n c d : Str) : Str.ofString "way " ++ n ++ Str.ofString " " ++ c ++ Str.ofString " " ++ d = lineOf [kwWay, n, c, d] := by
  refine ext_tl ?_
  simp only [tl_append, line4, tl_way_, tl_spx, List.append_assoc, List.cons_append, List.nil_append]
theorem glue_wayF (n c d : Str) : Str.empty ++ Str.ofString "way " ++ n ++ Str.ofString " " ++ c ++ Str.ofString " " ++ d = lineOf [kwWay, n, c, d] := by
  refine ext_tl ?_
  simp only [tl_append, line4, tl_way_, tl_spx, tl_empty, List.append_assoc, List.cons_append, List.nil_append]
theorem glue_task (n : Str) : Str.ofString "task " ++ n = lineOf (headW n) := by
  refine ext_tl ?_
  unfold headW
  simp only [tl_append, line2, tl_task_, List.append_assoc, List.cons_append, List.nil_append]
theorem glue_taskF (n : Str) : Str.empty ++ Str.ofString "task " ++ n = lineOf (headW n) := by
  refine ext_tl ?_
  unfold headW
  simp only [tl_append, line2, tl_task_, tl_empty, List.append_assoc, List.cons_append, List.nil_append]
theorem joinL_snoc (S p : List Nat) : ∀ ps : List (List Nat), ps ≠ [] → joinL S (ps ++ [p]) = joinL S ps ++ (S ++ p)
  | [], h => absurd rfl h
  | [q], _ => rfl
  | q :: r :: t, _ => by
    have ih := joinL_snoc S p (r :: t) (by simp)
    show q ++ (S ++ joinL S ((r :: t) ++ [p])) = (q ++ (S ++ joinL S (r :: t))) ++ (S ++ p)
    rw [ih]
    simp only [List.append_assoc]
theorem line_snoc {ws : List Str} (h : ws ≠ []) (w : Str) : lineOf ws ++ Str.ofString " " ++ w = lineOf (ws ++ [w]) := by
  refine ext_tl ?_
  rw [tl_append, tl_append, tl_lineOf, tl_lineOf, tl_spx, List.map_append, List.map_singleton, joinL_snoc _ _ _ (by simpa using h), List.append_assoc]
theorem line_table {ws : List Str} (h : ws ≠ []) : Str.ofString "table " ++ Txt.join (Str.ofString " ") ws = lineOf (kwTable :: ws) := by
  refine ext_tl ?_
  rw [tl_append, show tl (Txt.join (Str.ofString " ") ws) = joinL [32] (ws.map tl) from tl_lineOf ws, tl_lineOf, tl_table_]
  cases ws with
  | nil => exact absurd rfl h
  | cons a r =>
    rw [List.append_assoc]
    rfl
theorem line_one : lineOf [kwTable] = kwTable := ext_tl (by rw [tl_lineOf]; rfl)
end Nv
/-! NvR: two rules that the layer lacks: a starred target behind one name; enumerate over a tuple. -/
namespace Nv
open PySem PySem.Spec PyProof.Rows L2
section
variable {prog : Program} {w : World} {A : Around} {E : Value → Shared → Prop} {s : Shared}
theorem walks_shift {I : Addr} {fp wr : List Addr} {n : Nat} {P : Nat → Value → Prop} {St : Nat → Heap → Prop} (W : Walks prog w A I fp wr (n + 1) P St) :
    Walks prog w A I fp wr n (fun i => P (i + 1)) (fun i => St (i + 1)) where
  sub := W.sub
  frame := fun i h h' st k => W.frame (i + 1) h h' st k
  item := fun i s Q E hi st hQ => W.item (i + 1) s Q E (by omega) st fun v h' tk hP st' hk => hQ v h' tk hP st' hk
  done := fun s Q E st hQ => W.done s Q E st hQ
  self := fun i s Q E st hQ => W.self (i + 1) s Q E st hQ
/-- first, *rest: the items of a list of one item or more -/
theorem star_items {l : Addr} {x : Value} {xs : List Value} {Q : List Value → Shared → Prop} (hh : A.handled = none) (hl : s.heap.IsList l (x :: xs).toArray) (hz : xs.length ≤ sizeLine)
    (hQ : ∀ (h' : Heap) (tk : Nat), (∀ b o, s.heap.get? b = some o → h'.get? b = some o) → Q [x, .ref h'.objs.size] { s with heap := h'.push { cls := .type "list", data := .seq xs.toArray }, toks := tk }) :
    wpAny (model prog w) A (unpackItems (.ref l) 2 (some 1)) Q E s := by
  have hlt : l ≠ s.heap.objs.size := by
    obtain ⟨_, at_l, _⟩ := hl
    exact fun same => Nat.lt_irrefl _ (same ▸ Heap.lt_size at_l)
  unfold unpackItems
  refine wpAny_bind ?_
  unfold notIterableAtAll
  refine wpAny_bind (wpAny_specialOf hl.typeIs slot_list_iter.lookup (wpAny_pure ?_))
  rw [if_neg (by simp)]
  refine wpAny_bind (wpAny_holding ?_); refine wpAny_pyIter_list hl ?_
  refine wpAny_bind (wpAny_holding (PySem.W.kun_draw hlt 1 0 _ _ ⟨_, Heap.get?_push_size _ rfl, rfl, rfl⟩ (hl.push _) (by simp) fun h₁ hit₁ hs₁ => ?_))
  have hl₁ : h₁.IsList l (x :: xs).toArray := (hl.push _).extBut hs₁.extBut hlt
  have hd : ((x :: xs).toArray.toList.drop 0).take 1 = [x] := by simp
  rw [hd]
  rw [if_neg (show ¬ [x].length < 1 from Nat.lt_irrefl 1)]
  have W0 := Walks.list (prog := prog) (w := w) (A := A.in1) hh s.heap.objs.size l hlt (x :: xs).toArray
  have W1 : Walks prog w A.in1 s.heap.objs.size [s.heap.objs.size, l] [s.heap.objs.size] xs.length (fun i v => (x :: xs)[i + 1]? = some v)
      (fun i h => h.IsListIter s.heap.objs.size l (i + 1) ∧ h.IsList l (x :: xs).toArray) := walks_shift (n := xs.length) (by simpa using W0)
  have hsz : s.heap.objs.size < h₁.objs.size := by
    obtain ⟨o, ho, _⟩ := hit₁
    exact Heap.lt_size ho
  have hll : l < h₁.objs.size := by
    obtain ⟨o, ho, _⟩ := hl₁
    exact Heap.lt_size ho
  refine wpAny_bind (wpAny_holding (wpAny_collect_iter (T := "list_iterator") (.inr (.inr (.inl rfl))) W1.toS (fun i s st => ?_) ⟨hit₁, hl₁⟩ (fun b hb => ?_) (by simp) (fun s' acc hm hacc => ?_) hz))
  · obtain ⟨⟨o, ho, hc, _⟩, _⟩ := st
    exact ⟨o, ho, hc⟩
  · have e' : b = s.heap.objs.size ∨ b = l := by simpa using hb
    rcases e' with z | z
    · rw [z]; exact hsz
    · rw [z]; exact hll
  · obtain ⟨h2, g2, d2, t2, o2⟩ := s'
    cases (show g2 = s.gens from hm.gens)
    cases (show d2 = s.drawn from hm.drawn)
    cases (show o2 = s.os from hm.os)
    have ea : acc.toList = xs := by
      obtain ⟨h1, h3⟩ := hacc
      apply List.ext_getElem?
      intro j
      by_cases hj : j < xs.length
      · have hja : j < acc.size := by omega
        have q := h3 j acc[j] (by simp [hja])
        have e1 : acc.toList[j]? = some acc[j] := by simp [hja]
        rw [e1]
        simpa using q.symm
      · rw [List.getElem?_eq_none (by simp; omega), List.getElem?_eq_none (by omega)]
    rw [ea]
    rw [if_neg (Nat.not_lt_zero _)]
    have e3 : xs.take (xs.length - (2 - 1 - 1)) = xs := List.take_of_length_le (by omega)
    have e4 : xs.drop (xs.length - (2 - 1 - 1)) = [] := List.drop_of_length_le (by omega)
    show wpAny _ _ (newList (xs.take (xs.length - (2 - 1 - 1))) >>= fun l => pure ([x] ++ [l] ++ xs.drop (xs.length - (2 - 1 - 1)))) _ _ _
    rw [e3, e4]
    have hk : ∀ b o, s.heap.get? b = some o → h2.get? b = some o := fun b o e => by
      have nb : b ≠ s.heap.objs.size := Nat.ne_of_lt (Heap.lt_size e)
      exact hm.heap b o (by simpa using nb) ((hs₁.2 b nb).trans (Heap.get?_push_of_some _ e))
    refine wpAny_bind (wpAny_newList (wpAny_pure ?_) hz)
    exact hQ h2 t2 hk
end
section
variable {X : Cx} {pos : Pos}
/-- first, *rest = a list of one item or more -/
def gStar (K : PySem.W.Frag) (t : TGs) : TG := fun v σ H Q => ∃ a x xs, v = .ref a ∧ SqL K H a (x :: xs) ∧ ∀ p, H p = none → t [x, .ref p] σ (upd H p (.lst xs)) Q
theorem pg_star {e1 e2 : Expr} {k : Nat} {p2 : Pos} {t : TGs} (hc : X.calm = true) (h : PGs X [e1, e2] t)
    (hn : (assignEach [e1, .Starred e2 p2] X.env).length = 2 := by rfl) (hst : (assignEach [e1, .Starred e2 p2] X.env).findIdx? (·.1) = some 1 := by rfl)
    (hm : (assignEach [e1, .Starred e2 p2] X.env).map (·.2) = (assignEach [e1, e2] X.env).map (·.2) := by rfl) : PG X (.Tuple [e1, .Starred e2 p2] k pos) (gStar X.K t) := by
  refine ⟨fun pins s σ H v u Q I r way => ?_⟩
  obtain ⟨a, x, xs, e0, hq, hw⟩ := way
  subst e0
  cases r
  obtain ⟨items, rv, ⟨ob, sl, at_a, cls, _, seq⟩, hz⟩ := I.list hq
  have hl' : s.heap.IsList a items.toArray := ⟨ob, at_a, cls, sl, seq⟩
  cases rv with
  | @cons _ y _ ys r1 rv =>
    rw [PyProof.Rows.assign_Tuple]; refine wpAny_bind (wpAny_standAt ?_); unfold unpack
    rw [hn, hst, hm]
    rw [List.length_cons] at hz
    have hl := rv.length
    refine wpAny_bind (wpAny_holding (star_items (I.ok.hd hc) hl' (by omega) fun h' tk hk => ?_))
    have I1 : Inv X pins σ H { s with heap := h', toks := tk } := I.kept (t' := tk) hk
    have hp : H h'.objs.size = none := I1.fresh
    have I2 : Inv X pins σ (upd H h'.objs.size (.lst xs)) { s with heap := h'.push { cls := .type "list", data := .seq ys.toArray }, toks := tk } := I1.lnew (t' := tk) rv (by omega)
    exact h.run pins _ σ _ [x, .ref h'.objs.size] _ Q I2 (.cons r1 (.cons rfl .nil)) (hw _ hp)
end

/-! ### enumerate(tuple) -/
set_option maxHeartbeats 4100000 in
theorem meets_enumT (t : Addr) (items : Array Value) :
    Meets (Builtin.«enumerate.__new__» ⟨[.type "enumerate", .ref t], []⟩) (fun _ R s => s.heap.IsTuple t items ∧
      R (.ok (.ret (.ref (s.heap.push { cls := .type "tuple_iterator", data := .fields #[.ref t, .int 0 0] }).objs.size)))
        { s with heap := (s.heap.push { cls := .type "tuple_iterator", data := .fields #[.ref t, .int 0 0] }).push { cls := .type "enumerate", data := .fields #[.none, .bool false, .ref s.heap.objs.size, rawInt 0, .none, .none] } }) :=
  .of_wp fun prog w A R start given => by
    obtain ⟨hp, g, d, tk, os⟩ := start
    obtain ⟨h1, last⟩ := given
    have isSub := sub_enumerate
    have q1 : ∀ {A' : Around} {E : Value → Shared → Prop} {Q : Value → Shared → Prop}, Q (.ref hp.objs.size) ⟨hp.push { cls := .type "tuple_iterator", data := .fields #[.ref t, .int 0 0] }, g, d, tk, os⟩ → wpAny (model prog w) A' (pyIter (.ref t)) Q E ⟨hp, g, d, tk, os⟩ :=
      fun q => wpAny_pyIter_tuple h1 q
    wp_walk using q1
    refine wpAny_stack_any fun _ => ?_
    refine wpAny_pure ?_
    split
    · rename_i cl _ _ _ _ _
      cases cl == Value.type "enumerate" <;> (wp_walk using q1; exact ⟨_, rfl, last⟩)
    · (wp_walk using q1; exact ⟨_, rfl, last⟩)
abbrev tupIt (t : Addr) : Obj := { cls := .type "tuple_iterator", data := .fields #[.ref t, .int 0 0] }
abbrev enumOn (i : Addr) : Obj := { cls := .type "enumerate", data := .fields #[.none, .bool false, .ref i, rawInt 0, .none, .none] }
theorem call_enumT {prog : Program} {w : World} {A : Around} {E : Value → Shared → Prop} {s : Shared} {t : Addr} {items : Array Value} {Q : Value → Shared → Prop} (hT : s.heap.IsTuple t items)
    (next : ∀ g : Heap, IsEnum g (s.heap.objs.size + 1) s.heap.objs.size 0 .none → g.IsTupleIter s.heap.objs.size t 0 → (∀ b o, s.heap.get? b = some o → g.get? b = some o) → Q (.ref (s.heap.objs.size + 1)) { s with heap := g }) :
    wpAny (model prog w) A (call (.type "enumerate") [.ref t]) Q E s := by
  have size1 : (s.heap.push (tupIt t)).objs.size = s.heap.objs.size + 1 := Heap.size_push ..
  have made : IsEnum ((s.heap.push (tupIt t)).push (enumOn s.heap.objs.size)) (s.heap.objs.size + 1) s.heap.objs.size 0 .none := by
    have q := Heap.get?_push_size (s.heap.push (tupIt t)) (o := enumOn s.heap.objs.size) rfl
    rw [size1] at q
    exact q
  have fin := next _ made ⟨_, Heap.get?_push_of_some _ (Heap.get?_push_size _ rfl), rfl, rfl⟩ fun b o x => Heap.get?_push_of_some _ (Heap.get?_push_of_some _ x)
  exact callType_new F.called_enumerate (by decide) (F.typeCall_enumerate_1 _) (F.newCall_enumerate_1 _) (fun self => F.args_object_init_2 self _) F.entry_enumerate_new (meets_enumT t items)
    ⟨hT, by
      show _ ∧ _
      rw [size1]
      exact ⟨⟨_, made, rfl⟩, fin⟩⟩
/-- the tuple at a, each item in a new pair with its place -/
def Itet (K : PySem.W.Frag) (a : Addr) : It :=
  ⟨fun i H => ∃ (xs : List V) (x : V), SqT K H a xs ∧ xs[i]? = some x, fun i H v H' => ∃ T x, v = .ref T ∧ H T = none ∧ H' = upd H T (.tup [.int (i : Nat), x]) ∧ ∀ xs, SqT K H a xs → xs[i]? = some x, fun i H => ∃ xs : List V, SqT K H a xs ∧ xs.length = i⟩
theorem turn_enumT {P : Program} {w : World} {K : PySem.W.Frag} {elts : List Expr} {kk : Nat} {tpos : Pos} (a e it : Addr) :
    Turn P w K (.Tuple elts kk tpos) (Itet K a) [e, it] e (fun i h => (∃ old, IsEnum h e it ((i : Nat) : Int) old) ∧ h.IsTupleIter it a i ∧ e ≠ it ∧ a ≠ it) where
  mem := by simp
  obj := fun i h st b hb => by
    obtain ⟨⟨_, is_e⟩, ⟨_, is_it, _, fs⟩, _⟩ := st
    obtain rfl | rfl : b = e ∨ b = it := by simpa using hb
    · exact ⟨_, is_e, fun v q => nomatch q⟩
    · exact ⟨_, is_it, fun v q => nomatch fs.symm.trans q⟩
  keep := fun i h h' st k => let ⟨⟨old, he⟩, hi, hne, ha⟩ := st; ⟨⟨old, k e (by simp) _ he⟩, hi.at fun o q => k it (by simp) o q, hne, ha⟩
  item := by
    intro X hP hw hK hc i pins s σ H E I hf st got
    subst hP hw hK
    obtain ⟨⟨old, he⟩, hit, hne, hai⟩ := st
    obtain ⟨xs, x, hq, hx⟩ := got
    obtain ⟨its, rv, p, _⟩ := I.tuple hq
    obtain ⟨u, hu, ru⟩ : ∃ u, its[i]? = some u ∧ _ := rv.get hx
    have lt_e : e < s.heap.objs.size := Heap.lt_size he
    have lt_it : it < s.heap.objs.size := let ⟨_, there, _⟩ := hit; Heap.lt_size there
    have hea : e ≠ a := fun z => by
      obtain ⟨o, ho, hcl, _⟩ := p
      have he' : s.heap.get? e = some _ := he
      rw [z, ho] at he'
      cases he'
      injection hcl with hq
      exact absurd hq (by decide)
    have D := Draws.tuple (prog := X.prog) (w := X.w) (A := X.A.in1) (show X.A.in1.handled = none from I.ok.hd hc) it a hai its.toArray
    refine wpAny_pyNext_enum_itemD D he ⟨hit, p⟩ (i := i) ?_ hne (by simp [hne, hea]) fun y h' tk hy ho hst' hT hsz hk => ?_
    · have := (List.getElem?_eq_some_iff.mp hu).1
      simpa using this
    · have ey : y = u := by
        have hy' : its[i]? = some y := by simpa using hy
        exact Option.some.inj (hy'.symm.trans hu)
      subst ey
      obtain ⟨hit', _⟩ := hst'
      refine ⟨_, rfl, wpAny_letOwnedTupleGo_enum (s := { s with heap := h', toks := tk + 1 }) ho fun h'' he' sb => ?_⟩
      have hT2 : h''.get? s.heap.objs.size = some { cls := .type "tuple", data := .seq #[.int i tk, y] } := (sb.2 _ (Nat.ne_of_gt lt_e)).trans hT
      have pair : ObjOk X.prog X.w (upd H s.heap.objs.size (.tup [.int (i : Nat), x])) h'' s.heap.objs.size (.tup [.int (i : Nat), x]) :=
        ⟨by show 2 ≤ sizeLine; decide, [.int i tk, y], .cons ⟨_, rfl⟩ (.cons ru .nil), ⟨_, hT2, rfl, _, rfl⟩⟩
      have I1 : Inv X pins σ (upd H s.heap.objs.size (.tup [.int (i : Nat), x])) { s with heap := h'', toks := tk + 1 } :=
        I.turnedNew (ch := [e, it]) (fun b ob out q => (sb.2 b fun z => out (by simp [z])).trans (hk b ob (fun z => out (by simp [z])) (fun z => out (by simp [z])) q)) hf (Nat.le_refl _) pair
      refine ⟨.ref s.heap.objs.size, _, I1, rfl, ⟨_, x, rfl, I.hok.fresh (Nat.le_refl _), rfl, fun ys hy => by rw [I.tuple_inj hy hq]; exact hx⟩, ⟨⟨y, ?_⟩, hit'.at fun o q => (sb.2 it (Ne.symm hne)).trans q, hne, hai⟩, fun b hb => ?_⟩
      · rw [show ((i + 1 : Nat) : Int) = (i : Int) + 1 from Int.natCast_succ i]
        exact he'
      · have old_b : b ≠ s.heap.objs.size := by
          obtain rfl | rfl : b = e ∨ b = it := by simpa using hb
          · exact Nat.ne_of_lt lt_e
          · exact Nat.ne_of_lt lt_it
        rw [upd_ne old_b]
        exact (hf b hb).1
  done := by
    intro X hP hw hK hc i pins s σ H E I hf st got
    subst hP hw hK
    obtain ⟨⟨old, he⟩, hit, hne, hai⟩ := st
    obtain ⟨xs, hq, hx⟩ := got
    obtain ⟨its, rv, p, _⟩ := I.tuple hq
    obtain ⟨f0, f1, _, f3, f4, f5⟩ := hf it (.tail _ (.head _))
    have hl := rv.length
    have hea : e ≠ a := fun z => by
      obtain ⟨o, ho, hcl, _⟩ := p
      have he' : s.heap.get? e = some _ := he
      rw [z, ho] at he'
      cases he'
      injection hcl with hq
      exact absurd hq (by decide)
    have ei : its.toArray.size = i := by simp; omega
    have D := Draws.tuple (prog := X.prog) (w := X.w) (A := X.A.in1) (show X.A.in1.handled = none from I.ok.hd hc) it a hai its.toArray
    rw [ei] at D
    exact wpAny_pyNext_enum_endD D he ⟨hit, p⟩ fun h' eb => ⟨rfl, I.turned (t' := s.toks) (fun b o hb q => eb b o hb q) f0 f1 f3 f4 f5⟩
  self := fun A i s Q E st h => wpAny_pyIter_enum st.1.choose_spec h
def iEnumT (K : PySem.W.Frag) (ta : TA) : TI := fun σ H R => ta σ H fun vs H1 => ∃ a xs, vs = [.ref a] ∧ SqT K H1 a xs ∧ R (Itet K a) H1
theorem pi_enumT {X : Cx} {e : Expr} {ta : TA} {p pos tpos : Pos} {elts : List Expr} {kk : Nat} (hg : Gl X "enumerate") (hm : X.mg "enumerate" = none) (ha : PA X [e] ta) (hs : starEach [e] X.env = [(false, eval e X.env)] := by rfl) :
    PI X (.Tuple elts kk tpos) (.Call (.Name "enumerate" p) [e] [] pos) (iEnumT X.K ta) := by
  refine ⟨fun pins s σ H R I way => ?_⟩
  have go := ha.run pos pins s σ H _ I way
  refine Call_ (ld_blt I hg hm boot_enumerate (PyProof.Rows.callWith_type1 (thn go fun us s1 ⟨vs, H1, I1, r1, ⟨a, xs, ex, hq, q⟩⟩ => ?_) hs rfl))
  subst ex
  cases r1 with
  | cons r rr =>
    cases rr
    cases r
    obtain ⟨its, rv, there, _⟩ := I1.tuple hq
    have apart : a ≠ s1.heap.objs.size := Nat.ne_of_lt there.lt
    refine call_enumT there fun h' is_e is_it grown => wpAny_pyIter_enum is_e ?_
    have I2 := I1.kept (t' := s1.toks) grown
    refine ⟨s1.heap.objs.size + 1, [s1.heap.objs.size + 1, s1.heap.objs.size], _, _, H1, rfl, I2, turn_enumT a (s1.heap.objs.size + 1) s1.heap.objs.size, ⟨⟨.none, is_e⟩, is_it, Nat.succ_ne_self _, apart⟩, fun b hb => ?_, q⟩
    have new_b : s1.heap.objs.size ≤ b := by
      obtain rfl | rfl : b = s1.heap.objs.size + 1 ∨ b = s1.heap.objs.size := by simpa using hb
      · exact Nat.le_succ _
      · exact Nat.le_refl _
    exact I1.fpOk new_b (I1.hok.fresh new_b)
theorem walk_enumT {K : PySem.W.Frag} {a : Addr} {xs : List V} : Walk (Itet K a) xs.length (fun H => SqT K H a xs) (YPair (fun i => some (.int (i : Nat))) (fun i => xs[i]?)) := by
  refine ⟨fun i _ hi q => ⟨xs, xs[i], q, by simp [hi]⟩, fun _ q => ⟨xs, q, rfl⟩, fun i H v H' _ q y => ?_⟩
  obtain ⟨T, x, is_v, free, is_H, each⟩ := y
  exact ⟨T, .int i, x, is_v, free, is_H, rfl, each xs q⟩
end Nv
/-! NvT: the text by places; defs by their names; what is kept of a heap. -/
namespace Nv
open PySem PySem.Spec PyProof.Rows L2
def topS (i : Nat) : Stmt := PySem.Challenge.pw_neverlate_k09_whole_text_and_back.main.body.getD i (.Pass ⟨0, 0, 0, 0⟩)
abbrev sIsName : Stmt := topS 19
abbrev pIsName : List Str := ["text"]
abbrev nIsName : List Str := ["text", "char"]
theorem scIsName : FnScope nIsName pIsName (defScope sIsName) := ⟨rfl, rfl, rfl, by decide +kernel, rfl, by decide +kernel, by decide +kernel⟩
abbrev sAreKinds : Stmt := topS 20
abbrev pAreKinds : List Str := ["kinds"]
abbrev nAreKinds : List Str := ["kinds", "seen", "name", "cost", "deadline"]
theorem scAreKinds : FnScope nAreKinds pAreKinds (defScope sAreKinds) := ⟨rfl, rfl, rfl, by decide +kernel, rfl, by decide +kernel, by decide +kernel⟩
abbrev sAreWays : Stmt := topS 21
abbrev pAreWays : List Str := ["ways", "kind_names"]
abbrev nAreWays : List Str := ["ways", "kind_names", "source", "target", "distance"]
theorem scAreWays : FnScope nAreWays pAreWays (defScope sAreWays) := ⟨rfl, rfl, rfl, by decide +kernel, rfl, by decide +kernel, by decide +kernel⟩
abbrev sIsTable : Stmt := topS 22
abbrev pIsTable : List Str := ["table"]
abbrev nIsTable : List Str := ["table", "capacity"]
theorem scIsTable : FnScope nIsTable pIsTable (defScope sIsTable) := ⟨rfl, rfl, rfl, by decide +kernel, rfl, by decide +kernel, by decide +kernel⟩
abbrev sTaskInit : Stmt := inClass (topS 23) 0
abbrev pTaskInit : List Str := ["self", "name", "kinds", "ways"]
abbrev nTaskInit : List Str := ["self", "name", "kinds", "ways", "kind", "way"]
theorem scTaskInit : FnScope nTaskInit pTaskInit (defScope sTaskInit) := ⟨rfl, rfl, rfl, by decide +kernel, rfl, by decide +kernel, by decide +kernel⟩
abbrev sTaskKindNumber : Stmt := inClass (topS 23) 3
abbrev pTaskKindNumber : List Str := ["self", "kind_name"]
abbrev nTaskKindNumber : List Str := ["self", "kind_name", "number", "kind"]
theorem scTaskKindNumber : FnScope nTaskKindNumber pTaskKindNumber (defScope sTaskKindNumber) := ⟨rfl, rfl, rfl, by decide +kernel, rfl, by decide +kernel, by decide +kernel⟩
abbrev sTaskCost : Stmt := inClass (topS 23) 4
abbrev pTaskCost : List Str := ["self", "kind_name"]
abbrev nTaskCost : List Str := ["self", "kind_name"]
theorem scTaskCost : FnScope nTaskCost pTaskCost (defScope sTaskCost) := ⟨rfl, rfl, rfl, by decide +kernel, rfl, by decide +kernel, by decide +kernel⟩
abbrev sTaskWaysFrom : Stmt := inClass (topS 23) 6
abbrev pTaskWaysFrom : List Str := ["self", "kind_name"]
abbrev nTaskWaysFrom : List Str := ["self", "kind_name", "way"]
theorem scTaskWaysFrom : FnScope nTaskWaysFrom pTaskWaysFrom (defScope sTaskWaysFrom) := ⟨rfl, rfl, rfl, by decide +kernel, rfl, by decide +kernel, by decide +kernel⟩
abbrev sSystemInit : Stmt := inClass (topS 24) 0
abbrev pSystemInit : List Str := ["self", "tasks", "table"]
abbrev nSystemInit : List Str := ["self", "tasks", "table", "names", "task"]
theorem scSystemInit : FnScope nSystemInit pSystemInit (defScope sSystemInit) := ⟨rfl, rfl, rfl, by decide +kernel, rfl, by decide +kernel, by decide +kernel⟩
abbrev sSystemTaskNumber : Stmt := inClass (topS 24) 1
abbrev pSystemTaskNumber : List Str := ["self", "task_name"]
abbrev nSystemTaskNumber : List Str := ["self", "task_name", "number", "task"]
theorem scSystemTaskNumber : FnScope nSystemTaskNumber pSystemTaskNumber (defScope sSystemTaskNumber) := ⟨rfl, rfl, rfl, by decide +kernel, rfl, by decide +kernel, by decide +kernel⟩
abbrev sFormatTask : Stmt := topS 27
abbrev pFormatTask : List Str := ["task"]
abbrev nFormatTask : List Str := ["task", "lines", "name", "cost", "deadline", "source", "target", "distance"]
theorem scFormatTask : FnScope nFormatTask pFormatTask (defScope sFormatTask) := ⟨rfl, rfl, rfl, by decide +kernel, rfl, by decide +kernel, by decide +kernel⟩
abbrev sFormatSystem : Stmt := topS 28
abbrev pFormatSystem : List Str := ["system"]
abbrev nFormatSystem : List Str := ["system", "lines", "task", "capacity"]
theorem scFormatSystem : FnScope nFormatSystem pFormatSystem (defScope sFormatSystem) := ⟨rfl, rfl, rfl, by decide +kernel, rfl, by decide +kernel, by decide +kernel⟩
abbrev sParseNumber : Stmt := topS 29
abbrev pParseNumber : List Str := ["word", "line", "least", "most"]
abbrev nParseNumber : List Str := ["word", "line", "least", "most", "char", "number"]
theorem scParseNumber : FnScope nParseNumber pParseNumber (defScope sParseNumber) := ⟨rfl, rfl, rfl, by decide +kernel, rfl, by decide +kernel, by decide +kernel⟩
abbrev sParseWords : Stmt := topS 30
abbrev pParseWords : List Str := ["text", "line", "keyword", "many"]
abbrev nParseWords : List Str := ["text", "line", "keyword", "many", "first", "words"]
theorem scParseWords : FnScope nParseWords pParseWords (defScope sParseWords) := ⟨rfl, rfl, rfl, by decide +kernel, rfl, by decide +kernel, by decide +kernel⟩
abbrev sParseTable : Stmt := topS 31
abbrev pParseTable : List Str := ["text"]
abbrev nParseTable : List Str := ["text", "first", "words", "word"]
theorem scParseTable : FnScope nParseTable pParseTable (defScope sParseTable) := ⟨rfl, rfl, rfl, by decide +kernel, rfl, by decide +kernel, by decide +kernel⟩
abbrev sParseKind : Stmt := topS 32
abbrev pParseKind : List Str := ["text", "line", "kinds"]
abbrev nParseKind : List Str := ["text", "line", "kinds", "name", "cost", "deadline", "kind"]
theorem scParseKind : FnScope nParseKind pParseKind (defScope sParseKind) := ⟨rfl, rfl, rfl, by decide +kernel, rfl, by decide +kernel, by decide +kernel⟩
abbrev sParseWay : Stmt := topS 33
abbrev pParseWay : List Str := ["text", "line", "kinds", "ways"]
abbrev nParseWay : List Str := ["text", "line", "kinds", "ways", "source", "target", "distance", "names", "kind"]
theorem scParseWay : FnScope nParseWay pParseWay (defScope sParseWay) := ⟨rfl, rfl, rfl, by decide +kernel, rfl, by decide +kernel, by decide +kernel⟩
abbrev sStarts : Stmt := topS 34
abbrev pStarts : List Str := ["lines", "at", "keyword"]
abbrev nStarts : List Str := ["lines", "at", "keyword"]
theorem scStarts : FnScope nStarts pStarts (defScope sStarts) := ⟨rfl, rfl, rfl, by decide +kernel, rfl, by decide +kernel, by decide +kernel⟩
abbrev sParseTask : Stmt := topS 35
abbrev pParseTask : List Str := ["lines", "at", "tasks"]
abbrev nParseTask : List Str := ["lines", "at", "tasks", "name", "kinds", "ways", "task"]
theorem scParseTask : FnScope nParseTask pParseTask (defScope sParseTask) := ⟨rfl, rfl, rfl, by decide +kernel, rfl, by decide +kernel, by decide +kernel⟩
abbrev sParseSystem : Stmt := topS 36
abbrev pParseSystem : List Str := ["text"]
abbrev nParseSystem : List Str := ["text", "lines", "table", "tasks", "at", "task"]
theorem scParseSystem : FnScope nParseSystem pParseSystem (defScope sParseSystem) := ⟨rfl, rfl, rfl, by decide +kernel, rfl, by decide +kernel, by decide +kernel⟩
abbrev sLawRow : Stmt := topS 40
abbrev pLawRow : List Str := ["_law_cell_here", "_law_many"]
abbrev nLawRow : List Str := ["_law_cell_here", "_law_many", "_law_row_here", "_law_rest", "_law_k", "_law_mixed"]
theorem scLawRow : FnScope nLawRow pLawRow (defScope sLawRow) := ⟨rfl, rfl, rfl, by decide +kernel, rfl, by decide +kernel, by decide +kernel⟩
abbrev sLawNumbers : Stmt := topS 41
abbrev pLawNumbers : List Str := ["_law_script", "_law_many"]
abbrev nLawNumbers : List Str := ["_law_script", "_law_many", "_law_cells", "_law_each", "_law_numbers_here", "_law_cell_here", "_law_number"]
theorem scLawNumbers : FnScope nLawNumbers pLawNumbers (defScope sLawNumbers) := ⟨rfl, rfl, rfl, by decide +kernel, rfl, by decide +kernel, by decide +kernel⟩
abbrev sLawNames : Stmt := topS 42
abbrev pLawNames : List Str := ["_law_numbers_here", "_law_at", "_law_many"]
abbrev nLawNames : List Str := ["_law_numbers_here", "_law_at", "_law_many", "_law_chars", "_law_prefix", "_law_k", "_law_place", "_law_shift", "_law_names_here"]
theorem scLawNames : FnScope nLawNames pLawNames (defScope sLawNames) := ⟨rfl, rfl, rfl, by decide +kernel, rfl, by decide +kernel, by decide +kernel⟩
abbrev sLawSize : Stmt := topS 43
abbrev pLawSize : List Str := ["_law_number", "_law_most"]
abbrev nLawSize : List Str := ["_law_number", "_law_most"]
theorem scLawSize : FnScope nLawSize pLawSize (defScope sLawSize) := ⟨rfl, rfl, rfl, by decide +kernel, rfl, by decide +kernel, by decide +kernel⟩
abbrev sLawKinds : Stmt := topS 44
abbrev pLawKinds : List Str := ["_law_numbers_here", "_law_at", "_law_names_here"]
abbrev nLawKinds : List Str := ["_law_numbers_here", "_law_at", "_law_names_here", "_law_kinds_here", "_law_k"]
theorem scLawKinds : FnScope nLawKinds pLawKinds (defScope sLawKinds) := ⟨rfl, rfl, rfl, by decide +kernel, rfl, by decide +kernel, by decide +kernel⟩
abbrev sLawWays : Stmt := topS 45
abbrev pLawWays : List Str := ["_law_numbers_here", "_law_at", "_law_names_here", "_law_many"]
abbrev nLawWays : List Str := ["_law_numbers_here", "_law_at", "_law_names_here", "_law_many", "_law_ways_here", "_law_k", "_law_source", "_law_target"]
theorem scLawWays : FnScope nLawWays pLawWays (defScope sLawWays) := ⟨rfl, rfl, rfl, by decide +kernel, rfl, by decide +kernel, by decide +kernel⟩
abbrev sLawTask : Stmt := topS 46
abbrev pLawTask : List Str := ["_law_numbers_here", "_law_at", "_law_name"]
abbrev nLawTask : List Str := ["_law_numbers_here", "_law_at", "_law_name", "_law_names_here", "_law_kinds_here", "_law_ways_here"]
theorem scLawTask : FnScope nLawTask pLawTask (defScope sLawTask) := ⟨rfl, rfl, rfl, by decide +kernel, rfl, by decide +kernel, by decide +kernel⟩
abbrev sLawMade : Stmt := topS 47
abbrev pLawMade : List Str := ["_law_drawn"]
abbrev nLawMade : List Str := ["_law_drawn"]
theorem scLawMade : FnScope nLawMade pLawMade (defScope sLawMade) := ⟨rfl, rfl, rfl, by decide +kernel, rfl, by decide +kernel, by decide +kernel⟩
abbrev sLawSameTask : Stmt := topS 48
abbrev pLawSameTask : List Str := ["_law_task_here", "_law_drawn"]
abbrev nLawSameTask : List Str := ["_law_task_here", "_law_drawn"]
theorem scLawSameTask : FnScope nLawSameTask pLawSameTask (defScope sLawSameTask) := ⟨rfl, rfl, rfl, by decide +kernel, rfl, by decide +kernel, by decide +kernel⟩
abbrev sLawTable : Stmt := topS 49
abbrev pLawTable : List Str := ["_law_numbers_here", "_law_at"]
abbrev nLawTable : List Str := ["_law_numbers_here", "_law_at", "_law_size_here", "_law_table_here", "_law_k", "_law_number"]
theorem scLawTable : FnScope nLawTable pLawTable (defScope sLawTable) := ⟨rfl, rfl, rfl, by decide +kernel, rfl, by decide +kernel, by decide +kernel⟩
abbrev sLawSameSystem : Stmt := topS 50
abbrev pLawSameSystem : List Str := ["_law_system", "_law_drawn", "_law_table_here"]
abbrev nLawSameSystem : List Str := ["_law_system", "_law_drawn", "_law_table_here", "_law_k"]
theorem scLawSameSystem : FnScope nLawSameSystem pLawSameSystem (defScope sLawSameSystem) := ⟨rfl, rfl, rfl, by decide +kernel, rfl, by decide +kernel, by decide +kernel⟩
abbrev sLawLines : Stmt := topS 51
abbrev pLawLines : List Str := ["_law_drawn", "_law_table_here"]
abbrev nLawLines : List Str := ["_law_drawn", "_law_table_here", "_law_lines_here", "_law_capacity", "_law_one", "_law_kind", "_law_way"]
theorem scLawLines : FnScope nLawLines pLawLines (defScope sLawLines) := ⟨rfl, rfl, rfl, by decide +kernel, rfl, by decide +kernel, by decide +kernel⟩
abbrev sLawLarge : Stmt := topS 52
abbrev pLawLarge : List Str := ["_law_numbers_here", "_law_at", "_law_name"]
abbrev nLawLarge : List Str := ["_law_numbers_here", "_law_at", "_law_name", "_law_names_here", "_law_kinds_here", "_law_ways_here", "_law_k"]
theorem scLawLarge : FnScope nLawLarge pLawLarge (defScope sLawLarge) := ⟨rfl, rfl, rfl, by decide +kernel, rfl, by decide +kernel, by decide +kernel⟩
abbrev sLaw : Stmt := topS 53
abbrev pLaw : List Str := ["_law_script"]
abbrev nLaw : List Str := ["_law_script", "_law_numbers_here", "_law_many", "_law_names_here", "_law_drawn", "_law_table_here", "_law_text", "_law_system", "_law_k", "_law_kind", "_law_leaving", "_law_made_here", "_law_way"]
theorem scLaw : FnScope nLaw pLaw (defScope sLaw) := ⟨rfl, rfl, rfl, by decide +kernel, rfl, by decide +kernel, by decide +kernel⟩

/-! ### defs by their names -/
/-- the module's name x holds a def that keeps the promise sp, at most at level k; called by position -/
structure Def (P : Program) (w : World) (K : PySem.W.Frag) (mg : Str → Option Value) (base : Heap) (k : Nat) (x : Str) (ps : List Str) (sp : Sp) : Prop where
  ex : ∃ (f : Addr) (fd : FuncData), FnOk P w K mg base CX0 k f fd ps sp ∧ mg x = some (.ref f) ∧ PySem.W.keepIn K (.ref f) = true ∧ Binds K fd ps []
/-- the same with keywords: n values by position, then the keywords ks -/
structure DefK (P : Program) (w : World) (K : PySem.W.Frag) (mg : Str → Option Value) (base : Heap) (k : Nat) (x : Str) (ps : List Str) (n : Nat) (ks : List Str) (sp : Sp) : Prop where
  ex : ∃ (f : Addr) (fd : FuncData), FnOk P w K mg base CX0 k f fd ps sp ∧ mg x = some (.ref f) ∧ PySem.W.keepIn K (.ref f) = true ∧ KBn K fd ps n ks (fun us ws => us ++ ws) (fun vs zs => vs ++ zs)
/-- a class at C made with keywords: its __init__ keeps sp -/
structure DefC (P : Program) (w : World) (K : PySem.W.Frag) (mg : Str → Option Value) (base : Heap) (k : Nat) (x : Str) (C : Addr) (ps : List Str) (n : Nat) (ks : List Str) (sp : Sp) : Prop where
  ex : ∃ (f : Addr) (fd : FuncData), FnOk P w K mg base CX0 k f fd ps sp ∧ mg x = some (.ref C) ∧ Mk K C f ∧ KBn K fd ps (n + 1) ks (fun us ws => us ++ ws) (fun vs zs => vs ++ zs)
/-- a method m of the class at C -/
structure DefM (P : Program) (w : World) (K : PySem.W.Frag) (mg : Str → Option Value) (base : Heap) (k : Nat) (C : Addr) (m : Str) (ps : List Str) (sp : Sp) : Prop where
  ex : ∃ (f : Addr) (fd : FuncData), FnOk P w K mg base CX0 k f fd ps sp ∧ Meth K C m f ∧ Binds K fd ps []
section
variable {X : Cx} {k n : Nat} {x : Str} {p pos : Pos} {e : Expr} {es : List Expr} {kws : List Keyword} {ps ks : List Str} {sp : Sp} {t tk : TA} {C : Addr}
theorem pe_def (D : Def X.prog X.w X.K X.mg X.base k x ps sp) (hr : Room k X.A) (ha : PA X (e :: es) t) (hg : Gl X x := by rfl) (hdb : (x == ("__debug__" : Str)) = false := by decide)
    (he : starEach (e :: es) X.env = (false, eval e X.env) :: starEach es X.env := by rfl) (hpl : (backTo pos (starEach es X.env)).any (·.1) = false := by rfl) : PE X (.Call (.Name x p) (e :: es) [] pos) (tCall sp [] E0 t) := by
  obtain ⟨f, fd, F, m, kp, b⟩ := D.ex
  exact pe_call F hr hg m kp b .nil pass0 ha hdb he hpl
theorem pe_defK (D : DefK X.prog X.w X.K X.mg X.base k x ps n ks sp) (hr : Room k X.A) (ha : PA X (e :: es) t) (hkw : PK X kws tk) (hg : Gl X x := by rfl)
    (hall : (backToKw pos (keywordEach kws X.env)).all (·.1.isSome) = true := by rfl) (hks : (backToKw pos (keywordEach kws X.env)).filterMap (·.1) = ks := by rfl)
    (hnd : (x == ("__debug__" : Str)) = false := by decide) (hst : starEach (e :: es) X.env = (false, eval e X.env) :: starEach es X.env := by rfl)
    (hpn : ((backTo pos (starEach (e :: es) X.env)).any (·.1) || (backToKw pos (keywordEach kws X.env)).any (·.1.isNone)) = false := by rfl) :
    PE X (.Call (.Name x p) (e :: es) kws pos) (tCallN n ks.length sp (fun vs zs => vs ++ zs) E0 t tk) := by
  obtain ⟨f, fd, F, m, kp, b⟩ := D.ex
  exact pe_callN F hr hg m kp b pass0 ha hkw hall hks hnd hst hpn
theorem pe_defC (D : DefC X.prog X.w X.K X.mg X.base k x C ps n ks sp) (hr : Room (k + 1) X.A) (ha : PA X (e :: es) t) (hkw : PK X kws tk) (hg : Gl X x := by rfl)
    (hall : (backToKw pos (keywordEach kws X.env)).all (·.1.isSome) = true := by rfl) (hks : (backToKw pos (keywordEach kws X.env)).filterMap (·.1) = ks := by rfl)
    (hnd : (x == ("__debug__" : Str)) = false := by decide) (hst : starEach (e :: es) X.env = (false, eval e X.env) :: starEach es X.env := by rfl)
    (hpn : ((backTo pos (starEach (e :: es) X.env)).any (·.1) || (backToKw pos (keywordEach kws X.env)).any (·.1.isNone)) = false := by rfl) :
    PE X (.Call (.Name x p) (e :: es) kws pos) (tMakeK C n ks.length sp (fun vs zs => vs ++ zs) E0 t tk) := by
  obtain ⟨f, fd, F, m, M, b⟩ := D.ex
  exact pe_makeK M F hr hg m b pass0 ha hkw hall hks hnd hst hpn
end
theorem fun_kb {K : PySem.W.Frag} {x qual : Str} {st : Stmt} {f : Addr} {fd : FuncData} {ps : List Str} (F : Fun K x qual st f fd) (n : Nat) (ks : List Str)
    (h : ∀ (kV doc pm : Value) (an : Option Addr) (cdv ct : Value) (us ws : List Value), us.length = n → ws.length = ks.length → bindArgs (PySem.W.fnOf x qual (defArgs st) (defBody st) (defScope st) .none kV doc pm an cdv ct) ⟨us, ks.zip ws⟩ = pure (ps.zip (us ++ ws))) :
    KBn K fd ps n ks (fun us ws => us ++ ws) (fun vs zs => vs ++ zs) := by
  obtain ⟨_, _, kV, dc, pm, an, cd, ct, _, rfl, _, _⟩ := F.ex
  exact ⟨fun s us ws _ l1 l2 => .of_eq (h kV dc pm an cd ct us ws l1 l2), fun r1 r2 => r1.append r2⟩

/-! ### heaps -/
/-- all but lists is as it was -/
def Keep (H H' : Hp) : Prop := ∀ a o, H a = some o → (∀ xs, o ≠ .lst xs) → H' a = some o
theorem Keep.refl (H : Hp) : Keep H H := fun _ _ e _ => e
theorem Keep.trans {H H1 H2 : Hp} (a : Keep H H1) (b : Keep H1 H2) : Keep H H2 := fun c o e n => b c o (a c o e n) n
theorem _root_.L2.Same.keep {H H' : Hp} (s : Same H H') : Keep H H' := fun c o e _ => s c o e
theorem keep_lst {H : Hp} {l : Addr} {xs : List V} {o : HO} (h : H l = some (.lst xs)) : Keep H (upd H l o) := fun c u e n => by
  have hc : c ≠ l := fun z => by
    rw [z, h] at e
    exact n xs (Option.some.inj e).symm
  rw [upd_ne hc]
  exact e
theorem same_new {H : Hp} {p : Addr} {o : HO} (h : H p = none) : Same H (upd H p o) := fun b x e => by
  rw [upd_ne (ne_of_none e h)]
  exact e
theorem keep_new {H : Hp} {p : Addr} {o : HO} (h : H p = none) : Keep H (upd H p o) := Same.keep (same_new h)
/-- from a heap where l is not: writes at l don't matter -/
theorem _root_.L2.Same.put {H0 H : Hp} {l : Addr} {o : HO} (s : Same H0 H) (h : H0 l = none) : Same H0 (upd H l o) := fun b x e => by
  rw [upd_ne (ne_of_none e h)]
  exact s b x e
theorem _root_.L2.Same.add {H0 H : Hp} {p : Addr} {o : HO} (s : Same H0 H) (h : H p = none) : Same H0 (upd H p o) := s.trans (same_new h)
theorem tup_ne {xs : List V} : ∀ ys, (HO.tup xs) ≠ .lst ys := fun _ h => by cases h
theorem ins_ne {C d : Addr} {fs : List (Str × V)} : ∀ ys, (HO.ins C d fs) ≠ .lst ys := fun _ h => by cases h

/-! ### lists beside lists -/
def Al {α β : Type} (R : α → β → Prop) (xs : List α) (ys : List β) : Prop := xs.length = ys.length ∧ ∀ (i : Nat) x y, xs[i]? = some x → ys[i]? = some y → R x y
section
variable {α β : Type} {R S : α → β → Prop} {xs : List α} {ys : List β}
theorem Al.nil : Al R ([] : List α) ([] : List β) := ⟨rfl, fun i x y h => by simp at h⟩
theorem Al.mono (a : Al R xs ys) (h : ∀ x y, R x y → S x y) : Al S xs ys := ⟨a.1, fun i x y h1 h2 => h x y (a.2 i x y h1 h2)⟩
theorem Al.get (a : Al R xs ys) {i : Nat} {x : α} (h : xs[i]? = some x) : ∃ y, ys[i]? = some y ∧ R x y := by
  have hi := (List.getElem?_eq_some_iff.mp h).1
  have hj : i < ys.length := by rw [← a.1]; exact hi
  exact ⟨ys[i], by simp [hj], a.2 i x ys[i] h (by simp [hj])⟩
theorem Al.get' (a : Al R xs ys) {i : Nat} {y : β} (h : ys[i]? = some y) : ∃ x, xs[i]? = some x ∧ R x y := by
  have hi := (List.getElem?_eq_some_iff.mp h).1
  have hj : i < xs.length := by rw [a.1]; exact hi
  exact ⟨xs[i], by simp [hj], a.2 i xs[i] y (by simp [hj]) h⟩
theorem Al.snoc (a : Al R xs ys) {x : α} {y : β} (h : R x y) : Al R (xs ++ [x]) (ys ++ [y]) := by
  refine ⟨by rw [List.length_append, List.length_append, a.1]; rfl, fun i u v h1 h2 => ?_⟩
  by_cases hi : i < xs.length
  · rw [List.getElem?_append_left hi] at h1
    rw [List.getElem?_append_left (by rw [← a.1]; exact hi)] at h2
    exact a.2 i u v h1 h2
  · have e : i = xs.length := by
      have := (List.getElem?_eq_some_iff.mp h1).1
      rw [List.length_append] at this
      have : [x].length = 1 := rfl
      omega
    subst e
    rw [List.getElem?_append_right (Nat.le_refl _), Nat.sub_self] at h1
    rw [List.getElem?_append_right (by rw [a.1]; exact Nat.le_refl _), a.1, Nat.sub_self] at h2
    cases h1
    cases h2
    exact h
theorem Al.cons {x : α} {y : β} (h : R x y) (a : Al R xs ys) : Al R (x :: xs) (y :: ys) := by
  refine ⟨by rw [List.length_cons, List.length_cons, a.1], fun i u v h1 h2 => ?_⟩
  cases i with
  | zero =>
    cases h1
    cases h2
    exact h
  | succ i => exact a.2 i u v h1 h2
/-- one more of the first ones -/
theorem Al.more {i : Nat} {x : α} {y : β} (a : Al R xs (ys.take i)) (hy : ys[i]? = some y) (h : R x y) : Al R (xs ++ [x]) (ys.take (i + 1)) := by
  have e : ys.take (i + 1) = ys.take i ++ [y] := by rw [List.take_add_one, hy]; rfl
  rw [e]
  exact a.snoc h
theorem Al.whole (a : Al R xs (ys.take ys.length)) : Al R xs ys := by rwa [List.take_length] at a
end
/-! ### kinds, ways, tasks, systems in a heap -/
def KT (H : Hp) (v : V) (k : KD) : Prop := ∃ a, v = .ref a ∧ H a = some (.tup [.str k.1, .int k.2.1, .int k.2.2])
def WT (H : Hp) (v : V) (k : WD) : Prop := ∃ a, v = .ref a ∧ H a = some (.tup [.str k.1, .str k.2.1, .int k.2.2])
theorem KT.keep {H H' : Hp} {v : V} {k : KD} (s : Keep H H') (h : KT H v k) : KT H' v k := let ⟨a, e, q⟩ := h; ⟨a, e, s a _ q tup_ne⟩
theorem WT.keep {H H' : Hp} {v : V} {k : WD} (s : Keep H H') (h : WT H v k) : WT H' v k := let ⟨a, e, q⟩ := h; ⟨a, e, s a _ q tup_ne⟩
theorem kts_keep {H H' : Hp} {vs : List V} {ks : List KD} (s : Keep H H') (h : Al (KT H) vs ks) : Al (KT H') vs ks := h.mono fun _ _ => KT.keep s
theorem wts_keep {H H' : Hp} {vs : List V} {ks : List WD} (s : Keep H H') (h : Al (WT H) vs ks) : Al (WT H') vs ks := h.mono fun _ _ => WT.keep s
/-- the attributes of a task, of a system -/
def tf (n : Str) (ka wa : Addr) : List (Str × V) := putF "ways" (.ref wa) (putF "kinds" (.ref ka) (putF "name" (.str n) []))
def sf (ta ba : Addr) : List (Str × V) := putF "table" (.ref ba) (putF "tasks" (.ref ta) [])
theorem ne_nk : ¬ (("kinds" : Str) = "name") := by decide +kernel
theorem ne_nw : ¬ (("name" : Str) = "ways") := by decide +kernel
theorem ne_kw : ¬ (("kinds" : Str) = "ways") := by decide +kernel
theorem ne_nk' : ¬ (("name" : Str) = "kinds") := by decide +kernel
theorem ne_tt : ¬ (("tasks" : Str) = "table") := by decide +kernel
theorem tf_name (n : Str) (ka wa : Addr) : (tf n ka wa).lookup ("name" : Str) = some (.str n) := by
  unfold tf
  rw [lookup_putF, if_neg ne_nw, lookup_putF, if_neg ne_nk', lookup_putF, if_pos rfl]
theorem tf_kinds (n : Str) (ka wa : Addr) : (tf n ka wa).lookup ("kinds" : Str) = some (.ref ka) := by
  unfold tf
  rw [lookup_putF, if_neg ne_kw, lookup_putF, if_pos rfl]
theorem tf_ways (n : Str) (ka wa : Addr) : (tf n ka wa).lookup ("ways" : Str) = some (.ref wa) := by
  unfold tf
  rw [lookup_putF, if_pos rfl]
theorem tf_no (n : Str) (ka wa : Addr) {m : Str} (h1 : ¬ m = "name") (h2 : ¬ m = "kinds") (h3 : ¬ m = "ways") : (tf n ka wa).lookup m = none := by
  unfold tf
  rw [lookup_putF, if_neg h3, lookup_putF, if_neg h2, lookup_putF, if_neg h1]
  all_goals rfl
theorem sf_tasks (ta ba : Addr) : (sf ta ba).lookup ("tasks" : Str) = some (.ref ta) := by
  unfold sf
  rw [lookup_putF, if_neg ne_tt, lookup_putF, if_pos rfl]
theorem sf_table (ta ba : Addr) : (sf ta ba).lookup ("table" : Str) = some (.ref ba) := by
  unfold sf
  rw [lookup_putF, if_pos rfl]
theorem sf_no (ta ba : Addr) {m : Str} (h1 : ¬ m = "tasks") (h2 : ¬ m = "table") : (sf ta ba).lookup m = none := by
  unfold sf
  rw [lookup_putF, if_neg h2, lookup_putF, if_neg h1]
  all_goals rfl
def TaskAt (C : Addr) (H : Hp) (v : V) (t : TD) : Prop := ∃ (p dx ka wa : Addr) (ks ws : List V), v = .ref p ∧ H p = some (.ins C dx (tf t.name ka wa)) ∧ H ka = some (.tup ks) ∧ H wa = some (.tup ws) ∧ Al (KT H) ks t.kinds ∧ Al (WT H) ws t.ways
theorem TaskAt.keep {C : Addr} {H H' : Hp} {v : V} {t : TD} (s : Keep H H') (h : TaskAt C H v t) : TaskAt C H' v t :=
  let ⟨p, dx, ka, wa, ks, ws, e, h1, h2, h3, h4, h5⟩ := h
  ⟨p, dx, ka, wa, ks, ws, e, s _ _ h1 ins_ne, s _ _ h2 tup_ne, s _ _ h3 tup_ne, kts_keep s h4, wts_keep s h5⟩
theorem tasks_keep {C : Addr} {H H' : Hp} {vs : List V} {ts : List TD} (s : Keep H H') (h : Al (TaskAt C H) vs ts) : Al (TaskAt C H') vs ts := h.mono fun _ _ => TaskAt.keep s
def SysAt (CS C : Addr) (H : Hp) (v : V) (ts : List TD) (tb : List Int) : Prop := ∃ (p dx ta ba : Addr) (vs : List V), v = .ref p ∧ H p = some (.ins CS dx (sf ta ba)) ∧ H ta = some (.tup vs) ∧ H ba = some (.tup (tb.map V.int)) ∧ Al (TaskAt C H) vs ts
theorem SysAt.keep {CS C : Addr} {H H' : Hp} {v : V} {ts : List TD} {tb : List Int} (s : Keep H H') (h : SysAt CS C H v ts tb) : SysAt CS C H' v ts tb :=
  let ⟨p, dx, ta, ba, vs, e, h1, h2, h3, h4⟩ := h
  ⟨p, dx, ta, ba, vs, e, s _ _ h1 ins_ne, s _ _ h2 tup_ne, s _ _ h3 tup_ne, tasks_keep s h4⟩
end Nv
/-! NvA: what the top holds (Tx); is_name, are_kinds, are_ways, is_table. -/
namespace Nv
open PySem PySem.Spec PyProof.Rows L2
/-- what the walks ask of the module's names and of the two classes -/
structure Tx (K : PySem.W.Frag) (mg : Str → Option Value) (CT CS : Addr) : Prop where
  ct : Cls K CT
  cs : Cls K CS
  na : NoAttr K CT "name"
  nk : NoAttr K CT "kinds"
  nw : NoAttr K CT "ways"
  nt : NoAttr K CS "tasks"
  nb : NoAttr K CS "table"
  len : mg "len" = none
  all : mg "all" = none
  tuple : mg "tuple" = none
  list : mg "list" = none
  range : mg "range" = none
  enumerate : mg "enumerate" = none
  str : mg "str" = none
  int : mg "int" = none
  abs : mg "abs" = none
  max : mg "max" = none
  isinstance : mg "isinstance" = none
  cNames : ∃ t, mg "NAME_CHARS" = some (.str chars t)
  cDigits : ∃ t, mg "DIGITS" = some (.str digits t)
  cChars : ∃ t, mg "MOST_NAME_CHARS" = some (.int 12 t)
  cKinds : ∃ t, mg "MOST_KINDS" = some (.int 8 t)
  cWays : ∃ t, mg "MOST_WAYS" = some (.int 16 t)
  cCost : ∃ t, mg "MOST_COST" = some (.int 1000 t)
  cDead : ∃ t, mg "MOST_DEADLINE" = some (.int 1000 t)
  cDist : ∃ t, mg "MOST_DISTANCE" = some (.int 1000 t)
  cTasks : ∃ t, mg "MOST_TASKS" = some (.int 6 t)
  cSlots : ∃ t, mg "MOST_SLOTS" = some (.int 1001 t)
  cCap : ∃ t, mg "MOST_CAPACITY" = some (.int 1000000 t)
theorem small12 {n : Nat} (h : n ≤ 12) : n ≤ sizeLine := Nat.le_of_lt (small1000 (Nat.le_trans h (by decide)))

section
variable {X : Cx} {x : Str} {pos : Pos}
/-- a constant of the module: an int, a text -/
theorem pe_gi {i : Int} (hm : ∃ t, X.mg x = some (.int i t)) (hg : Gl X x := by rfl) (hd : (x == ("__debug__" : Str)) = false := by decide) : PE X (.Name x pos) (tC (.int i)) := by
  obtain ⟨t, hm⟩ := hm
  exact pe_glob (v := .int i) hg hm ⟨t, rfl⟩ hd
theorem pe_gs {z : Str} (hm : ∃ t, X.mg x = some (.str z t)) (hg : Gl X x := by rfl) (hd : (x == ("__debug__" : Str)) = false := by decide) : PE X (.Name x pos) (tC (.str z)) := by
  obtain ⟨t, hm⟩ := hm
  exact pe_glob (v := .str z) hg hm ⟨t, rfl⟩ hd
end
/-! ### tests whose answer is known -/
theorem dT {p A B : Prop} [Decidable p] (hp : p) (h : A) : if decide p = true then A else B := by
  rw [decide_eq_true hp]
  exact iteT h
theorem dF {p A B : Prop} [Decidable p] (hp : ¬ p) (h : B) : if decide p = true then A else B := by
  rw [decide_eq_false hp]
  exact iteF h
theorem nT {p A B : Prop} [Decidable p] (hp : ¬ p) (h : A) : if (!decide p) = true then A else B := by
  rw [decide_eq_false hp]
  exact iteT h
theorem bT {b : Bool} {A B : Prop} (hb : b = true) (h : A) : if b = true then A else B := by
  rw [if_pos hb]
  exact h
theorem bF {b : Bool} {A B : Prop} (hb : b = false) (h : B) : if b = true then A else B := by
  rw [if_neg (by simp [hb])]
  exact h
theorem ofI {a b : Nat} (h : a ≤ b) : (a : Int) ≤ (b : Int) := by omega
/-! ### is_name -/
def spIsName : Sp := fun vs H Q _ => ∃ z : Str, vs = [.str z] ∧ NameOk z ∧ ∀ H', Same H H' → Q (.bl true) H'
section
variable {P : Program} {w : World} {K : PySem.W.Frag} {mg : Str → Option Value} {base : Heap} {CT CS : Addr}
theorem ok_isName {f : Addr} {fd : FuncData} (F : Fun K "is_name" "is_name" sIsName f fd) (T : Tx K mg CT CS) : FnOk P w K mg base CX0 1 f fd pIsName spIsName := by
  refine F.ok scIsName (fun vs H Q E h => ?_) (fun cdv A outer s H vs Q E hr h => ?_)
  · obtain ⟨z, rfl, _⟩ := h
    rfl
  · obtain ⟨z, rfl, ok, q⟩ := h
    refine ⟨_, pss_cons (ps_if (pt_not (pt_chain op_le op_le pe_int (pe_callB call_len_str (by rfl) T.len PySem.boot_len (pa_cons (pv 0) pa_nil)) (pe_gi T.cChars))) pss_never pss_nil)
      (pss_one (ps_ret (pe_callB (cr_all rfl) (by rfl) T.all (by decide +kernel) (pa_cons (pe_lc (own := [("char", 1)]) (g := gName 1) (tt := tYes) rfl scIsName.nd (pi_str (pv 0))
        (blkOk_by (own := [("char", 1)]) (N := nIsName) (sc := defScope sIsName) (by decide +kernel)) (fun _ _ _ _ _ => pg_name (i := 1) scIsName.nd rfl (Or.inl rfl)) (fun _ _ _ _ _ => pts_nil)
        (fun _ _ _ _ _ => pe_cmpR op_in_sign (pv 1) (pe_gs T.cNames) rfl)) pa_nil)))), ?_⟩
    refine ⟨.str z, rfl, z, rfl, small12 ok.hi, 1, _, rfl, rfl, _, rfl, dT (by have := ok.lo; omega) ⟨_, 12, rfl, rfl, _, rfl, iteNS (by have := ok.hi; omega) ?_⟩⟩
    refine ⟨_, rfl, z, rfl, fun D hD => lc_it walk_str (fun i H' => Same H H' ∧ H' D = some (.lst ((List.replicate i true).map V.bl))) ⟨same_new hD, upd_same⟩ (fun _ _ _ _ => trivial) ?_ ?_⟩
    · rintro i x H1 H2 hi ⟨s1, e1⟩ ⟨rfl, c, hc, rfl⟩
      have hm : c ∈ TL.tl z := Array.mem_toList_iff.mpr (Array.mem_of_getElem? hc)
      refine ⟨rfl, _, rfl, c, chars, rfl, rfl, _, e1, ?_, s1.put hD, ?_⟩
      · rw [List.length_map, List.length_replicate]
        have := ok.hi
        exact small1000 (Nat.le_trans (Nat.le_of_lt hi) (Nat.le_trans (show z.cps.size ≤ 12 from this) (by decide)))
      · rw [upd_same, decide_eq_true (show c ∈ chars.cps.toList from by rw [show chars.cps.toList = charsL from tl_chars]; exact ok.ch c hm), List.replicate_succ', List.map_append] <;> rfl
    · rintro H1 ⟨s1, e1⟩
      refine ⟨D, _, rfl, SqL.of e1, ?_⟩
      rw [show (List.replicate z.cps.size true).all id = true by simp]
      exact q H1 s1
end
end Nv
/-! NvS: the promises. -/
namespace Nv
open PySem PySem.Spec PyProof.Rows L2
abbrev lineV (ws : List Str) : V := .str (lineOf ws)
def spAreKinds : Sp := fun vs H Q _ => ∃ (a : Addr) (kv : List V) (ks : List KD), vs = [.ref a] ∧ H a = some (.lst kv) ∧ Al (KT H) kv ks ∧ 1 ≤ ks.length ∧ ks.length ≤ 8 ∧ (ks.map (·.1)).Nodup ∧ (∀ k ∈ ks, KOk k) ∧ ∀ (H' : Hp), Same H H' → Q (.bl true) H'
def spAreWays : Sp := fun vs H Q _ => ∃ (a b : Addr) (wv : List V) (ws : List WD) (ks : List KD), vs = [.ref a, .ref b] ∧ H a = some (.lst wv) ∧ Al (WT H) wv ws ∧ H b = some (.lst ((ks.map (·.1)).map V.str)) ∧ ws.length ≤ 16 ∧ (∀ x ∈ ws, WOk ks x) ∧ ∀ (H' : Hp), Same H H' → Q (.bl true) H'
def spIsTable : Sp := fun vs H Q _ => ∃ (a : Addr) (tb : List Int), vs = [.ref a] ∧ H a = some (.lst (tb.map V.int)) ∧ 1 ≤ tb.length ∧ tb.length ≤ 1001 ∧ (∀ c ∈ tb, CapOk c) ∧ ∀ (H' : Hp), Same H H' → Q (.bl true) H'
def spTaskInit (CT : Addr) : Sp := fun vs H Q _ => ∃ (p dx a b : Addr) (kv wv : List V) (t : TD), vs = [.ref p, .str t.name, .ref a, .ref b] ∧ H p = some (.ins CT dx []) ∧ H a = some (.lst kv) ∧ H b = some (.lst wv) ∧ Al (KT H) kv t.kinds ∧ Al (WT H) wv t.ways ∧ TOk t ∧
  ∀ (H' : Hp), (∀ q o, H q = some o → q ≠ p → H' q = some o) → TaskAt CT H' (.ref p) t → Q .non H'
def spKindNumber (CT : Addr) : Sp := fun vs H Q _ => ∃ (v : V) (t : TD) (i : Nat) (k : KD), vs = [v, .str k.1] ∧ TaskAt CT H v t ∧ (t.kinds.map (·.1)).Nodup ∧ t.kinds[i]? = some k ∧ ∀ (H' : Hp), Same H H' → Q (.int i) H'
def spCost (CT : Addr) : Sp := fun vs H Q _ => ∃ (v : V) (t : TD) (i : Nat) (k : KD), vs = [v, .str k.1] ∧ TaskAt CT H v t ∧ (t.kinds.map (·.1)).Nodup ∧ t.kinds[i]? = some k ∧ ∀ (H' : Hp), Same H H' → Q (.int k.2.1) H'
/-- a target and a distance -/
def PT2 (H : Hp) (v : V) (x : Str × Int) : Prop := ∃ a, v = .ref a ∧ H a = some (.tup [.str x.1, .int x.2])
theorem PT2.keep {H H' : Hp} {v : V} {k : Str × Int} (s : Keep H H') (h : PT2 H v k) : PT2 H' v k := let ⟨a, e, q⟩ := h; ⟨a, e, s a _ q tup_ne⟩
def leaving (ws : List WD) (n : Str) : List (Str × Int) := (ws.filter fun x => decide (x.1 = n)).map fun x => (x.2.1, x.2.2)
def spWaysFrom (CT : Addr) : Sp := fun vs H Q _ => ∃ (v : V) (t : TD) (i : Nat) (k : KD), vs = [v, .str k.1] ∧ TaskAt CT H v t ∧ (t.kinds.map (·.1)).Nodup ∧ t.kinds[i]? = some k ∧ t.ways.length ≤ 16 ∧
  ∀ (H' : Hp) (p : Addr) (xs : List V), Same H H' → H p = none → H' p = some (.lst xs) → Al (PT2 H') xs (leaving t.ways k.1) → Q (.ref p) H'
def spSystemInit (CS CT : Addr) : Sp := fun vs H Q _ => ∃ (p dx a b : Addr) (tv : List V) (ts : List TD) (tb : List Int), vs = [.ref p, .ref a, .ref b] ∧ H p = some (.ins CS dx []) ∧ H a = some (.lst tv) ∧ Al (TaskAt CT H) tv ts ∧ H b = some (.lst (tb.map V.int)) ∧ SOk ts tb ∧
  ∀ (H' : Hp), (∀ q o, H q = some o → q ≠ p → H' q = some o) → SysAt CS CT H' (.ref p) ts tb → Q .non H'
def spTaskNumber (CS CT : Addr) : Sp := fun vs H Q _ => ∃ (v : V) (ts : List TD) (tb : List Int) (i : Nat) (t : TD), vs = [v, .str t.name] ∧ SysAt CS CT H v ts tb ∧ (ts.map (·.name)).Nodup ∧ ts[i]? = some t ∧ ∀ (H' : Hp), Same H H' → Q (.int i) H'
def spFormatTask (CT : Addr) : Sp := fun vs H Q _ => ∃ (v : V) (t : TD), vs = [v] ∧ TaskAt CT H v t ∧ TOk t ∧ ∀ (H' : Hp) (p : Addr), Same H H' → H p = none → H' p = some (.lst ((taskW t).map lineV)) → Q (.ref p) H'
def spFormatSystem (CS CT : Addr) : Sp := fun vs H Q _ => ∃ (v : V) (ts : List TD) (tb : List Int), vs = [v] ∧ SysAt CS CT H v ts tb ∧ SOk ts tb ∧ ∀ (H' : Hp), Same H H' → Q (.str (textOf (sysW ts tb))) H'
def spParseNumber : Sp := fun vs H Q _ => ∃ n l lo hi : Int, vs = [.str (num n), .int l, .int lo, .int hi] ∧ CapOk n ∧ lo ≤ n ∧ n ≤ hi ∧ ∀ (H' : Hp), Same H H' → Q (.int n) H'
def spParseWords : Sp := fun vs H Q _ => ∃ (kw : Str) (ws : List Str) (l : Int), vs = [.str (lineOf (kw :: ws)), .int l, .str kw, .int ws.length] ∧ LineOk (kw :: ws) ∧ ∀ (H' : Hp) (p : Addr), Same H H' → H p = none → H' p = some (.lst (ws.map V.str)) → Q (.ref p) H'
def spParseTable : Sp := fun vs H Q _ => ∃ tb : List Int, vs = [.str (lineOf (tableW tb))] ∧ 1 ≤ tb.length ∧ tb.length ≤ 1001 ∧ (∀ c ∈ tb, CapOk c) ∧ ∀ (H' : Hp) (p : Addr), Same H H' → H p = none → H' p = some (.lst (tb.map V.int)) → Q (.ref p) H'
def spParseKind : Sp := fun vs H Q _ => ∃ (k : KD) (l : Int) (a : Addr) (kv : List V) (ks : List KD), vs = [.str (lineOf (kindW k)), .int l, .ref a] ∧ H a = some (.lst kv) ∧ Al (KT H) kv ks ∧ KOk k ∧ k.1 ∉ ks.map (·.1) ∧ ks.length < 8 ∧ ∀ (H' : Hp) (v : V), Same H H' → KT H' v k → Q v H'
def spParseWay : Sp := fun vs H Q _ => ∃ (x : WD) (l : Int) (a b : Addr) (kv wv : List V) (ks : List KD), vs = [.str (lineOf (wayW x)), .int l, .ref a, .ref b] ∧ H a = some (.lst kv) ∧ Al (KT H) kv ks ∧ ks.length ≤ 8 ∧ H b = some (.lst wv) ∧ wv.length < 16 ∧ LineOk (wayW x) ∧ WOk ks x ∧
  ∀ (H' : Hp) (v : V), Same H H' → WT H' v x → Q v H'
def startsB (ls : List (List Str)) (n : Nat) (kw : Str) : Bool := match ls[n]? with
  | some ws => decide (ws.head? = some kw)
  | none => false
def spStarts : Sp := fun vs H Q _ => ∃ (a : Addr) (n : Nat) (kw : Str) (ls : List (List Str)), vs = [.ref a, .int n, .str kw] ∧ H a = some (.lst (ls.map lineV)) ∧ (∀ ws ∈ ls, LineOk ws) ∧ ∀ (H' : Hp), Same H H' → Q (.bl (startsB ls n kw)) H'
def spParseTask (CT : Addr) : Sp := fun vs H Q _ => ∃ (a b : Addr) (n : Nat) (ls post : List (List Str)) (tv : List V) (ts : List TD) (t : TD), vs = [.ref a, .int n, .ref b] ∧ H a = some (.lst (ls.map lineV)) ∧ (∀ ws ∈ ls, LineOk ws) ∧ H b = some (.lst tv) ∧ Al (TaskAt CT H) tv ts ∧
  TOk t ∧ t.name ∉ ts.map (·.name) ∧ ts.length < 6 ∧ ls.drop n = taskW t ++ post ∧ (∀ ws, post.head? = some ws → ws.head? ≠ some kwKind ∧ ws.head? ≠ some kwWay) ∧
  ∀ (H' : Hp) (v : V) (q : Addr), Same H H' → TaskAt CT H' v t → H' q = some (.tup [v, .int ((n + (taskW t).length : Nat) : Int)]) → Q (.ref q) H'
def spParseSystem (CS CT : Addr) : Sp := fun vs H Q _ => ∃ (ts : List TD) (tb : List Int), vs = [.str (textOf (sysW ts tb))] ∧ SOk ts tb ∧ ∀ (H' : Hp) (v : V), Same H H' → SysAt CS CT H' v ts tb → Q v H'
/-! ### of the law's own defs -/
structure Nums (ns : List Int) : Prop where
  len : ns.length = 190
  lo : ∀ n ∈ ns, 0 ≤ n
  hi : ∀ n ∈ ns, n < 1009
def NumsAt (H : Hp) (a : Addr) (ns : List Int) : Prop := H a = some (.lst (ns.map V.int)) ∧ Nums ns
theorem NumsAt.same {H H' : Hp} {a : Addr} {ns : List Int} (s : Same H H') (h : NumsAt H a ns) : NumsAt H' a ns := ⟨s _ _ h.1, h.2⟩
/-- a drawn task: its lists are lists -/
def DrawAt (H : Hp) (v : V) (t : TD) : Prop := ∃ (q a b : Addr) (kv wv : List V), v = .ref q ∧ H q = some (.tup [.str t.name, .ref a, .ref b]) ∧ H a = some (.lst kv) ∧ H b = some (.lst wv) ∧ Al (KT H) kv t.kinds ∧ Al (WT H) wv t.ways
/-- .. its lists are new behind H0 -/
def DrawnAt (H0 H : Hp) (v : V) (t : TD) : Prop := ∃ (q a b : Addr) (kv wv : List V), v = .ref q ∧ H q = some (.tup [.str t.name, .ref a, .ref b]) ∧ H a = some (.lst kv) ∧ H b = some (.lst wv) ∧ Al (KT H) kv t.kinds ∧ Al (WT H) wv t.ways ∧ H0 a = none ∧ H0 b = none
theorem DrawAt.same {H H' : Hp} {v : V} {t : TD} (s : Same H H') (h : DrawAt H v t) : DrawAt H' v t :=
  let ⟨q, a, b, kv, wv, e, h1, h2, h3, h4, h5⟩ := h
  ⟨q, a, b, kv, wv, e, s _ _ h1, s _ _ h2, s _ _ h3, kts_keep s.keep h4, wts_keep s.keep h5⟩
theorem DrawnAt.draw {H0 H : Hp} {v : V} {t : TD} (h : DrawnAt H0 H v t) : DrawAt H v t :=
  let ⟨q, a, b, kv, wv, e, h1, h2, h3, h4, h5, _⟩ := h
  ⟨q, a, b, kv, wv, e, h1, h2, h3, h4, h5⟩
theorem draws_same {H H' : Hp} {vs : List V} {ts : List TD} (s : Same H H') (h : Al (DrawAt H) vs ts) : Al (DrawAt H') vs ts := h.mono fun _ _ => DrawAt.same s
def spLawRow : Sp := fun vs H Q _ => ∃ (c : Int) (m : Nat), vs = [.int c, .int m] ∧ m ≤ 1000 ∧ ∀ (H' : Hp) (p : Addr) (ns : List Int), Same H H' → H p = none → H' p = some (.lst (ns.map V.int)) → ns.length = m → (∀ n ∈ ns, 0 ≤ n ∧ n < 1009) → Q (.ref p) H'
def spLawNumbers (K : PySem.W.Frag) : Sp := fun vs H Q _ => ∃ (a : Addr) (xs : List Int), vs = [.ref a, .int 190] ∧ SqL K H a (xs.map V.int) ∧ xs.length ≤ 63 ∧ ∀ (H' : Hp) (p : Addr) (ns : List Int), Same H H' → H p = none → NumsAt H' p ns → Q (.ref p) H'
def spLawNames : Sp := fun vs H Q _ => ∃ (a : Addr) (ns : List Int) (at' m : Nat), vs = [.ref a, .int at', .int m] ∧ NumsAt H a ns ∧ at' + 5 ≤ 190 ∧ m ≤ 36 ∧
  ∀ (H' : Hp) (p : Addr) (nm : List Str), Same H H' → H p = none → H' p = some (.lst (nm.map V.str)) → nm.length = m → nm.Nodup → (∀ z ∈ nm, NameOk z) → Q (.ref p) H'
def spLawSize : Sp := fun vs H Q _ => ∃ n m : Int, vs = [.int n, .int m] ∧ 1 ≤ m ∧ ∀ r : Int, 1 ≤ r → r ≤ m → Q (.int r) H
def spLawKinds : Sp := fun vs H Q _ => ∃ (a b : Addr) (ns : List Int) (at' : Nat) (nm : List Str), vs = [.ref a, .int at', .ref b] ∧ NumsAt H a ns ∧ H b = some (.lst (nm.map V.str)) ∧ (∀ z ∈ nm, NameOk z) ∧ nm.length ≤ 8 ∧ at' + 2 * nm.length ≤ 190 ∧
  ∀ (H' : Hp) (p : Addr) (kv : List V) (ks : List KD), Same H H' → H p = none → H' p = some (.lst kv) → Al (KT H') kv ks → ks.map (·.1) = nm → (∀ k ∈ ks, KOk k) → Q (.ref p) H'
def spLawWays : Sp := fun vs H Q _ => ∃ (a b : Addr) (ns : List Int) (at' m : Nat) (ks : List KD), vs = [.ref a, .int at', .ref b, .int m] ∧ NumsAt H a ns ∧ H b = some (.lst ((ks.map (·.1)).map V.str)) ∧ 1 ≤ ks.length ∧ ks.length ≤ 8 ∧ m ≤ 16 ∧ at' + 3 * m ≤ 190 ∧
  ∀ (H' : Hp) (p : Addr) (wv : List V) (ws : List WD), Same H H' → H p = none → H' p = some (.lst wv) → Al (WT H') wv ws → ws.length = m → (∀ x ∈ ws, WOk ks x) → Q (.ref p) H'
def spLawTask (more : Nat) : Sp := fun vs H Q _ => ∃ (a : Addr) (ns : List Int) (at' : Nat) (n : Str), vs = [.ref a, .int at', .str n] ∧ NumsAt H a ns ∧ at' + more ≤ 190 ∧ NameOk n ∧ ∀ (H' : Hp) (v : V) (t : TD), Same H H' → t.name = n → TOk t → DrawnAt H H' v t → Q v H'
def spLawMade (CT : Addr) : Sp := fun vs H Q _ => ∃ (v : V) (t : TD), vs = [v] ∧ DrawAt H v t ∧ TOk t ∧ ∀ (H' : Hp) (r : V), Same H H' → TaskAt CT H' r t → Q r H'
def spLawSameTask (CT : Addr) : Sp := fun vs H Q _ => ∃ (x v : V) (t : TD), vs = [x, v] ∧ TaskAt CT H x t ∧ DrawAt H v t ∧ TOk t ∧ ∀ (H' : Hp), Same H H' → Q (.bl true) H'
def spLawTable : Sp := fun vs H Q _ => ∃ (a : Addr) (ns : List Int) (at' : Nat), vs = [.ref a, .int at'] ∧ NumsAt H a ns ∧ at' + 13 ≤ 190 ∧ ∀ (H' : Hp) (p : Addr) (tb : List Int), Same H H' → H p = none → H' p = some (.lst (tb.map V.int)) → 1 ≤ tb.length → tb.length ≤ 1001 → (∀ c ∈ tb, CapOk c) → Q (.ref p) H'
def spLawSameSystem (CS CT : Addr) : Sp := fun vs H Q _ => ∃ (x : V) (d b : Addr) (dv : List V) (ts : List TD) (tb : List Int), vs = [x, .ref d, .ref b] ∧ SysAt CS CT H x ts tb ∧ H d = some (.lst dv) ∧ Al (DrawAt H) dv ts ∧ H b = some (.lst (tb.map V.int)) ∧ SOk ts tb ∧ ∀ (H' : Hp), Same H H' → Q (.bl true) H'
def spLawLines : Sp := fun vs H Q _ => ∃ (d b : Addr) (dv : List V) (ts : List TD) (tb : List Int), vs = [.ref d, .ref b] ∧ H d = some (.lst dv) ∧ Al (DrawAt H) dv ts ∧ H b = some (.lst (tb.map V.int)) ∧ SOk ts tb ∧ ∀ (H' : Hp) (p : Addr), Same H H' → H p = none → H' p = some (.lst ((sysW ts tb).map lineV)) → Q (.ref p) H'
def spLaw (K : PySem.W.Frag) : Sp := fun vs H Q _ => ∃ (a : Addr) (xs : List Int), vs = [.ref a] ∧ SqL K H a (xs.map V.int) ∧ xs.length ≤ 63 ∧ ∀ H', Q (.bl true) H'
end Nv
/-! NvB: are_kinds, are_ways, is_table. -/
namespace Nv
open PySem PySem.Spec PyProof.Rows L2
section
variable {X : Cx} {pos : Pos} {e : Expr} {ta : TE} {f : Str}
theorem ix_tupK (K : PySem.W.Frag) (h : X.K = K := by rfl) : IxR X (rIxT K) := by
  subst h
  exact ix_tup
theorem ix_listK (K : PySem.W.Frag) (h : X.K = K := by rfl) : IxR X (rIxL K) := by
  subst h
  exact ix_list
theorem pe_fldK (K : PySem.W.Frag) (he : PE X e ta) (hb : attributeBase e f X.env (eval e X.env) = eval e X.env) (h : X.K = K := by rfl) : PE X (.Attribute e f pos) (tFld K ta f) := by
  subst h
  exact pe_fld he hb
end
theorem inV_str (n : Str) (l : List Str) : inV (.str n) (l.map V.str) = decide (n ∈ l) := by
  unfold inV
  rw [List.any_map]
  by_cases h : n ∈ l
  · rw [decide_eq_true h, List.any_eq_true]
    exact ⟨n, h, by show (n == n) = true; exact beq_self_eq_true n⟩
  · rw [decide_eq_false h, List.any_eq_false]
    intro x hx e
    have e' : (x == n) = true := e
    have e2 : x = n := by simpa using e'
    exact h (e2 ▸ hx)
theorem flat_strs (l : List Str) : (l.map V.str).all flatV = true := by
  rw [List.all_map, List.all_eq_true]
  intro x _
  rfl
theorem take_map_succ {α β : Type} (f : α → β) {l : List α} {i : Nat} {x : α} (h : l[i]? = some x) : (l.take (i + 1)).map f = (l.take i).map f ++ [f x] := by
  rw [List.take_add_one, h, List.map_append] <;> rfl
theorem nd_notMem {α : Type} {l : List α} (h : l.Nodup) {i : Nat} {x : α} (hx : l[i]? = some x) : x ∉ l.take i := fun hm => by
  obtain ⟨j, hj, e⟩ := List.mem_iff_getElem.mp hm
  rw [List.length_take] at hj
  rw [List.getElem_take] at e
  have hj2 : j < l.length := by omega
  have q : l[j]? = some x := by rw [List.getElem?_eq_getElem hj2, e]
  have := nd_ix h q hx
  omega
theorem len_lt {α : Type} {l : List α} {i : Nat} {x : α} (h : l[i]? = some x) : i < l.length := (List.getElem?_eq_some_iff.mp h).1
section
variable {P : Program} {w : World} {K : PySem.W.Frag} {mg : Str → Option Value} {base : Heap} {CT CS : Addr}
theorem ok_areKinds {f : Addr} {fd : FuncData} (F : Fun K "are_kinds" "are_kinds" sAreKinds f fd) (T : Tx K mg CT CS) (D_is_name : Def P w K mg base 1 "is_name" pIsName spIsName) : FnOk P w K mg base CX0 2 f fd pAreKinds spAreKinds := by
  refine F.ok scAreKinds (fun vs H Q E h => ?_) (fun cdv A outer s H vs Q E hr h => ?_)
  · obtain ⟨a, kv, ks, rfl, _⟩ := h
    rfl
  · obtain ⟨a, kv, ks, rfl, hA, al, l1, l8, nd, ok, q⟩ := h
    refine ⟨_, (pss_cons (ps_if (pt_not (pt_chain op_le op_le pe_int (pe_callB call_len_seq (by rfl) T.len PySem.boot_len (pa_cons (pv 0) pa_nil)) (pe_gi T.cKinds)))
        pss_never
        pss_nil)
      (pss_cons (ps_set (i := 1) scAreKinds.nd rfl (Or.inl rfl) (pe_lst pa_nil))
      (pss_cons (ps_for PassesOwn.never rfl (pi_list (pv 0)) (pg_tup rfl (pgs_cons (pg_name (i := 2) scAreKinds.nd rfl (Or.inl rfl)) (pgs_cons (pg_name (i := 3) scAreKinds.nd rfl (Or.inl rfl)) (pgs_cons (pg_name (i := 4) scAreKinds.nd rfl (Or.inl rfl)) pgs_nil))))
        (pss_cons (ps_if (PW.pt (pw_or (pt_not (pt_val (pe_def D_is_name (hr.mono (by decide)) (pa_cons (pv 2) pa_nil)))) (pw_or1 (pt_cmpR op_in_seq (pv 2) (pv 1) rfl))))
          pss_never
          pss_nil)
        (pss_cons (ps_if (PW.pt (pw_or (pt_not (pt_chain op_le op_le pe_int (pv 3) (pe_gi T.cCost))) (pw_or1 (pt_not (pt_chain op_le op_le pe_int (pv 4) (pe_gi T.cDead))))))
          pss_never
          pss_nil)
        (pss_one (ps_expr (pe_bm PySem.F.plainAttrs_list PySem.F.slot_list_append PySem.F.type_list_append mt_append (pv 1) (pa_cons (pv 2) pa_nil)))))))
      (pss_one (ps_ret pe_bl))))), ?_⟩
    have el : kv.length = ks.length := al.1
    refine ⟨.ref a, rfl, a, kv, rfl, .inl (SqL.of hA), 1, _, rfl, rfl, _, rfl, dT (by omega) ⟨_, 8, rfl, rfl, _, rfl, iteNS (by omega) ?_⟩⟩
    refine ⟨Nat.zero_le _, fun l hl => ?_⟩
    have s1 : Same H (upd H l (.lst [])) := same_new hl
    refine ⟨_, rfl, a, rfl, ⟨_, SqL.of (s1 _ _ hA)⟩, for_list (K := K) (a := a) (xs := kv) (fun i σ H1 => ∃ o2 o3 o4, σ = [some (.ref a), some (.ref l), o2, o3, o4] ∧ Same H H1 ∧ H1 l = some (.lst (((ks.take i).map (·.1)).map V.str)))
      ⟨none, none, none, rfl, s1, upd_same⟩ (fun i σ H1 _ ⟨_, _, _, _, s2, _⟩ => SqL.of (s2 _ _ hA)) ?_ ?_⟩
    · rintro i x σ H1 hi ⟨o2, o3, o4, rfl, s2, e2⟩
      obtain ⟨k, hk, ⟨t, rfl, ht⟩⟩ := al.get hi
      have ko := ok k (List.mem_of_getElem? hk)
      have hil := len_lt hk
      refine ⟨t, _, rfl, SqT.of (s2 _ _ ht), rfl, _, _, rfl, _, _, rfl, _, _, rfl, rfl, ?_⟩
      -- not is_name(name) or name in seen
      refine ⟨_, rfl, k.1, rfl, ko.nm, fun H2 s3 => ⟨true, rfl, ?_⟩⟩
      have e3 := s3 _ _ e2
      refine ⟨_, rfl, _, rfl, l, _, rfl, .inl (SqL.of e3), rfl, flat_strs _, _, rfl, ?_⟩
      refine bF ?_ ?_
      · rw [if_neg Bool.false_ne_true, inV_str]
        refine decide_eq_false fun hm => ?_
        rw [List.map_take] at hm
        exact nd_notMem nd (by rw [List.getElem?_map, hk]; rfl) hm
      -- the bounds
      refine ⟨_, rfl, 1, _, rfl, rfl, _, rfl, dT ko.c1 ⟨_, 1000, rfl, rfl, _, rfl, iteNS ko.c2 ?_⟩⟩
      refine ⟨_, rfl, 1, _, rfl, rfl, _, rfl, dT ko.d1 ⟨_, 1000, rfl, rfl, _, rfl, iteNS ko.d2 ?_⟩⟩
      refine ⟨_, rfl, .inl ⟨rfl, _, SqL.of e3⟩, _, rfl, l, _, _, rfl, rfl, e3, ?_, _, _, _, rfl, (s2.trans s3).put hl, ?_⟩
      · rw [List.length_map, List.length_map, List.length_take]
        exact small1000 (by omega)
      · rw [upd_same, take_map_succ _ hk, List.map_append] <;> rfl
    · rintro σ H1 ⟨o2, o3, o4, rfl, s2, e2⟩
      exact q H1 s2
theorem ok_areWays {f : Addr} {fd : FuncData} (F : Fun K "are_ways" "are_ways" sAreWays f fd) (T : Tx K mg CT CS) : FnOk P w K mg base CX0 1 f fd pAreWays spAreWays := by
  refine F.ok scAreWays (fun vs H Q E h => ?_) (fun cdv A outer s H vs Q E hr h => ?_)
  · obtain ⟨a, b, wv, ws, ks, rfl, _⟩ := h
    rfl
  · obtain ⟨a, b, wv, ws, ks, rfl, hA, al, hB, l16, ok, q⟩ := h
    refine ⟨_, (pss_cons (ps_if (pt_cmpR op_gt (pe_callB call_len_seq (by rfl) T.len PySem.boot_len (pa_cons (pv 0) pa_nil)) (pe_gi T.cWays) (nomark _))
        pss_never
        pss_nil)
      (pss_cons (ps_for PassesOwn.never rfl (pi_list (pv 0)) (pg_tup rfl (pgs_cons (pg_name (i := 2) scAreWays.nd rfl (Or.inl rfl)) (pgs_cons (pg_name (i := 3) scAreWays.nd rfl (Or.inl rfl)) (pgs_cons (pg_name (i := 4) scAreWays.nd rfl (Or.inl rfl)) pgs_nil))))
        (pss_cons (ps_if (PW.pt (pw_or (pt_cmpR op_notIn_seq (pv 2) (pv 1) rfl) (pw_or1 (pt_cmpR op_notIn_seq (pv 3) (pv 1) rfl))))
          pss_never
          pss_nil)
        (pss_one (ps_if (pt_not (pt_chain op_le op_le pe_int (pv 4) (pe_gi T.cDist)))
          pss_never
          pss_nil))))
      (pss_one (ps_ret pe_bl)))), ?_⟩
    have el : wv.length = ws.length := al.1
    refine ⟨.ref a, rfl, a, wv, rfl, .inl (SqL.of hA), _, 16, rfl, rfl, _, rfl, dF (by omega) ?_⟩
    refine ⟨_, rfl, a, rfl, ⟨_, SqL.of hA⟩, for_list (K := K) (a := a) (xs := wv) (fun i σ H1 => ∃ o2 o3 o4, σ = [some (.ref a), some (.ref b), o2, o3, o4] ∧ Same H H1)
      ⟨none, none, none, rfl, Same.refl H⟩ (fun i σ H1 _ ⟨_, _, _, _, s2⟩ => SqL.of (s2 _ _ hA)) ?_ ?_⟩
    · rintro i x σ H1 hi ⟨o2, o3, o4, rfl, s2⟩
      obtain ⟨k, hk, ⟨t, rfl, ht⟩⟩ := al.get hi
      have ko := ok k (List.mem_of_getElem? hk)
      have e3 := s2 _ _ hB
      refine ⟨t, _, rfl, SqT.of (s2 _ _ ht), rfl, _, _, rfl, _, _, rfl, _, _, rfl, rfl, ?_⟩
      refine ⟨_, rfl, _, rfl, b, _, rfl, .inl (SqL.of e3), rfl, flat_strs _, _, rfl, ?_⟩
      refine bF ?_ ?_
      · rw [if_pos rfl, inV_str, decide_eq_true ko.s] <;> rfl
      refine ⟨_, rfl, _, rfl, b, _, rfl, .inl (SqL.of e3), rfl, flat_strs _, _, rfl, ?_⟩
      refine bF ?_ ?_
      · rw [if_pos rfl, inV_str, decide_eq_true ko.t] <;> rfl
      exact ⟨_, rfl, 1, _, rfl, rfl, _, rfl, dT ko.d1 ⟨_, 1000, rfl, rfl, _, rfl, iteNS ko.d2 ⟨_, _, _, rfl, s2⟩⟩⟩
    · rintro σ H1 ⟨o2, o3, o4, rfl, s2⟩
      exact q H1 s2
theorem ok_isTable {f : Addr} {fd : FuncData} (F : Fun K "is_table" "is_table" sIsTable f fd) (T : Tx K mg CT CS) : FnOk P w K mg base CX0 1 f fd pIsTable spIsTable := by
  refine F.ok scIsTable (fun vs H Q E h => ?_) (fun cdv A outer s H vs Q E hr h => ?_)
  · obtain ⟨a, tb, rfl, _⟩ := h
    rfl
  · obtain ⟨a, tb, rfl, hA, l1, l2, ok, q⟩ := h
    refine ⟨_, (pss_cons (ps_if (pt_not (pt_chain op_le op_le pe_int (pe_callB call_len_seq (by rfl) T.len PySem.boot_len (pa_cons (pv 0) pa_nil)) (pe_gi T.cSlots)))
        pss_never
        pss_nil)
      (pss_one (ps_ret (pe_callB (cr_all rfl) (by rfl) T.all (by decide +kernel) (pa_cons (pe_lc (own := [("capacity", 1)]) (g := gName 1) (tt := tYes) rfl scIsTable.nd (pi_list (pv 0)) (blkOk_by (own := [("capacity", 1)]) (N := nIsTable) (sc := defScope sIsTable) (by decide +kernel)) (fun _ _ _ _ _ => pg_name (i := 1) scIsTable.nd rfl (Or.inl rfl)) (fun _ _ _ _ _ => pts_nil) (fun _ _ _ _ _ => (pe_chain op_le op_le pe_int (pv 1) (pe_gi T.cCap)))) pa_nil))))), ?_⟩
    have el : (tb.map V.int).length = tb.length := List.length_map ..
    refine ⟨.ref a, rfl, a, tb.map V.int, rfl, .inl (SqL.of hA), 1, _, rfl, rfl, _, rfl, dT (by rw [el]; omega) ⟨_, 1001, rfl, rfl, _, rfl, iteNS (by rw [el]; omega) ?_⟩⟩
    refine ⟨_, rfl, a, rfl, ⟨_, SqL.of hA⟩, fun D hD => lc_list (K := K) (a := a) (xs := tb.map V.int) (fun i H' => Same H H' ∧ H' D = some (.lst ((List.replicate i true).map V.bl))) ⟨same_new hD, upd_same⟩ (fun i H' _ ⟨s2, _⟩ => SqL.of (s2 _ _ hA)) ?_ ?_⟩
    · rintro i x H1 hi ⟨s1, e1⟩
      rw [List.getElem?_map] at hi
      obtain ⟨c, hc, rfl⟩ := Option.map_eq_some_iff.mp hi
      have co := ok c (List.mem_of_getElem? hc)
      have hil := len_lt hc
      refine ⟨rfl, _, rfl, 0, c, rfl, rfl, _, rfl, dT co.1 ⟨c, 1000000, rfl, rfl, _, e1, ?_, s1.put hD, ?_⟩⟩
      · rw [List.length_map, List.length_replicate]
        exact Nat.lt_of_lt_of_le hil (Nat.le_trans l2 (by decide))
      · rw [upd_same]
        dsimp only
        rw [decide_eq_true co.2, List.replicate_succ', List.map_append] <;> rfl
    · rintro H1 ⟨s1, e1⟩
      refine ⟨D, _, rfl, SqL.of e1, ?_⟩
      rw [show (List.replicate (tb.map V.int).length true).all id = true by simp]
      exact q H1 s1
end
end Nv
/-! NvC: Task.__init__, its kind_number, cost, ways_from. -/
namespace Nv
open PySem PySem.Spec PyProof.Rows L2
theorem small16 {n : Nat} (h : n ≤ 16) : n < sizeLine := small1000 (by omega)
/-- all but p is as it was -/
def Off (p : Addr) (H H' : Hp) : Prop := ∀ q o, H q = some o → q ≠ p → H' q = some o
section
variable {p l : Addr} {H H1 H2 : Hp} {o : HO}
theorem off_same (s : Same H H1) : Off p H H1 := fun q o e _ => s q o e
theorem Off.then (a : Off p H H1) (s : Same H1 H2) : Off p H H2 := fun q o e n => s q o (a q o e n)
theorem Off.at (a : Off p H H1) : Off p H (upd H1 p o) := fun q u e n => by
  rw [upd_ne n]
  exact a q u e n
theorem Off.put (a : Off p H H1) (h : H l = none) : Off p H (upd H1 l o) := fun q u e n => by
  rw [upd_ne (ne_of_none e h)]
  exact a q u e n
theorem Off.add (a : Off p H H1) (h : H1 l = none) : Off p H (upd H1 l o) := a.then (same_new h)
theorem Off.free (a : Off p H H1) (hp : H1 p = some o) (h : H1 l = none) : H l = none := by
  cases e : H l with
  | none => rfl
  | some u =>
    have n : l ≠ p := fun z => by
      rw [z, hp] at h
      cases h
    rw [a l u e n] at h
    cases h
theorem Off.keep {xs : List V} (a : Off p H H1) {C dx : Addr} {fs : List (Str × V)} (hp : H p = some (.ins C dx fs)) {q : Addr} (h : H q = some (.tup xs)) : H1 q = some (.tup xs) := a q _ h (ne_of h hp (by intro z; cases z))
theorem Off.kt {C dx : Addr} {fs : List (Str × V)} (a : Off p H H1) (hp : H p = some (.ins C dx fs)) {v : V} {k : KD} (h : KT H v k) : KT H1 v k := let ⟨u, e, q⟩ := h; ⟨u, e, a.keep hp q⟩
theorem Off.wt {C dx : Addr} {fs : List (Str × V)} (a : Off p H H1) (hp : H p = some (.ins C dx fs)) {v : V} {k : WD} (h : WT H v k) : WT H1 v k := let ⟨u, e, q⟩ := h; ⟨u, e, a.keep hp q⟩
end
theorem nil_lookup (f : Str) : ([] : List (Str × V)).lookup f = none := rfl
section
variable {P : Program} {w : World} {K : PySem.W.Frag} {mg : Str → Option Value} {base : Heap} {CT CS : Addr}
theorem ok_taskInit {f : Addr} {fd : FuncData} (F : Fun K "__init__" "Task.__init__" sTaskInit f fd) (T : Tx K mg CT CS) (D_is_name : Def P w K mg base 1 "is_name" pIsName spIsName)
    (D_are_kinds : Def P w K mg base 2 "are_kinds" pAreKinds spAreKinds) (D_are_ways : Def P w K mg base 1 "are_ways" pAreWays spAreWays) : FnOk P w K mg base CX0 3 f fd pTaskInit (spTaskInit CT) := by
  refine F.ok scTaskInit (fun vs H Q E h => ?_) (fun cdv A outer s H vs Q E hr h => ?_)
  · obtain ⟨p, dx, a, b, kv, wv, t, rfl, _⟩ := h
    rfl
  · obtain ⟨p, dx, a, b, kv, wv, t, rfl, hp, hA, hB, alk, alw, ok, q⟩ := h
    refine ⟨_, (pss_cons (ps_if (PW.pt (pw_or (pt_not (pt_val (pe_def D_is_name (hr.mono (by decide)) (pa_cons (pv 1) pa_nil)))) (pw_or1 (pt_not (pt_val (pe_def D_are_kinds (hr.mono (by decide)) (pa_cons (pv 2) pa_nil)))))))
        pss_never
        pss_nil)
      (pss_cons (ps_if (pt_not (pt_val (pe_def D_are_ways (hr.mono (by decide)) (pa_cons (pv 3) (pa_cons (pe_lc (own := [("kind", 4)]) (g := gName 4) (tt := tYes) rfl scTaskInit.nd (pi_list (pv 2)) (blkOk_by (own := [("kind", 4)]) (N := nTaskInit) (sc := defScope sTaskInit) (by decide +kernel)) (fun _ _ _ _ _ => pg_name (i := 4) scTaskInit.nd rfl (Or.inl rfl)) (fun _ _ _ _ _ => pts_nil) (fun _ _ _ _ _ => (pe_ix (ix_tupK K) (pv 4) pe_int (fun _ _ => rfl)))) pa_nil)))))
        pss_never
        pss_nil)
      (pss_cons (ps_fld (pv 0) (pv 1) rfl)
      (pss_cons (ps_fld (pv 0) (pe_callTy call_tuple_of (by rfl) T.tuple (by decide +kernel) (pa_cons (pe_lc (own := [("kind", 4)]) (g := gName 4) (tt := tYes) rfl scTaskInit.nd (pi_list (pv 2)) (blkOk_by (own := [("kind", 4)]) (N := nTaskInit) (sc := defScope sTaskInit) (by decide +kernel)) (fun _ _ _ _ _ => pg_name (i := 4) scTaskInit.nd rfl (Or.inl rfl)) (fun _ _ _ _ _ => pts_nil) (fun _ _ _ _ _ => (pe_tup (pa_cons (pe_ix (ix_tupK K) (pv 4) pe_int (fun _ _ => rfl)) (pa_cons (pe_ix (ix_tupK K) (pv 4) pe_int (fun _ _ => rfl)) (pa_cons (pe_ix (ix_tupK K) (pv 4) pe_int (fun _ _ => rfl)) pa_nil)))))) pa_nil)) rfl)
      (pss_one (ps_fld (pv 0) (pe_callTy call_tuple_of (by rfl) T.tuple (by decide +kernel) (pa_cons (pe_lc (own := [("way", 5)]) (g := gName 5) (tt := tYes) rfl scTaskInit.nd (pi_list (pv 3)) (blkOk_by (own := [("way", 5)]) (N := nTaskInit) (sc := defScope sTaskInit) (by decide +kernel)) (fun _ _ _ _ _ => pg_name (i := 5) scTaskInit.nd rfl (Or.inl rfl)) (fun _ _ _ _ _ => pts_nil) (fun _ _ _ _ _ => (pe_tup (pa_cons (pe_ix (ix_tupK K) (pv 5) pe_int (fun _ _ => rfl)) (pa_cons (pe_ix (ix_tupK K) (pv 5) pe_int (fun _ _ => rfl)) (pa_cons (pe_ix (ix_tupK K) (pv 5) pe_int (fun _ _ => rfl)) pa_nil)))))) pa_nil)) rfl)))))), ?_⟩
    have elk : kv.length = t.kinds.length := alk.1
    have elw : wv.length = t.ways.length := alw.1
    have k8 := ok.k8
    have w16 := ok.w16
    refine ⟨_, rfl, t.name, rfl, ok.nm, fun H1 s1 => ⟨true, rfl, ?_⟩⟩
    refine ⟨_, rfl, a, kv, t.kinds, rfl, s1 _ _ hA, kts_keep s1.keep alk, ok.k1, ok.k8, ok.kn, ok.ko, fun H2 s2 => ⟨true, rfl, ?_⟩⟩
    have s02 : Same H H2 := s1.trans s2
    -- are_ways(ways, [kind[0] for kind in kinds])
    refine ⟨_, rfl, .ref a, rfl, a, rfl, ⟨_, SqL.of (s02 _ _ hA)⟩, fun D hD => lc_list (K := K) (a := a) (xs := kv) (fun i H' => Same H2 H' ∧ H' D = some (.lst (((t.kinds.take i).map (·.1)).map V.str))) ⟨same_new hD, upd_same⟩ (fun i H' _ ⟨s3, _⟩ => SqL.of (s3 _ _ (s02 _ _ hA))) ?_ ?_⟩
    · rintro i x H3 hi ⟨s3, e3⟩
      obtain ⟨k, hk, ⟨u, rfl, hu⟩⟩ := alk.get hi
      have hil := len_lt hk
      refine ⟨rfl, _, rfl, u, _, 0, .str k.1, rfl, rfl, SqT.of (s3 _ _ (s02 _ _ hu)), atI_nat (j := 0) rfl, _, e3, ?_, s3.put hD, ?_⟩
      · rw [List.length_map, List.length_map, List.length_take]
        exact small16 (by omega)
      · rw [upd_same, take_map_succ _ hk, List.map_append] <;> rfl
    · rintro H3 ⟨s3, e3⟩
      rw [elk, List.take_length] at e3
      have s03 : Same H H3 := s02.trans s3
      refine ⟨b, D, wv, t.ways, t.kinds, rfl, s03 _ _ hB, wts_keep s03.keep alw, e3, w16, ok.wo, fun H4 s4 => ⟨true, rfl, ?_⟩⟩
      have s04 : Same H H4 := s03.trans s4
      have nap : a ≠ p := ne_of hA hp (by intro z; cases z)
      have nbp : b ≠ p := ne_of hB hp (by intro z; cases z)
      -- self.name = name
      refine ⟨_, rfl, _, rfl, p, CT, dx, [], rfl, s04 _ _ hp, T.ct, T.na, (by show 0 < 1000; decide), ?_⟩
      have o5 : Off p H (upd H4 p (.ins CT dx (putF "name" (.str t.name) []))) := (off_same s04).at
      -- self.kinds = tuple([..])
      refine ⟨_, rfl, a, rfl, ⟨_, SqL.of (o5 _ _ hA nap)⟩, fun D2 hD2 => ?_⟩
      have hD2' : H D2 = none := o5.free upd_same hD2
      have np2 : p ≠ D2 := ne_of_none upd_same hD2
      refine lc_list (K := K) (a := a) (xs := kv) (fun i H' => Off p H H' ∧ H' p = some (.ins CT dx (putF "name" (.str t.name) [])) ∧ ∃ acc, H' D2 = some (.lst acc) ∧ Al (KT H') acc (t.kinds.take i))
        ⟨o5.put hD2', by rw [upd_ne np2]; exact upd_same, [], upd_same, Al.nil⟩ (fun i H' _ ⟨o6, _⟩ => SqL.of (o6 _ _ hA nap)) ?_ ?_
      · rintro i x H6 hi ⟨o6, p6, acc, e6, al6⟩
        obtain ⟨k, hk, ⟨u, rfl, hu⟩⟩ := alk.get hi
        have hil := len_lt hk
        have hu6 := o6.keep hp hu
        have la : acc.length = i := by
          rw [al6.1, List.length_take]
          omega
        refine ⟨rfl, _, rfl, u, _, 0, .str k.1, rfl, rfl, SqT.of hu6, atI_nat (j := 0) rfl, _, rfl, u, _, 1, .int k.2.1, rfl, rfl, SqT.of hu6, atI_nat (j := 1) rfl, _, rfl, u, _, 2, .int k.2.2, rfl, rfl, SqT.of hu6, atI_nat (j := 2) rfl, (by show 3 ≤ sizeLine; decide), fun q hq => ?_⟩
        have nq : D2 ≠ q := ne_of_none e6 hq
        have e7 : (upd H6 q (.tup [.str k.1, .int k.2.1, .int k.2.2])) D2 = some (.lst acc) := by rw [upd_ne nq]; exact e6
        refine ⟨acc, e7, small16 (by omega), (o6.add hq).put hD2', ?_, _, upd_same, ?_⟩
        · rw [upd_ne np2, upd_ne (ne_of_none p6 hq)]
          exact p6
        · refine Al.more (kts_keep ((keep_new hq).trans (keep_lst e7)) al6) hk ⟨q, rfl, ?_⟩
          rw [upd_ne nq.symm]
          exact upd_same
      · rintro H6 ⟨o6, p6, acc, e6, al6⟩
        rw [elk, List.take_length] at al6
        refine ⟨D2, acc, rfl, .inl ⟨SqL.of e6, fun ka hka => ?_⟩⟩
        have npk : p ≠ ka := ne_of_none p6 hka
        have o7 : Off p H (upd H6 ka (.tup acc)) := o6.add hka
        refine ⟨_, rfl, p, CT, dx, _, rfl, (by rw [upd_ne npk]; exact p6), T.ct, T.nk, (by show 1 < 1000; decide), ?_⟩
        -- self.ways = tuple([..])
        have o8 : Off p H (upd (upd H6 ka (.tup acc)) p (.ins CT dx (putF "kinds" (.ref ka) (putF "name" (.str t.name) [])))) := o7.at
        have k8' : Al (KT (upd (upd H6 ka (.tup acc)) p (.ins CT dx (putF "kinds" (.ref ka) (putF "name" (.str t.name) []))))) acc t.kinds := al6.mono fun v k ⟨u, e, q⟩ => ⟨u, e, by
          rw [upd_ne (ne_of q p6 (by intro z; cases z)), upd_ne (ne_of_none q hka)]
          exact q⟩
        have ka8 : (upd (upd H6 ka (.tup acc)) p (.ins CT dx (putF "kinds" (.ref ka) (putF "name" (.str t.name) [])))) ka = some (.tup acc) := by
          rw [upd_ne npk.symm]
          exact upd_same
        generalize hH8 : upd (upd H6 ka (.tup acc)) p (.ins CT dx (putF "kinds" (.ref ka) (putF "name" (.str t.name) []))) = H8 at o8 k8' ka8 ⊢
        have p8 : H8 p = some (.ins CT dx (putF "kinds" (.ref ka) (putF "name" (.str t.name) []))) := by rw [← hH8]; exact upd_same
        refine ⟨_, rfl, b, rfl, ⟨_, SqL.of (o8 _ _ hB nbp)⟩, fun D3 hD3 => ?_⟩
        have hD3' : H D3 = none := o8.free p8 hD3
        have np3 : p ≠ D3 := ne_of_none p8 hD3
        refine lc_list (K := K) (a := b) (xs := wv) (fun i H' => Off p H H' ∧ Keep H8 H' ∧ ∃ acc, H' D3 = some (.lst acc) ∧ Al (WT H') acc (t.ways.take i))
          ⟨o8.put hD3', keep_new hD3, [], upd_same, Al.nil⟩ (fun i H' _ ⟨o9, _⟩ => SqL.of (o9 _ _ hB nbp)) ?_ ?_
        · rintro i x H9 hi ⟨o9, p9, acc, e9, al9⟩
          obtain ⟨k, hk, ⟨u, rfl, hu⟩⟩ := alw.get hi
          have hil := len_lt hk
          have hu6 := o9.keep hp hu
          have la : acc.length = i := by
            rw [al9.1, List.length_take]
            omega
          refine ⟨rfl, _, rfl, u, _, 0, .str k.1, rfl, rfl, SqT.of hu6, atI_nat (j := 0) rfl, _, rfl, u, _, 1, .str k.2.1, rfl, rfl, SqT.of hu6, atI_nat (j := 1) rfl, _, rfl, u, _, 2, .int k.2.2, rfl, rfl, SqT.of hu6, atI_nat (j := 2) rfl, (by show 3 ≤ sizeLine; decide), fun q hq => ?_⟩
          have nq : D3 ≠ q := ne_of_none e9 hq
          have e7 : (upd H9 q (.tup [.str k.1, .str k.2.1, .int k.2.2])) D3 = some (.lst acc) := by rw [upd_ne nq]; exact e9
          refine ⟨acc, e7, small16 (by omega), (o9.add hq).put hD3', p9.trans ((keep_new hq).trans (keep_lst e7)), _, upd_same, ?_⟩
          refine Al.more (wts_keep ((keep_new hq).trans (keep_lst e7)) al9) hk ⟨q, rfl, ?_⟩
          rw [upd_ne nq.symm]
          exact upd_same
        · rintro H9 ⟨o9, p9, acc9, e9, al9⟩
          rw [elw, List.take_length] at al9
          refine ⟨D3, acc9, rfl, .inl ⟨SqL.of e9, fun wa hwa => ?_⟩⟩
          have pp := p9 _ _ p8 ins_ne
          have npw : p ≠ wa := ne_of_none pp hwa
          refine ⟨_, rfl, p, CT, dx, _, rfl, (by rw [upd_ne npw]; exact pp), T.ct, T.nw, (by show 2 < 1000; decide), ?_⟩
          have ka9 := p9 _ _ ka8 tup_ne
          refine q _ (o9.add hwa).at ⟨p, dx, ka, wa, acc, acc9, rfl, upd_same, ?_, ?_, ?_, ?_⟩
          · rw [upd_ne (ne_of ka9 pp (by intro z; cases z)), upd_ne (ne_of_none ka9 hwa)]
            exact ka9
          · rw [upd_ne npw.symm]
            exact upd_same
          · exact (kts_keep p9 k8').mono fun v k ⟨u, e, q⟩ => ⟨u, e, by
              rw [upd_ne (ne_of q pp (by intro z; cases z)), upd_ne (ne_of_none q hwa)]
              exact q⟩
          · exact al9.mono fun v k ⟨u, e, q⟩ => ⟨u, e, by
              rw [upd_ne (ne_of q pp (by intro z; cases z)), upd_ne (ne_of_none q hwa)]
              exact q⟩
end
end Nv
/-! NvD: kind_number, cost, ways_from; System.__init__, task_number. -/
namespace Nv
open PySem PySem.Spec PyProof.Rows L2
theorem str_inj {a b : Str} (h : V.str a = V.str b) : a = b := V.str.inj h
section
variable {P : Program} {w : World} {K : PySem.W.Frag} {mg : Str → Option Value} {base : Heap} {CT CS : Addr}
theorem ok_kindNumber {f : Addr} {fd : FuncData} (F : Fun K "kind_number" "Task.kind_number" sTaskKindNumber f fd) (T : Tx K mg CT CS) : FnOk P w K mg base CX0 1 f fd pTaskKindNumber (spKindNumber CT) := by
  refine F.ok scTaskKindNumber (fun vs H Q E h => ?_) (fun cdv A outer s H vs Q E hr h => ?_)
  · obtain ⟨v, t, i, k, rfl, _⟩ := h
    rfl
  · obtain ⟨v, t, i, k, rfl, ta, nd, hk, q⟩ := h
    obtain ⟨p, dx, ka, wa, ks, ws, rfl, hp, hka, hwa, alk, alw⟩ := id ta
    refine ⟨_, (pss_cons (ps_for PassesOwn.never rfl (pi_enumT (by rfl) T.enumerate (pa_cons (pe_fld (pv 0) rfl) pa_nil)) (pg_tup rfl (pgs_cons (pg_name (i := 2) scTaskKindNumber.nd rfl (Or.inl rfl)) (pgs_cons (pg_name (i := 3) scTaskKindNumber.nd rfl (Or.inl rfl)) pgs_nil)))
        (pss_one (ps_if (pt_cmpR op_eq (pe_ix ix_tup (pv 3) pe_int (fun _ _ => rfl)) (pv 1) (nomark _))
          (pss_one (ps_ret (pv 2)))
          pss_nil)))
      (pss_one ps_never)), ?_⟩
    have el : ks.length = t.kinds.length := alk.1
    have hil := len_lt hk
    refine ⟨_, rfl, p, CT, dx, _, _, rfl, hp, T.ct, T.nk, tf_kinds _ _ _, ka, ks, rfl, SqT.of hka, ?_⟩
    refine for_it walk_enumT (fun j σ H' => ∃ o2 o3, σ = [some (.ref p), some (.str k.1), o2, o3] ∧ Same H H' ∧ j ≤ i) ⟨none, none, rfl, Same.refl H, Nat.zero_le _⟩ (fun j σ H' _ ⟨_, _, _, s1, _⟩ => SqT.of (s1 _ _ hka)) ?_ ?_
    · rintro j x σ H1 H2 hj ⟨o2, o3, rfl, s1, hji⟩ ⟨u, x1, x2, rfl, hu, rfl, e1, e2⟩
      cases e1
      obtain ⟨kj, hkj, ⟨r, rfl, hr2⟩⟩ := alk.get e2
      have s2 : Same H (upd H1 u (.tup [.int (j : Nat), .ref r])) := s1.add hu
      refine ⟨u, _, rfl, SqT.of upd_same, rfl, _, _, rfl, _, _, rfl, rfl, ?_⟩
      refine ⟨_, rfl, r, _, 0, .str kj.1, rfl, rfl, SqT.of (s2 _ _ hr2), atI_nat (j := 0) rfl, _, rfl, rfl, _, rfl, ?_⟩
      by_cases e : j = i
      · subst e
        have ek : kj = k := Option.some.inj (hkj.symm.trans hk)
        subst ek
        refine dT rfl ?_
        exact ⟨_, rfl, q _ s2⟩
      · refine dF (fun z => e ?_) ⟨_, _, rfl, s2, by omega⟩
        exact nd_ix nd (show (t.kinds.map (·.1))[j]? = some k.1 by rw [List.getElem?_map, hkj, ← str_inj z]; rfl) (by rw [List.getElem?_map, hk]; rfl)
    · rintro σ H1 ⟨o2, o3, rfl, s1, hji⟩
      omega
theorem ok_cost {f : Addr} {fd : FuncData} (F : Fun K "cost" "Task.cost" sTaskCost f fd) (T : Tx K mg CT CS) (D : DefM P w K mg base 1 CT "kind_number" pTaskKindNumber (spKindNumber CT)) : FnOk P w K mg base CX0 2 f fd pTaskCost (spCost CT) := by
  obtain ⟨f_kn, fd_kn, G_kind_number, m_kind_number, b_kind_number⟩ := D.ex
  refine F.ok scTaskCost (fun vs H Q E h => ?_) (fun cdv A outer s H vs Q E hr h => ?_)
  · obtain ⟨v, t, i, k, rfl, _⟩ := h
    rfl
  · obtain ⟨v, t, i, k, rfl, ta, nd, hk, q⟩ := h
    obtain ⟨p, dx, ka, wa, ks, ws, rfl, hp, hka, hwa, alk, alw⟩ := id ta
    refine ⟨_, (pss_one (ps_ret (pe_ix ix_tup (pe_ix ix_tup (pe_fld (pv 0) rfl) (pe_meth (pv 0) T.ct m_kind_number G_kind_number (hr.mono (by decide)) b_kind_number .nil pass0 (pa_cons (pv 1) pa_nil)) (fun _ _ => rfl)) pe_int (fun _ _ => rfl)))), ?_⟩
    refine ⟨_, rfl, p, CT, dx, _, _, rfl, hp, T.ct, T.nk, tf_kinds _ _ _, _, rfl, p, dx, _, rfl, hp, tf_no _ _ _ (by decide +kernel) (by decide +kernel) (by decide +kernel), _, rfl, _, t, i, k, rfl, ta, nd, hk, fun H1 s1 => ?_⟩
    obtain ⟨y, hy, ⟨u, rfl, hu⟩⟩ := alk.get' hk
    refine ⟨ka, ks, _, _, rfl, rfl, SqT.of (s1 _ _ hka), atI_nat hy, u, _, 1, .int k.2.1, rfl, rfl, SqT.of (s1 _ _ hu), atI_nat (j := 1) rfl, q _ s1⟩
theorem leaving_step {ws : List WD} {i : Nat} {x : WD} (h : ws[i]? = some x) (n : Str) : leaving (ws.take (i + 1)) n = leaving (ws.take i) n ++ (if x.1 = n then [(x.2.1, x.2.2)] else []) := by
  unfold leaving
  rw [List.take_add_one, h, List.filter_append, List.map_append]
  by_cases e : x.1 = n
  · rw [if_pos e]
    have : (some x).toList.filter (fun x => decide (x.1 = n)) = [x] := by simp [e]
    rw [this] <;> rfl
  · rw [if_neg e]
    have : (some x).toList.filter (fun x => decide (x.1 = n)) = [] := by simp [e]
    rw [this] <;> rfl
theorem leaving_len (ws : List WD) (n : Str) : (leaving ws n).length ≤ ws.length := by
  unfold leaving
  rw [List.length_map]
  exact List.length_filter_le _ _
theorem ok_waysFrom {f : Addr} {fd : FuncData} (F : Fun K "ways_from" "Task.ways_from" sTaskWaysFrom f fd) (T : Tx K mg CT CS) (D : DefM P w K mg base 1 CT "kind_number" pTaskKindNumber (spKindNumber CT)) : FnOk P w K mg base CX0 2 f fd pTaskWaysFrom (spWaysFrom CT) := by
  obtain ⟨f_kn, fd_kn, G_kind_number, m_kind_number, b_kind_number⟩ := D.ex
  refine F.ok scTaskWaysFrom (fun vs H Q E h => ?_) (fun cdv A outer s H vs Q E hr h => ?_)
  · obtain ⟨v, t, i, k, rfl, _⟩ := h
    rfl
  · obtain ⟨v, t, i, k, rfl, ta, nd, hk, w16, q⟩ := h
    obtain ⟨p, dx, ka, wa, ks, ws, rfl, hp, hka, hwa, alk, alw⟩ := id ta
    refine ⟨_, (pss_cons (ps_expr (pe_meth (pv 0) T.ct m_kind_number G_kind_number (hr.mono (by decide)) b_kind_number .nil pass0 (pa_cons (pv 1) pa_nil)))
      (pss_one (ps_ret (pe_lc (own := [("way", 2)]) (g := gName 2) rfl scTaskWaysFrom.nd (pi_tup (pe_fld (pv 0) rfl)) (blkOk_by (own := [("way", 2)]) (N := nTaskWaysFrom) (sc := defScope sTaskWaysFrom) (by decide +kernel)) (fun _ _ _ _ _ => pg_name (i := 2) scTaskWaysFrom.nd rfl (Or.inl rfl)) (fun _ _ _ _ _ => (pts_one (pt_cmpR op_eq (pe_ix (ix_tupK K) (pv 2) pe_int (fun _ _ => rfl)) (pv 1) (nomark _)))) (fun _ _ _ _ _ => (pe_tup (pa_cons (pe_ix (ix_tupK K) (pv 2) pe_int (fun _ _ => rfl)) (pa_cons (pe_ix (ix_tupK K) (pv 2) pe_int (fun _ _ => rfl)) pa_nil)))))))), ?_⟩
    have el : ws.length = t.ways.length := alw.1
    refine ⟨_, rfl, p, dx, _, rfl, hp, tf_no _ _ _ (by decide +kernel) (by decide +kernel) (by decide +kernel), _, rfl, _, t, i, k, rfl, ta, nd, hk, fun H1 s1 => ?_⟩
    refine ⟨_, rfl, p, CT, dx, _, _, rfl, s1 _ _ hp, T.ct, T.nw, tf_ways _ _ _, wa, rfl, ⟨_, SqT.of (s1 _ _ hwa)⟩, fun D hD => ?_⟩
    refine lc_tup (K := K) (a := wa) (xs := ws) (fun j H' => Same H1 H' ∧ ∃ acc, H' D = some (.lst acc) ∧ Al (PT2 H') acc (leaving (t.ways.take j) k.1)) ⟨same_new hD, [], upd_same, Al.nil⟩ (fun j H' _ ⟨s2, _⟩ => SqT.of (s2 _ _ (s1 _ _ hwa))) ?_ ?_
    · rintro j x H2 hj ⟨s2, acc, e2, al2⟩
      obtain ⟨y, hy, ⟨u, rfl, hu⟩⟩ := alw.get hj
      have hjl := len_lt hy
      have hu2 := s2 _ _ (s1 _ _ hu)
      have la : acc.length ≤ 16 := by
        rw [al2.1]
        have := leaving_len (t.ways.take j) k.1
        rw [List.length_take] at this
        omega
      have st := leaving_step hy k.1
      refine ⟨rfl, _, rfl, u, _, 0, .str y.1, rfl, rfl, SqT.of hu2, atI_nat (j := 0) rfl, _, rfl, rfl, _, rfl, ?_⟩
      by_cases e : y.1 = k.1
      · refine dT (congrArg V.str e) ?_
        rw [if_pos e] at st
        refine ⟨_, rfl, u, _, 1, .str y.2.1, rfl, rfl, SqT.of hu2, atI_nat (j := 1) rfl, _, rfl, u, _, 2, .int y.2.2, rfl, rfl, SqT.of hu2, atI_nat (j := 2) rfl, (by show 2 ≤ sizeLine; decide), fun r hr2 => ?_⟩
        have nr : D ≠ r := ne_of_none e2 hr2
        have e3 : (upd H2 r (.tup [.str y.2.1, .int y.2.2])) D = some (.lst acc) := by rw [upd_ne nr]; exact e2
        refine ⟨acc, e3, small16 la, (s2.add hr2).put hD, _, upd_same, ?_⟩
        rw [st]
        refine (al2.mono fun v z => PT2.keep ((keep_new hr2).trans (keep_lst e3))).snoc ⟨r, rfl, ?_⟩
        rw [upd_ne nr.symm]
        exact upd_same
      · refine dF (fun z => e (str_inj z)) ⟨s2, acc, e2, ?_⟩
        rw [st, if_neg e, List.append_nil]
        exact al2
    · rintro H2 ⟨s2, acc, e2, al2⟩
      rw [el, List.take_length] at al2
      exact q H2 D acc (s1.trans s2) (s1.free hD) e2 al2
end
end Nv
/-! NvE: System.__init__, task_number; format_task, format_system. -/
namespace Nv
open PySem PySem.Spec PyProof.Rows L2
theorem Off.task {p CS dx C : Addr} {H H1 : Hp} {fs : List (Str × V)} (a : Off p H H1) (hp : H p = some (.ins CS dx fs)) (hc : CS ≠ C) {v : V} {t : TD} (h : TaskAt C H v t) : TaskAt C H1 v t :=
  let ⟨r, d, ka, wa, ks, ws, e, h1, h2, h3, h4, h5⟩ := h
  ⟨r, d, ka, wa, ks, ws, e, a _ _ h1 (ne_of h1 hp (by intro z; injection z with z1 _ _; exact hc z1.symm)), a.keep hp h2, a.keep hp h3, h4.mono fun _ _ => a.kt hp, h5.mono fun _ _ => a.wt hp⟩
section
variable {P : Program} {w : World} {K : PySem.W.Frag} {mg : Str → Option Value} {base : Heap} {CT CS : Addr}
theorem ok_systemInit {f : Addr} {fd : FuncData} (F : Fun K "__init__" "System.__init__" sSystemInit f fd) (T : Tx K mg CT CS) (hne : CS ≠ CT) (D_is_table : Def P w K mg base 1 "is_table" pIsTable spIsTable) : FnOk P w K mg base CX0 2 f fd pSystemInit (spSystemInit CS CT) := by
  refine F.ok scSystemInit (fun vs H Q E h => ?_) (fun cdv A outer s H vs Q E hr h => ?_)
  · obtain ⟨p, dx, a, b, tv, ts, tb, rfl, _⟩ := h
    rfl
  · obtain ⟨p, dx, a, b, tv, ts, tb, rfl, hp, hA, al, hB, ok, q⟩ := h
    refine ⟨_, (pss_cons (ps_if (pt_not (pt_val (pe_def D_is_table (hr.mono (by decide)) (pa_cons (pv 2) pa_nil))))
        pss_never
        pss_nil)
      (pss_cons (ps_set (i := 3) scSystemInit.nd rfl (Or.inl rfl) (pe_lst pa_nil))
      (pss_cons (ps_for PassesOwn.never rfl (pi_list (pv 1)) (pg_name (i := 4) scSystemInit.nd rfl (Or.inl rfl))
        (pss_cons (ps_if (pt_cmpR op_in_seq (pe_fld (pv 4) rfl) (pv 3) rfl)
          pss_never
          pss_nil)
        (pss_one (ps_expr (pe_bm PySem.F.plainAttrs_list PySem.F.slot_list_append PySem.F.type_list_append mt_append (pv 3) (pa_cons (pe_fld (pv 4) rfl) pa_nil))))))
      (pss_cons (ps_if (pt_cmpR op_gt (pe_callB call_len_seq (by rfl) T.len PySem.boot_len (pa_cons (pv 3) pa_nil)) (pe_gi T.cTasks) (nomark _))
        pss_never
        pss_nil)
      (pss_cons (ps_fld (pv 0) (pe_callTy call_tuple_of (by rfl) T.tuple (by decide +kernel) (pa_cons (pv 1) pa_nil)) rfl)
      (pss_one (ps_fld (pv 0) (pe_callTy call_tuple_of (by rfl) T.tuple (by decide +kernel) (pa_cons (pv 2) pa_nil)) rfl))))))), ?_⟩
    have el : tv.length = ts.length := al.1
    have t6 := ok.t6
    have nap : a ≠ p := ne_of hA hp (by intro z; cases z)
    have nbp : b ≠ p := ne_of hB hp (by intro z; cases z)
    refine ⟨_, rfl, b, tb, rfl, hB, ok.b1, ok.b2, ok.bo, fun H1 s1 => ⟨true, rfl, ?_⟩⟩
    refine ⟨Nat.zero_le _, fun l hl => ?_⟩
    have hl0 := s1.free hl
    refine ⟨_, rfl, a, rfl, ⟨_, SqL.of ((s1.add hl) _ _ hA)⟩, for_list (K := K) (a := a) (xs := tv) (fun i σ H2 => ∃ o4, σ = [some (.ref p), some (.ref a), some (.ref b), some (.ref l), o4] ∧ Same H H2 ∧ H2 l = some (.lst (((ts.take i).map (·.name)).map V.str)))
      ⟨none, rfl, s1.add hl, upd_same⟩ (fun i σ H2 _ ⟨_, _, s2, _⟩ => SqL.of (s2 _ _ hA)) ?_ ?_⟩
    · rintro i x σ H2 hi ⟨o4, rfl, s2, e2⟩
      obtain ⟨t, ht, ta⟩ := al.get hi
      have hil := len_lt ht
      obtain ⟨r, d, ka, wa, ks, ws, rfl, hr1, _⟩ := ta
      have hr2 := s2 _ _ hr1
      refine ⟨_, rfl, r, CT, d, _, _, rfl, hr2, T.ct, T.na, tf_name _ _ _, _, rfl, l, _, rfl, .inl (SqL.of e2), rfl, flat_strs _, _, rfl, bF ?_ ?_⟩
      · rw [if_neg Bool.false_ne_true, inV_str]
        refine decide_eq_false fun hm => ?_
        rw [List.map_take] at hm
        exact nd_notMem ok.tn (by rw [List.getElem?_map, ht]; rfl) hm
      refine ⟨_, rfl, .inl ⟨rfl, _, SqL.of e2⟩, _, rfl, r, CT, d, _, _, rfl, hr2, T.ct, T.na, tf_name _ _ _, l, _, _, rfl, rfl, e2, ?_, _, rfl, s2.put hl0, ?_⟩
      · rw [List.length_map, List.length_map, List.length_take]
        exact small1000 (by omega)
      · rw [upd_same, take_map_succ _ ht, List.map_append] <;> rfl
    · rintro σ H2 ⟨o4, rfl, s2, e2⟩
      rw [el, List.take_length] at e2
      refine ⟨.ref l, rfl, l, _, rfl, .inl (SqL.of e2), _, 6, rfl, rfl, _, rfl, dF (by rw [List.length_map, List.length_map]; omega) ?_⟩
      -- self.tasks = tuple(tasks)
      refine ⟨_, rfl, a, tv, rfl, .inl ⟨SqL.of (s2 _ _ hA), fun ta hta => ?_⟩⟩
      have hp2 := s2 _ _ hp
      have npt : p ≠ ta := ne_of_none hp2 hta
      refine ⟨_, rfl, p, CS, dx, [], rfl, (by rw [upd_ne npt]; exact hp2), T.cs, T.nt, (by show 0 < 1000; decide), ?_⟩
      have o3 : Off p H (upd (upd H2 ta (.tup tv)) p (.ins CS dx (putF "tasks" (.ref ta) []))) := ((off_same s2).add hta).at
      -- self.table = tuple(table)
      refine ⟨_, rfl, b, _, rfl, .inl ⟨SqL.of (o3 _ _ hB nbp), fun ba hba => ?_⟩⟩
      have npb : p ≠ ba := ne_of_none upd_same hba
      refine ⟨_, rfl, p, CS, dx, _, rfl, (by rw [upd_ne npb]; exact upd_same), T.cs, T.nb, (by show 1 < 1000; decide), ?_⟩
      have o4' := (o3.add (o := .tup (tb.map V.int)) hba).at (o := .ins CS dx (sf ta ba))
      refine q _ o4' ⟨p, dx, ta, ba, tv, rfl, upd_same, ?_, ?_, al.mono fun v t => o4'.task hp hne⟩
      · have nt : ta ≠ ba := fun z => by
          rw [← z, upd_ne npt.symm, upd_same] at hba
          cases hba
        rw [upd_ne npt.symm, upd_ne nt, upd_ne npt.symm]
        exact upd_same
      · rw [upd_ne npb.symm]
        exact upd_same
theorem ok_taskNumber {f : Addr} {fd : FuncData} (F : Fun K "task_number" "System.task_number" sSystemTaskNumber f fd) (T : Tx K mg CT CS) : FnOk P w K mg base CX0 1 f fd pSystemTaskNumber (spTaskNumber CS CT) := by
  refine F.ok scSystemTaskNumber (fun vs H Q E h => ?_) (fun cdv A outer s H vs Q E hr h => ?_)
  · obtain ⟨v, ts, tb, i, t, rfl, _⟩ := h
    rfl
  · obtain ⟨v, ts, tb, i, t, rfl, sa, nd, ht, q⟩ := h
    obtain ⟨p, dx, ta, ba, tv, rfl, hp, hta, hba, al⟩ := id sa
    refine ⟨_, (pss_cons (ps_for PassesOwn.never rfl (pi_enumT (by rfl) T.enumerate (pa_cons (pe_fld (pv 0) rfl) pa_nil)) (pg_tup rfl (pgs_cons (pg_name (i := 2) scSystemTaskNumber.nd rfl (Or.inl rfl)) (pgs_cons (pg_name (i := 3) scSystemTaskNumber.nd rfl (Or.inl rfl)) pgs_nil)))
        (pss_one (ps_if (pt_cmpR op_eq (pe_fld (pv 3) rfl) (pv 1) (nomark _))
          (pss_one (ps_ret (pv 2)))
          pss_nil)))
      (pss_one ps_never)), ?_⟩
    have el : tv.length = ts.length := al.1
    have hil := len_lt ht
    refine ⟨_, rfl, p, CS, dx, _, _, rfl, hp, T.cs, T.nt, sf_tasks _ _, ta, tv, rfl, SqT.of hta, ?_⟩
    refine for_it walk_enumT (fun j σ H' => ∃ o2 o3, σ = [some (.ref p), some (.str t.name), o2, o3] ∧ Same H H' ∧ j ≤ i) ⟨none, none, rfl, Same.refl H, Nat.zero_le _⟩ (fun j σ H' _ ⟨_, _, _, s1, _⟩ => SqT.of (s1 _ _ hta)) ?_ ?_
    · rintro j x σ H1 H2 hj ⟨o2, o3, rfl, s1, hji⟩ ⟨u, x1, x2, rfl, hu, rfl, e1, e2⟩
      cases e1
      obtain ⟨tj, htj, tja⟩ := al.get e2
      have s2 : Same H (upd H1 u (.tup [.int (j : Nat), x2])) := s1.add hu
      obtain ⟨r, d, ka, wa, ks, ws, rfl, hr1, _⟩ := tja
      refine ⟨u, _, rfl, SqT.of upd_same, rfl, _, _, rfl, _, _, rfl, rfl, ?_⟩
      refine ⟨_, rfl, r, CT, d, _, _, rfl, s2 _ _ hr1, T.ct, T.na, tf_name _ _ _, _, rfl, rfl, _, rfl, ?_⟩
      by_cases e : j = i
      · subst e
        have ek : tj = t := Option.some.inj (htj.symm.trans ht)
        subst ek
        refine dT rfl ?_
        exact ⟨_, rfl, q _ s2⟩
      · refine dF (fun z => e ?_) ⟨_, _, rfl, s2, by omega⟩
        exact nd_ix nd (show (ts.map (·.name))[j]? = some t.name by rw [List.getElem?_map, htj, ← str_inj z]; rfl) (by rw [List.getElem?_map, ht]; rfl)
    · rintro σ H1 ⟨o2, o3, rfl, s1, hji⟩
      omega
/-! ### the written form made -/
theorem len_app (x y : Str) : (x ++ y).length = x.length + y.length := by
  rw [TL.len_tl, TL.tl_append, List.length_append, ← TL.len_tl, ← TL.len_tl]
theorem fits {n : Nat} (h : n ≤ 1000) : n ≤ sizeLine := Nat.le_of_lt (small1000 h)
theorem cat2 {x0 x1 : Str} (h0 : x0.length ≤ 100) (h1 : x1.length ≤ 100) : (Str.empty ++ x0).length ≤ sizeLine ∧ (Str.empty ++ x0 ++ x1).length ≤ sizeLine := by
  have e : Str.empty.length = 0 := rfl
  simp only [len_app, e]
  exact ⟨fits (by omega), fits (by omega)⟩
theorem cat6 {x0 x1 x2 x3 x4 x5 : Str} (h0 : x0.length ≤ 100) (h1 : x1.length ≤ 100) (h2 : x2.length ≤ 100) (h3 : x3.length ≤ 100) (h4 : x4.length ≤ 100) (h5 : x5.length ≤ 100) :
    (Str.empty ++ x0).length ≤ sizeLine ∧ (Str.empty ++ x0 ++ x1).length ≤ sizeLine ∧ (Str.empty ++ x0 ++ x1 ++ x2).length ≤ sizeLine ∧ (Str.empty ++ x0 ++ x1 ++ x2 ++ x3).length ≤ sizeLine ∧ (Str.empty ++ x0 ++ x1 ++ x2 ++ x3 ++ x4).length ≤ sizeLine ∧ (Str.empty ++ x0 ++ x1 ++ x2 ++ x3 ++ x4 ++ x5).length ≤ sizeLine := by
  have e : Str.empty.length = 0 := rfl
  simp only [len_app, e]
  exact ⟨fits (by omega), fits (by omega), fits (by omega), fits (by omega), fits (by omega), fits (by omega)⟩
theorem log_of {i : Int} (h : CapOk i) : i.natAbs.log2 < 1920 := by
  have h1 : i.natAbs ≤ 1000000 := by have := h.1; have := h.2; omega
  by_cases h0 : i.natAbs = 0
  · rw [h0]; decide
  · have q : i.natAbs.log2 < 20 := (Nat.log2_lt h0).mpr (by omega)
    omega
theorem NameOk.l100 {z : Str} (h : NameOk z) : z.length ≤ 100 := Nat.le_trans h.hi (by decide)
theorem num_l100 {i : Int} (h : CapOk i) : (num i).length ≤ 100 := Nat.le_trans (num_len7 h) (by decide)
theorem ok_formatTask {f : Addr} {fd : FuncData} (F : Fun K "format_task" "format_task" sFormatTask f fd) (T : Tx K mg CT CS) : FnOk P w K mg base CX0 1 f fd pFormatTask (spFormatTask CT) := by
  refine F.ok scFormatTask (fun vs H Q E h => ?_) (fun cdv A outer s H vs Q E hr h => ?_)
  · obtain ⟨v, t, rfl, _⟩ := h
    rfl
  · obtain ⟨v, t, rfl, ta, ok, q⟩ := h
    obtain ⟨p, dx, ka, wa, ks, ws, rfl, hp, hka, hwa, alk, alw⟩ := id ta
    refine ⟨_, (pss_cons (ps_set (i := 1) scFormatTask.nd rfl (Or.inl rfl) (pe_lst (pa_cons (pe_joined (PJ.cons pe_str (PJ.cons (pe_fmt (pe_fld (pv 0) rfl)) PJ.nil))) pa_nil)))
      (pss_cons (ps_for PassesOwn.never rfl (pi_tup (pe_fld (pv 0) rfl)) (pg_tup rfl (pgs_cons (pg_name (i := 2) scFormatTask.nd rfl (Or.inl rfl)) (pgs_cons (pg_name (i := 3) scFormatTask.nd rfl (Or.inl rfl)) (pgs_cons (pg_name (i := 4) scFormatTask.nd rfl (Or.inl rfl)) pgs_nil))))
        (pss_one (ps_expr (pe_bm PySem.F.plainAttrs_list PySem.F.slot_list_append PySem.F.type_list_append mt_append (pv 1) (pa_cons (pe_joined (PJ.cons pe_str (PJ.cons (pe_fmt (pv 2)) (PJ.cons pe_str (PJ.cons (pe_fmt (pv 3)) (PJ.cons pe_str (PJ.cons (pe_fmt (pv 4)) PJ.nil))))))) pa_nil)))))
      (pss_cons (ps_for PassesOwn.never rfl (pi_tup (pe_fld (pv 0) rfl)) (pg_tup rfl (pgs_cons (pg_name (i := 5) scFormatTask.nd rfl (Or.inl rfl)) (pgs_cons (pg_name (i := 6) scFormatTask.nd rfl (Or.inl rfl)) (pgs_cons (pg_name (i := 7) scFormatTask.nd rfl (Or.inl rfl)) pgs_nil))))
        (pss_one (ps_expr (pe_bm PySem.F.plainAttrs_list PySem.F.slot_list_append PySem.F.type_list_append mt_append (pv 1) (pa_cons (pe_joined (PJ.cons pe_str (PJ.cons (pe_fmt (pv 5)) (PJ.cons pe_str (PJ.cons (pe_fmt (pv 6)) (PJ.cons pe_str (PJ.cons (pe_fmt (pv 7)) PJ.nil))))))) pa_nil)))))
      (pss_one (ps_ret (pv 1)))))), ?_⟩
    have elk : ks.length = t.kinds.length := alk.1
    have elw : ws.length = t.ways.length := alw.1
    have k8 := ok.k8
    have w16 := ok.w16
    have l5 : (Str.ofString "kind ").length ≤ 100 := by decide +kernel
    have l4 : (Str.ofString "way ").length ≤ 100 := by decide +kernel
    have l1 : (Str.ofString " ").length ≤ 100 := by decide +kernel
    have l0 : (Str.ofString "task ").length ≤ 100 := by decide +kernel
    have c0 := cat2 l0 ok.nm.l100
    refine ⟨_, rfl, c0.1, _, rfl, p, CT, dx, _, _, rfl, hp, T.ct, T.na, tf_name _ _ _, .inl ⟨_, rfl, fits (Nat.le_trans ok.nm.hi (by decide)), _, rfl, c0.2, ?_⟩⟩
    refine ⟨(by show 1 ≤ sizeLine; decide), fun l hl => ?_⟩
    have e0 : (upd H l (.lst [.str (Str.empty ++ Str.ofString "task " ++ t.name)])) l = some (.lst [lineV (headW t.name)]) := by
      rw [upd_same, glue_taskF]
    generalize hH1 : upd H l (.lst [.str (Str.empty ++ Str.ofString "task " ++ t.name)]) = H1 at e0 ⊢
    have s1 : Same H H1 := by
      rw [← hH1]
      exact same_new hl
    refine ⟨_, rfl, p, CT, dx, _, _, rfl, s1 _ _ hp, T.ct, T.nk, tf_kinds _ _ _, ka, rfl, ⟨_, SqT.of (s1 _ _ hka)⟩, for_tup (K := K) (a := ka) (xs := ks)
      (fun i σ H2 => ∃ o2 o3 o4 o5 o6 o7, σ = [some (.ref p), some (.ref l), o2, o3, o4, o5, o6, o7] ∧ Same H H2 ∧ H2 l = some (.lst (lineV (headW t.name) :: (t.kinds.take i).map fun k => lineV (kindW k))))
      ⟨none, none, none, none, none, none, rfl, s1, e0⟩ (fun i σ H2 _ ⟨_, _, _, _, _, _, _, s2, _⟩ => SqT.of (s2 _ _ hka)) ?_ ?_⟩
    · rintro i x σ H2 hi ⟨o2, o3, o4, o5, o6, o7, rfl, s2, e2⟩
      obtain ⟨k, hk, ⟨u, rfl, hu⟩⟩ := alk.get hi
      have hil := len_lt hk
      have ko := ok.ko k (List.mem_of_getElem? hk)
      have cc := cap_of ko.c1 ko.c2
      have cd := cap_of ko.d1 ko.d2
      have c6 := cat6 l5 ko.nm.l100 l1 (num_l100 cc) l1 (num_l100 cd)
      refine ⟨u, _, rfl, SqT.of (s2 _ _ hu), rfl, _, _, rfl, _, _, rfl, _, _, rfl, rfl, ?_⟩
      refine ⟨_, rfl, .inl ⟨rfl, _, SqL.of e2⟩, ?_⟩
      refine ⟨_, rfl, c6.1, _, rfl, .inl ⟨_, rfl, fits (Nat.le_trans ko.nm.hi (by decide)), _, rfl, c6.2.1, _, rfl, c6.2.2.1, _, rfl, .inr ⟨_, rfl, log_of cc, _, rfl, c6.2.2.2.1, _, rfl, c6.2.2.2.2.1, _, rfl, .inr ⟨_, rfl, log_of cd, _, rfl, c6.2.2.2.2.2, ?_⟩⟩⟩⟩
      refine ⟨l, _, _, rfl, rfl, e2, ?_, _, _, _, _, _, _, rfl, s2.put hl, ?_⟩
      · rw [List.length_cons, List.length_map, List.length_take]
        exact small1000 (by omega)
      · rw [upd_same, take_map_succ _ hk]
        exact congrArg (fun z => some (HO.lst (lineV (headW t.name) :: ((t.kinds.take i).map fun k => lineV (kindW k)) ++ [V.str z]))) (glue_kindF k.1 (num k.2.1) (num k.2.2))
    · rintro σ H2 ⟨o2, o3, o4, o5, o6, o7, rfl, s2, e2⟩
      rw [elk, List.take_length] at e2
      refine ⟨_, rfl, p, CT, dx, _, _, rfl, s2 _ _ hp, T.ct, T.nw, tf_ways _ _ _, wa, rfl, ⟨_, SqT.of (s2 _ _ hwa)⟩, for_tup (K := K) (a := wa) (xs := ws)
        (fun i σ H3 => ∃ o2 o3 o4 o5 o6 o7, σ = [some (.ref p), some (.ref l), o2, o3, o4, o5, o6, o7] ∧ Same H H3 ∧ H3 l = some (.lst ((lineV (headW t.name) :: t.kinds.map fun k => lineV (kindW k)) ++ (t.ways.take i).map fun k => lineV (wayW k))))
        ⟨_, _, _, _, _, _, rfl, s2, by rw [e2]; simp⟩ (fun i σ H3 _ ⟨_, _, _, _, _, _, _, s3, _⟩ => SqT.of (s3 _ _ hwa)) ?_ ?_⟩
      · rintro i x σ H3 hi ⟨o2, o3, o4, o5, o6, o7, rfl, s3, e3⟩
        obtain ⟨k, hk, ⟨u, rfl, hu⟩⟩ := alw.get hi
        have hil := len_lt hk
        have ko := ok.wo k (List.mem_of_getElem? hk)
        have n1 := ok.name_of ko.s
        have n2 := ok.name_of ko.t
        have cd := cap_of ko.d1 ko.d2
        have c6 := cat6 l4 n1.l100 l1 n2.l100 l1 (num_l100 cd)
        refine ⟨u, _, rfl, SqT.of (s3 _ _ hu), rfl, _, _, rfl, _, _, rfl, _, _, rfl, rfl, ?_⟩
        refine ⟨_, rfl, .inl ⟨rfl, _, SqL.of e3⟩, ?_⟩
        refine ⟨_, rfl, c6.1, _, rfl, .inl ⟨_, rfl, fits (Nat.le_trans n1.hi (by decide)), _, rfl, c6.2.1, _, rfl, c6.2.2.1, _, rfl, .inl ⟨_, rfl, fits (Nat.le_trans n2.hi (by decide)), _, rfl, c6.2.2.2.1, _, rfl, c6.2.2.2.2.1, _, rfl, .inr ⟨_, rfl, log_of cd, _, rfl, c6.2.2.2.2.2, ?_⟩⟩⟩⟩
        refine ⟨l, _, _, rfl, rfl, e3, ?_, _, _, _, _, _, _, rfl, s3.put hl, ?_⟩
        · rw [List.length_append, List.length_cons, List.length_map, List.length_map, List.length_take]
          exact small1000 (by omega)
        · rw [upd_same, take_map_succ _ hk, ← List.append_assoc]
          exact congrArg (fun z => some (HO.lst ((lineV (headW t.name) :: t.kinds.map fun k => lineV (kindW k)) ++ ((t.ways.take i).map fun k => lineV (wayW k)) ++ [V.str z]))) (glue_wayF k.1 k.2.1 (num k.2.2))
      · rintro σ H3 ⟨o2, o3, o4, o5, o6, o7, rfl, s3, e3⟩
        rw [elw, List.take_length] at e3
        refine ⟨_, rfl, q H3 l s3 hl ?_⟩
        rw [e3]
        unfold taskW
        rw [List.map_cons, List.map_append, List.map_map, List.map_map] <;> rfl
end
end Nv
/-! NvF: format_system; parse_number, parse_words, parse_table. -/
namespace Nv
open PySem PySem.Spec PyProof.Rows L2
theorem blocks_snoc {ts : List TD} {i : Nat} {t : TD} (h : ts[i]? = some t) : blocks (ts.take (i + 1)) = blocks (ts.take i) ++ taskW t := by
  unfold blocks
  rw [take_map_succ _ h, List.flatten_append]
  simp
theorem lines_strs (ls : List (List Str)) : ls.map lineV = (ls.map lineOf).map V.str := by
  rw [List.map_map] <;> rfl
theorem both {p A B C : Prop} [Decidable p] (hA : p → C → A) (hB : ¬ p → C → B) (h : C) : if decide p = true then A else B := by
  by_cases e : p
  · exact dT e (hA e h)
  · exact dF e (hB e h)
theorem sp_ne : ((Str.ofString " ").length == 0) = false := by decide +kernel
theorem nl_ne : ((Str.ofString "\n").length == 0) = false := by decide +kernel
theorem fits2 {n : Nat} (h : n ≤ 16000000) : n ≤ sizeLine := by
  rw [sizeLine_eq]
  omega
section
variable {P : Program} {w : World} {K : PySem.W.Frag} {mg : Str → Option Value} {base : Heap} {CT CS : Addr}
theorem ok_formatSystem {f : Addr} {fd : FuncData} (F : Fun K "format_system" "format_system" sFormatSystem f fd) (T : Tx K mg CT CS) (D_format_task : Def P w K mg base 1 "format_task" pFormatTask (spFormatTask CT)) : FnOk P w K mg base CX0 2 f fd pFormatSystem (spFormatSystem CS CT) := by
  refine F.ok scFormatSystem (fun vs H Q E h => ?_) (fun cdv A outer s H vs Q E hr h => ?_)
  · obtain ⟨v, ts, tb, rfl, _⟩ := h
    rfl
  · obtain ⟨v, ts, tb, rfl, sa, ok, q⟩ := h
    obtain ⟨p, dx, ta, ba, tv, rfl, hp, hta, hba, al⟩ := id sa
    refine ⟨_, (pss_cons (ps_set (i := 1) scFormatSystem.nd rfl (Or.inl rfl) (pe_lst (pa_cons (pe_op op_add_str pe_str (pe_join pe_str (pe_lc (own := [("capacity", 3)]) (g := gName 3) (tt := tYes) rfl scFormatSystem.nd (pi_tup (pe_fld (pv 0) rfl)) (blkOk_by (own := [("capacity", 3)]) (N := nFormatSystem) (sc := defScope sFormatSystem) (by decide +kernel)) (fun _ _ _ _ _ => pg_name (i := 3) scFormatSystem.nd rfl (Or.inl rfl)) (fun _ _ _ _ _ => pts_nil) (fun _ _ _ _ _ => (pe_callTy call_str_int (by rfl) T.str (by decide +kernel) (pa_cons (pv 3) pa_nil)))))) pa_nil)))
      (pss_cons (ps_for PassesOwn.never rfl (pi_tup (pe_fld (pv 0) rfl)) (pg_name (i := 2) scFormatSystem.nd rfl (Or.inl rfl))
        (pss_one (ps_expr (pe_bm PySem.F.plainAttrs_list PySem.F.slot_list_extend PySem.F.type_list_extend mt_extend (pv 1) (pa_cons (pe_def D_format_task (hr.mono (by decide)) (pa_cons (pv 2) pa_nil)) pa_nil)))))
      (pss_one (ps_ret (pe_join pe_str (pv 1)))))), ?_⟩
    have el : tv.length = ts.length := al.1
    have t6 := ok.t6
    have b1 := ok.b1
    have b2 := ok.b2
    have tl' := table_line ok.b2 ok.bo
    have tok := ok.text
    have hne : tb.map num ≠ [] := fun z => by
      have := congrArg List.length z
      rw [List.length_map] at this
      simp only [List.length_nil] at this
      omega
    refine ⟨⟨_, rfl⟩, _, rfl, p, CS, dx, _, _, rfl, hp, T.cs, T.nb, sf_table _ _, ba, rfl, ⟨_, SqT.of hba⟩, fun D hD => ?_⟩
    refine lc_tup (K := K) (a := ba) (xs := tb.map V.int) (fun i H' => Same H H' ∧ H' D = some (.lst (((tb.take i).map num).map V.str))) ⟨same_new hD, upd_same⟩ (fun i H' _ ⟨s1, _⟩ => SqT.of (s1 _ _ hba)) ?_ ?_
    · rintro i x H1 hi ⟨s1, e1⟩
      rw [List.getElem?_map] at hi
      obtain ⟨c, hc, rfl⟩ := Option.map_eq_some_iff.mp hi
      have hil := len_lt hc
      refine ⟨rfl, _, rfl, c, rfl, log_of (ok.bo c (List.mem_of_getElem? hc)), _, e1, ?_, s1.put hD, ?_⟩
      · rw [List.length_map, List.length_map, List.length_take]
        exact Nat.lt_of_lt_of_le (show min i tb.length < 1002 by omega) (by decide)
      · rw [upd_same, take_map_succ _ hc, List.map_append] <;> rfl
    · rintro H1 ⟨s1, e1⟩
      rw [List.length_map, List.take_length] at e1
      have lr := line_room tl'
      have l6 : (Str.ofString "table ").length = 6 := by decide +kernel
      have eL : Str.ofString "table " ++ Txt.join (Str.ofString " ") (tb.map num) = lineOf (tableW tb) := line_table hne
      have lL : (Str.ofString "table ").length + (Txt.join (Str.ofString " ") (tb.map num)).length ≤ 13026 := by
        rw [← len_app, eL]
        exact line_len tl'
      refine ⟨_, D, tb.map num, rfl, rfl, .inl (SqL.of e1), ?_, _, _, rfl, rfl, fits2 (by omega), (by show 1 ≤ sizeLine; decide), fun l hl => ?_⟩
      · unfold tableW at lr
        rw [List.map_cons, List.sum_cons, List.length_cons] at lr
        have e : (Str.ofString " ").length = spS.length := rfl
        rw [e]
        have : (tb.map num).length * spS.length ≤ ((tb.map num).length + 1) * spS.length := Nat.mul_le_mul_right _ (Nat.le_succ _)
        omega
      have hl0 := s1.free hl
      have e2 : (upd H1 l (.lst [.str (Str.ofString "table " ++ Txt.join (Str.ofString " ") (tb.map num))])) l = some (.lst ((tableW tb :: blocks (ts.take 0)).map lineV)) := by
        rw [upd_same, eL] <;> rfl
      refine ⟨_, rfl, p, CS, dx, _, _, rfl, (s1.add hl) _ _ hp, T.cs, T.nt, sf_tasks _ _, ta, rfl, ⟨_, SqT.of ((s1.add hl) _ _ hta)⟩, for_tup (K := K) (a := ta) (xs := tv)
        (fun i σ H2 => ∃ o2, σ = [some (.ref p), some (.ref l), o2, none] ∧ Same H H2 ∧ H2 l = some (.lst ((tableW tb :: blocks (ts.take i)).map lineV))) ⟨none, rfl, s1.add hl, e2⟩ (fun i σ H2 _ ⟨_, _, s2, _⟩ => SqT.of (s2 _ _ hta)) ?_ ?_⟩
      · rintro i x σ H2 hi ⟨o2, rfl, s2, e3⟩
        obtain ⟨t, ht, tat⟩ := al.get hi
        have hil := len_lt ht
        refine ⟨_, rfl, .inl ⟨rfl, _, SqL.of e3⟩, _, rfl, x, t, rfl, tat.keep s2.keep, ok.to t (List.mem_of_getElem? ht), fun H3 r s3 hr3 e4 => ?_⟩
        refine ⟨l, r, _, _, rfl, rfl, s3 _ _ e3, e4, ?_, _, rfl, (s2.trans s3).put hl0, ?_⟩
        · rw [List.length_map, List.length_map, List.length_cons, taskW_len]
          have q1 := blocks_len (ts := ts.take i) fun z hz => ok.to z (List.mem_of_mem_take hz)
          rw [List.length_take] at q1
          have q2 := (ok.to t (List.mem_of_getElem? ht)).k8
          have q3 := (ok.to t (List.mem_of_getElem? ht)).w16
          exact fits (by omega)
        · rw [upd_same, blocks_snoc ht, ← List.map_append] <;> rfl
      · rintro σ H2 ⟨o2, rfl, s2, e3⟩
        rw [el, List.take_length, lines_strs] at e3
        refine ⟨⟨_, rfl⟩, _, rfl, _, l, (sysW ts tb).map lineOf, rfl, rfl, .inl (SqL.of e3), text_room tok, q H2 s2⟩
theorem ok_parseNumber {f : Addr} {fd : FuncData} (F : Fun K "parse_number" "parse_number" sParseNumber f fd) (T : Tx K mg CT CS) : FnOk P w K mg base CX0 1 f fd pParseNumber spParseNumber := by
  refine F.ok scParseNumber (fun vs H Q E h => ?_) (fun cdv A outer s H vs Q E hr h => ?_)
  · obtain ⟨n, l, lo, hi, rfl, _⟩ := h
    rfl
  · obtain ⟨n, l, lo, hi, rfl, cap, h1, h2, q⟩ := h
    refine ⟨_, (pss_cons (ps_if (PW.pt (pw_or (pt_cmpR op_eq (pv 0) pe_str (nomark _)) (pw_or (pt_cmpR op_gt (pe_callB call_len_str (by rfl) T.len PySem.boot_len (pa_cons (pv 0) pa_nil)) pe_int (nomark _)) (pw_or1 (PW.pt (pw_and (pt_cmpR op_eq (pe_item_str (pv 0) pe_int (fun _ _ => rfl)) pe_str (nomark _)) (pw_and1 (pt_cmpR op_gt (pe_callB call_len_str (by rfl) T.len PySem.boot_len (pa_cons (pv 0) pa_nil)) pe_int (nomark _)))))))))
        pss_never
        pss_nil)
      (pss_cons (ps_for PassesOwn.never rfl (pi_str (pv 0)) (pg_name (i := 4) scParseNumber.nd rfl (Or.inl rfl))
        (pss_one (ps_if (pt_cmpR op_notIn_sign (pv 4) (pe_gs T.cDigits) rfl)
          pss_never
          pss_nil)))
      (pss_cons (ps_set (i := 5) scParseNumber.nd rfl (Or.inl rfl) (pe_callTy call_int_str (by rfl) T.int (by decide +kernel) (pa_cons (pv 0) pa_nil)))
      (pss_cons (ps_if (PW.pt (pw_or (pt_cmpR op_lt (pv 5) (pv 2) (nomark _)) (pw_or1 (pt_cmpR op_gt (pv 5) (pv 3) (nomark _)))))
        pss_never
        pss_nil)
      (pss_one (ps_ret (pv 5))))))), ?_⟩
    have l7 := num_len7 cap
    have p1 := num_pos cap.1
    obtain ⟨c, hc, hc1⟩ := num_head cap.1
    refine ⟨_, rfl, rfl, _, rfl, dF (fun z => num_ne cap.1 (str_inj z)) ?_⟩
    refine ⟨_, rfl, num n, rfl, fits (by omega), _, 7, rfl, rfl, _, rfl, dF (by omega) ?_⟩
    refine ⟨_, rfl, num n, 0, c, rfl, rfl, by decide, by decide, by omega, hc, rfl, _, rfl, ?_⟩
    refine both (fun e c' => ⟨_, rfl, num n, rfl, fits (by omega), _, 1, rfl, rfl, _, rfl, dF (by
      have e1 : ([c] : List Nat) = [48] := by
        have e2 := congrArg (fun z : Str => z.cps.toList) (str_inj e)
        exact e2
      have := hc1 (by injection e1)
      omega) c'⟩) (fun _ c' => c') ?_
    refine ⟨_, rfl, num n, rfl, for_it walk_str (fun i σ H' => ∃ o4, σ = [some (.str (num n)), some (.int l), some (.int lo), some (.int hi), o4, none] ∧ H' = H) ⟨none, rfl, rfl⟩ (fun _ _ _ _ _ => trivial) ?_ ?_⟩
    · rintro i x σ H1 H2 hi ⟨o4, rfl, rfl⟩ ⟨rfl, d, hd, rfl⟩
      have hm : d ∈ TL.tl (num n) := Array.mem_toList_iff.mpr (Array.mem_of_getElem? hd)
      exact ⟨_, rfl, d, digits, rfl, rfl, _, rfl, iteNS (mem_digits (num_digit cap.1 hm)) ⟨_, rfl, rfl⟩⟩
    · rintro σ H1 ⟨o4, rfl, rfl⟩
      refine ⟨_, rfl, num n, n, rfl, num_int cap.1 cap.2, by omega, ?_⟩
      exact ⟨_, rfl, _, rfl, n, lo, rfl, rfl, _, rfl, dF (by omega) ⟨_, rfl, _, rfl, n, hi, rfl, rfl, _, rfl, dF (by omega) ⟨_, rfl, q _ (Same.refl _)⟩⟩⟩
theorem ok_parseWords {f : Addr} {fd : FuncData} (F : Fun K "parse_words" "parse_words" sParseWords f fd) (T : Tx K mg CT CS) : FnOk P w K mg base CX0 1 f fd pParseWords spParseWords := by
  refine F.ok scParseWords (fun vs H Q E h => ?_) (fun cdv A outer s H vs Q E hr h => ?_)
  · obtain ⟨kw, ws, l, rfl, _⟩ := h
    rfl
  · obtain ⟨kw, ws, l, rfl, ok, q⟩ := h
    refine ⟨_, (pss_cons (ps_asg (pe_split (pv 0) pe_str) (pg_star rfl (pgs_cons (pg_name (i := 4) scParseWords.nd rfl (Or.inl rfl)) (pgs_cons (pg_name (i := 5) scParseWords.nd rfl (Or.inl rfl)) pgs_nil))))
      (pss_cons (ps_if (PW.pt (pw_or (pt_cmpR op_ne (pv 4) (pv 2) (nomark _)) (pw_or1 (pt_cmpR op_ne (pe_callB call_len_seq (by rfl) T.len PySem.boot_len (pa_cons (pv 5) pa_nil)) (pv 3) (nomark _)))))
        pss_never
        pss_nil)
      (pss_one (ps_ret (pv 5))))), ?_⟩
    have ll := line_len ok
    refine ⟨_, rfl, ⟨_, rfl⟩, _, _, rfl, rfl, sp_ne, fits2 (by omega), fun p hp => ?_⟩
    have e1 : (upd H p (.lst ((Txt.split (lineOf (kw :: ws)) (Str.ofString " ")).map V.str))) p = some (.lst (.str kw :: ws.map V.str)) := by
      rw [upd_same, show Txt.split (lineOf (kw :: ws)) (Str.ofString " ") = kw :: ws from split_line ok] <;> rfl
    refine ⟨p, .str kw, ws.map V.str, rfl, SqL.of e1, fun r hr2 => ?_⟩
    refine ⟨_, _, rfl, _, _, rfl, rfl, ?_⟩
    refine ⟨_, rfl, _, rfl, rfl, _, rfl, iteNS rfl ?_⟩
    refine ⟨.ref r, rfl, r, _, rfl, .inl (SqL.of upd_same), _, rfl, rfl, _, rfl, iteNS (congrArg V.int (by rw [List.length_map])) ?_⟩
    exact ⟨_, rfl, q _ r ((same_new hp).add hr2) ((same_new hp).free hr2) upd_same⟩
theorem ok_parseTable {f : Addr} {fd : FuncData} (F : Fun K "parse_table" "parse_table" sParseTable f fd) (T : Tx K mg CT CS) (D_parse_number : DefK P w K mg base 1 "parse_number" pParseNumber 2 ["least", "most"] spParseNumber) : FnOk P w K mg base CX0 2 f fd pParseTable spParseTable := by
  refine F.ok scParseTable (fun vs H Q E h => ?_) (fun cdv A outer s H vs Q E hr h => ?_)
  · obtain ⟨tb, rfl, _⟩ := h
    rfl
  · obtain ⟨tb, rfl, b1, b2, bo, q⟩ := h
    refine ⟨_, (pss_cons (ps_asg (pe_split (pv 0) pe_str) (pg_star rfl (pgs_cons (pg_name (i := 1) scParseTable.nd rfl (Or.inl rfl)) (pgs_cons (pg_name (i := 2) scParseTable.nd rfl (Or.inl rfl)) pgs_nil))))
      (pss_cons (ps_if (PW.pt (pw_or (pt_cmpR op_ne (pv 1) pe_str (nomark _)) (pw_or1 (pt_not (pt_chain op_le op_le pe_int (pe_callB call_len_seq (by rfl) T.len PySem.boot_len (pa_cons (pv 2) pa_nil)) (pe_gi T.cSlots))))))
        pss_never
        pss_nil)
      (pss_one (ps_ret (pe_lc (own := [("word", 3)]) (g := gName 3) (tt := tYes) rfl scParseTable.nd (pi_list (pv 2)) (blkOk_by (own := [("word", 3)]) (N := nParseTable) (sc := defScope sParseTable) (by decide +kernel)) (fun _ _ _ _ _ => pg_name (i := 3) scParseTable.nd rfl (Or.inl rfl)) (fun _ _ _ _ _ => pts_nil) (fun _ _ _ _ _ => (pe_defK D_parse_number (hr.mono (by decide)) (pa_cons (pv 3) (pa_cons pe_int pa_nil)) (pk_cons pe_int (pk_cons (pe_gi T.cCap) pk_nil))))))))), ?_⟩
    have tl' := table_line b2 bo
    have ll := line_len tl'
    refine ⟨_, rfl, ⟨_, rfl⟩, _, _, rfl, rfl, sp_ne, fits2 (by omega), fun p hp => ?_⟩
    have e1 : (upd H p (.lst ((Txt.split (lineOf (tableW tb)) (Str.ofString " ")).map V.str))) p = some (.lst (.str kwTable :: (tb.map num).map V.str)) := by
      rw [upd_same, show Txt.split (lineOf (tableW tb)) (Str.ofString " ") = tableW tb from split_line tl'] <;> rfl
    refine ⟨p, .str kwTable, (tb.map num).map V.str, rfl, SqL.of e1, fun r hr2 => ?_⟩
    have el : ((tb.map num).map V.str).length = tb.length := by rw [List.length_map, List.length_map]
    have s1 : Same H (upd (upd H p (.lst ((Txt.split (lineOf (tableW tb)) (Str.ofString " ")).map V.str))) r (.lst ((tb.map num).map V.str))) := (same_new hp).add hr2
    generalize hH1 : upd (upd H p (.lst ((Txt.split (lineOf (tableW tb)) (Str.ofString " ")).map V.str))) r (.lst ((tb.map num).map V.str)) = H1 at s1 ⊢
    have e2 : H1 r = some (.lst ((tb.map num).map V.str)) := by
      rw [← hH1]
      exact upd_same
    refine ⟨_, _, rfl, _, _, rfl, rfl, ?_⟩
    refine ⟨_, rfl, rfl, _, rfl, iteNS rfl ?_⟩
    refine ⟨.ref r, rfl, r, _, rfl, .inl (SqL.of e2), 1, _, rfl, rfl, _, rfl, dT (by rw [el]; omega) ⟨_, 1001, rfl, rfl, _, rfl, iteNS (by rw [el]; omega) ?_⟩⟩
    refine ⟨_, rfl, r, rfl, ⟨_, SqL.of e2⟩, fun D hD => lc_list (K := K) (a := r) (xs := (tb.map num).map V.str) (fun i H' => Same H1 H' ∧ H' D = some (.lst ((tb.take i).map V.int))) ⟨same_new hD, upd_same⟩ (fun i H' _ ⟨s2, _⟩ => SqL.of (s2 _ _ e2)) ?_ ?_⟩
    · rintro i x H2 hi ⟨s2, e3⟩
      rw [List.getElem?_map, List.getElem?_map] at hi
      obtain ⟨z, hz, rfl⟩ := Option.map_eq_some_iff.mp hi
      obtain ⟨c, hc, rfl⟩ := Option.map_eq_some_iff.mp hz
      have hil := len_lt hc
      have cap := bo c (List.mem_of_getElem? hc)
      refine ⟨rfl, _, rfl, rfl, rfl, c, 1, 0, 1000000, rfl, cap, cap.1, cap.2, fun H3 s3 => ⟨_, s3 _ _ e3, ?_, (s2.trans s3).put hD, ?_⟩⟩
      · rw [List.length_map, List.length_take]
        exact Nat.lt_of_lt_of_le (show min i tb.length < 1002 by omega) (by decide)
      · rw [upd_same, take_map_succ _ hc]
    · rintro H2 ⟨s2, e3⟩
      rw [el, List.take_length] at e3
      exact q H2 D (s1.trans s2) (s1.free hD) e3
end
end Nv
/-! NvG: parse_kind, parse_way, starts. -/
namespace Nv
open PySem PySem.Spec PyProof.Rows L2
section
variable {P : Program} {w : World} {K : PySem.W.Frag} {mg : Str → Option Value} {base : Heap} {CT CS : Addr}
theorem ok_parseKind {f : Addr} {fd : FuncData} (F : Fun K "parse_kind" "parse_kind" sParseKind f fd) (T : Tx K mg CT CS) (D_is_name : Def P w K mg base 1 "is_name" pIsName spIsName)
    (D_parse_words : DefK P w K mg base 1 "parse_words" pParseWords 2 ["keyword", "many"] spParseWords) (D_parse_number : DefK P w K mg base 1 "parse_number" pParseNumber 2 ["least", "most"] spParseNumber) : FnOk P w K mg base CX0 2 f fd pParseKind spParseKind := by
  refine F.ok scParseKind (fun vs H Q E h => ?_) (fun cdv A outer s H vs Q E hr h => ?_)
  · obtain ⟨k, l, a, kv, ks, rfl, _⟩ := h
    rfl
  · obtain ⟨k, l, a, kv, ks, rfl, hA, al, ko, hn, l8, q⟩ := h
    refine ⟨_, (pss_cons (ps_asg (pe_defK D_parse_words (hr.mono (by decide)) (pa_cons (pv 0) (pa_cons (pv 1) pa_nil)) (pk_cons pe_str (pk_cons pe_int pk_nil))) (pg_unl rfl (pgs_cons (pg_name (i := 3) scParseKind.nd rfl (Or.inl rfl)) (pgs_cons (pg_name (i := 4) scParseKind.nd rfl (Or.inl rfl)) (pgs_cons (pg_name (i := 5) scParseKind.nd rfl (Or.inl rfl)) pgs_nil)))))
      (pss_cons (ps_if (PW.pt (pw_or (pt_not (pt_val (pe_def D_is_name (hr.mono (by decide)) (pa_cons (pv 3) pa_nil)))) (pw_or (pt_cmpR op_in_seq (pv 3) (pe_lc (own := [("kind", 6)]) (g := gName 6) (tt := tYes) rfl scParseKind.nd (pi_list (pv 2)) (blkOk_by (own := [("kind", 6)]) (N := nParseKind) (sc := defScope sParseKind) (by decide +kernel)) (fun _ _ _ _ _ => pg_name (i := 6) scParseKind.nd rfl (Or.inl rfl)) (fun _ _ _ _ _ => pts_nil) (fun _ _ _ _ _ => (pe_ix (ix_tupK K) (pv 6) pe_int (fun _ _ => rfl)))) rfl) (pw_or1 (pt_cmpR op_eq (pe_callB call_len_seq (by rfl) T.len PySem.boot_len (pa_cons (pv 2) pa_nil)) (pe_gi T.cKinds) (nomark _))))))
        pss_never
        pss_nil)
      (pss_cons (ps_set (i := 4) scParseKind.nd rfl (Or.inl rfl) (pe_defK D_parse_number (hr.mono (by decide)) (pa_cons (pv 4) (pa_cons (pv 1) pa_nil)) (pk_cons pe_int (pk_cons (pe_gi T.cCost) pk_nil))))
      (pss_one (ps_ret (pe_tup (pa_cons (pv 3) (pa_cons (pv 4) (pa_cons (pe_defK D_parse_number (hr.mono (by decide)) (pa_cons (pv 5) (pa_cons (pv 1) pa_nil)) (pk_cons pe_int (pk_cons (pe_gi T.cDead) pk_nil))) pa_nil))))))))), ?_⟩
    have el : kv.length = ks.length := al.1
    have cc := cap_of ko.c1 ko.c2
    have cd := cap_of ko.d1 ko.d2
    refine ⟨_, rfl, _, rfl, rfl, rfl, kwKind, [k.1, num k.2.1, num k.2.2], l, rfl, ko.line, fun H1 p s1 hp e1 => ?_⟩
    refine ⟨p, _, rfl, SqL.of e1, rfl, _, _, rfl, _, _, rfl, _, _, rfl, rfl, ?_⟩
    refine ⟨_, rfl, k.1, rfl, ko.nm, fun H2 s2 => ⟨true, rfl, ?_⟩⟩
    have s02 := s1.trans s2
    refine ⟨_, rfl, _, rfl, a, rfl, ⟨_, SqL.of (s02 _ _ hA)⟩, fun D hD => lc_list (K := K) (a := a) (xs := kv) (fun i H' => Same H2 H' ∧ H' D = some (.lst (((ks.take i).map (·.1)).map V.str))) ⟨same_new hD, upd_same⟩ (fun i H' _ ⟨s3, _⟩ => SqL.of (s3 _ _ (s02 _ _ hA))) ?_ ?_⟩
    · rintro i x H3 hi ⟨s3, e3⟩
      obtain ⟨y, hy, ⟨u, rfl, hu⟩⟩ := al.get hi
      have hil := len_lt hy
      refine ⟨rfl, _, rfl, u, _, 0, .str y.1, rfl, rfl, SqT.of (s3 _ _ (s02 _ _ hu)), atI_nat (j := 0) rfl, _, e3, ?_, s3.put hD, ?_⟩
      · rw [List.length_map, List.length_map, List.length_take]
        exact small16 (by omega)
      · rw [upd_same, take_map_succ _ hy, List.map_append] <;> rfl
    · rintro H3 ⟨s3, e3⟩
      rw [el, List.take_length] at e3
      have s03 := s02.trans s3
      refine ⟨D, _, rfl, .inl (SqL.of e3), rfl, flat_strs _, _, rfl, bF ?_ ?_⟩
      · rw [if_neg Bool.false_ne_true, inV_str]
        exact decide_eq_false hn
      refine ⟨.ref a, rfl, a, kv, rfl, .inl (SqL.of (s03 _ _ hA)), rfl, _, rfl, dF (fun z => by have := V.int.inj z; omega) ?_⟩
      refine ⟨_, rfl, _, rfl, rfl, rfl, k.2.1, l, 1, 1000, rfl, cc, ko.c1, ko.c2, fun H4 s4 => ?_⟩
      refine ⟨_, rfl, _, rfl, _, rfl, _, rfl, rfl, rfl, k.2.2, l, 1, 1000, rfl, cd, ko.d1, ko.d2, fun H5 s5 => ⟨(by show 3 ≤ sizeLine; decide), fun r hr2 => ?_⟩⟩
      exact q _ _ (((s03.trans s4).trans s5).add hr2) ⟨r, rfl, upd_same⟩
theorem ok_parseWay {f : Addr} {fd : FuncData} (F : Fun K "parse_way" "parse_way" sParseWay f fd) (T : Tx K mg CT CS)
    (D_parse_words : DefK P w K mg base 1 "parse_words" pParseWords 2 ["keyword", "many"] spParseWords) (D_parse_number : DefK P w K mg base 1 "parse_number" pParseNumber 2 ["least", "most"] spParseNumber) : FnOk P w K mg base CX0 2 f fd pParseWay spParseWay := by
  refine F.ok scParseWay (fun vs H Q E h => ?_) (fun cdv A outer s H vs Q E hr h => ?_)
  · obtain ⟨x, l, a, b, kv, wv, ks, rfl, _⟩ := h
    rfl
  · obtain ⟨x, l, a, b, kv, wv, ks, rfl, hA, al, l8, hB, l16, lo, wo, q⟩ := h
    refine ⟨_, (pss_cons (ps_asg (pe_defK D_parse_words (hr.mono (by decide)) (pa_cons (pv 0) (pa_cons (pv 1) pa_nil)) (pk_cons pe_str (pk_cons pe_int pk_nil))) (pg_unl rfl (pgs_cons (pg_name (i := 4) scParseWay.nd rfl (Or.inl rfl)) (pgs_cons (pg_name (i := 5) scParseWay.nd rfl (Or.inl rfl)) (pgs_cons (pg_name (i := 6) scParseWay.nd rfl (Or.inl rfl)) pgs_nil)))))
      (pss_cons (ps_setLc (i := 7) (own := [("kind", 8)]) (g := gName 8) (tt := tYes) rfl scParseWay.nd rfl rfl (sw_true rfl rfl rfl (by decide +kernel)) (pi_list (pv 2)) (blkOk_by (own := [("kind", 8)]) (N := nParseWay) (sc := defScope sParseWay) (by decide +kernel)) (fun _ _ _ _ _ => pg_name (i := 8) scParseWay.nd rfl (Or.inl rfl)) (fun _ _ _ _ _ => pts_nil) (fun _ _ _ _ _ => (pe_ix (ix_tupK K) (pv 8) pe_int (fun _ _ => rfl))))
      (pss_cons (ps_if (PW.pt (pw_or (pt_cmpR op_notIn_seq (pv 4) (pv 7) rfl) (pw_or (pt_cmpR op_notIn_seq (pv 5) (pv 7) rfl) (pw_or1 (pt_cmpR op_eq (pe_callB call_len_seq (by rfl) T.len PySem.boot_len (pa_cons (pv 3) pa_nil)) (pe_gi T.cWays) (nomark _))))))
        pss_never
        pss_nil)
      (pss_one (ps_ret (pe_tup (pa_cons (pv 4) (pa_cons (pv 5) (pa_cons (pe_defK D_parse_number (hr.mono (by decide)) (pa_cons (pv 6) (pa_cons (pv 1) pa_nil)) (pk_cons pe_int (pk_cons (pe_gi T.cDist) pk_nil))) pa_nil))))))))), ?_⟩
    have el : kv.length = ks.length := al.1
    have cd := cap_of wo.d1 wo.d2
    refine ⟨_, rfl, _, rfl, rfl, rfl, kwWay, [x.1, x.2.1, num x.2.2], l, rfl, lo, fun H1 p s1 hp e1 => ?_⟩
    refine ⟨p, _, rfl, SqL.of e1, rfl, _, _, rfl, _, _, rfl, _, _, rfl, rfl, ?_⟩
    refine ⟨_, rfl, a, rfl, ⟨_, SqL.of (s1 _ _ hA)⟩, fun D hD => lc_list (K := K) (a := a) (xs := kv) (fun i H' => Same H1 H' ∧ H' D = some (.lst (((ks.take i).map (·.1)).map V.str))) ⟨same_new hD, upd_same⟩ (fun i H' _ ⟨s3, _⟩ => SqL.of (s3 _ _ (s1 _ _ hA))) ?_ ?_⟩
    · rintro i y H3 hi ⟨s3, e3⟩
      obtain ⟨y, hy, ⟨u, rfl, hu⟩⟩ := al.get hi
      have hil := len_lt hy
      refine ⟨rfl, _, rfl, u, _, 0, .str y.1, rfl, rfl, SqT.of (s3 _ _ (s1 _ _ hu)), atI_nat (j := 0) rfl, _, e3, ?_, s3.put hD, ?_⟩
      · rw [List.length_map, List.length_map, List.length_take]
        exact small16 (by omega)
      · rw [upd_same, take_map_succ _ hy, List.map_append] <;> rfl
    · rintro H3 ⟨s3, e3⟩
      rw [el, List.take_length] at e3
      have s03 := s1.trans s3
      refine ⟨_, rfl, _, rfl, D, _, rfl, .inl (SqL.of e3), rfl, flat_strs _, _, rfl, bF ?_ ?_⟩
      · rw [if_pos rfl, inV_str, decide_eq_true wo.s] <;> rfl
      refine ⟨_, rfl, _, rfl, D, _, rfl, .inl (SqL.of e3), rfl, flat_strs _, _, rfl, bF ?_ ?_⟩
      · rw [if_pos rfl, inV_str, decide_eq_true wo.t] <;> rfl
      refine ⟨.ref b, rfl, b, wv, rfl, .inl (SqL.of (s03 _ _ hB)), rfl, _, rfl, dF (fun z => by have := V.int.inj z; omega) ?_⟩
      refine ⟨_, rfl, _, rfl, _, rfl, _, rfl, rfl, rfl, x.2.2, l, 1, 1000, rfl, cd, wo.d1, wo.d2, fun H5 s5 => ⟨(by show 3 ≤ sizeLine; decide), fun r hr2 => ?_⟩⟩
      exact q _ _ ((s03.trans s5).add hr2) ⟨r, rfl, upd_same⟩
theorem ok_starts {f : Addr} {fd : FuncData} (F : Fun K "starts" "starts" sStarts f fd) (T : Tx K mg CT CS) : FnOk P w K mg base CX0 1 f fd pStarts spStarts := by
  refine F.ok scStarts (fun vs H Q E h => ?_) (fun cdv A outer s H vs Q E hr h => ?_)
  · obtain ⟨a, n, kw, ls, rfl, _⟩ := h
    rfl
  · obtain ⟨a, n, kw, ls, rfl, hA, ok, q⟩ := h
    refine ⟨_, (pss_one (ps_ret (pe_and (pe_cmpR op_lt (pv 1) (pe_callB call_len_seq (by rfl) T.len PySem.boot_len (pa_cons (pv 0) pa_nil)) (nomark _)) (pe_one (pe_cmpR op_eq (pe_ix ix_list (pe_split (pe_ix ix_list (pv 0) (pv 1) (fun _ _ => rfl)) pe_str) pe_int (fun _ _ => rfl)) (pv 2) (nomark _)))))), ?_⟩
    have el : (ls.map lineV).length = ls.length := List.length_map ..
    refine ⟨_, rfl, .ref a, rfl, a, _, rfl, .inl (SqL.of hA), _, _, rfl, rfl, _, rfl, ?_⟩
    by_cases h : n < ls.length
    · refine dT (by rw [el]; omega) ?_
      have hw : ls[n]? = some ls[n] := List.getElem?_eq_getElem h
      generalize ls[n] = ws at hw
      have wo := ok ws (List.mem_of_getElem? hw)
      have ll := line_len wo
      obtain ⟨w0, r0, rfl⟩ : ∃ w0 r0, ws = w0 :: r0 := by
        cases ws with
        | nil => exact absurd rfl wo.ne
        | cons w0 r0 => exact ⟨w0, r0, rfl⟩
      refine ⟨_, rfl, _, rfl, a, _, n, lineV (w0 :: r0), rfl, rfl, SqL.of hA, atI_nat (by rw [List.getElem?_map, hw]; rfl), ⟨_, rfl⟩, _, _, rfl, rfl, sp_ne, fits2 (by omega), fun p hp => ?_⟩
      have e1 : (upd H p (.lst ((Txt.split (lineOf (w0 :: r0)) (Str.ofString " ")).map V.str))) p = some (.lst (.str w0 :: r0.map V.str)) := by
        rw [upd_same, show Txt.split (lineOf (w0 :: r0)) (Str.ofString " ") = w0 :: r0 from split_line wo] <;> rfl
      refine ⟨p, _, 0, .str w0, rfl, rfl, SqL.of e1, atI_nat (j := 0) rfl, _, rfl, rfl, ?_⟩
      have eb : startsB ls n kw = decide (V.str w0 = V.str kw) := by
        unfold startsB
        rw [hw]
        show decide (some w0 = some kw) = _
        by_cases e : w0 = kw
        · rw [e, decide_eq_true rfl, decide_eq_true rfl]
        · rw [decide_eq_false (fun z => e (Option.some.inj z)), decide_eq_false (fun z => e (str_inj z))]
      rw [eb] at q
      exact q _ (same_new hp)
    · refine dF (by rw [el]; omega) ?_
      have eb : startsB ls n kw = false := by
        unfold startsB
        rw [List.getElem?_eq_none (show _ ≤ _ by omega)]
      rw [eb] at q
      exact q _ (Same.refl H)
end
end Nv
/-! NvI: parse_task, parse_system. -/
namespace Nv
open PySem PySem.Spec PyProof.Rows L2
theorem kw_kw : kwKind ≠ kwWay := by decide +kernel
theorem kt_kk : kwTask ≠ kwKind := by decide +kernel
theorem kt_kw : kwTask ≠ kwWay := by decide +kernel
section
variable {ls post : List (List Str)} {n : Nat} {t : TD}
theorem at_drop (j : Nat) (h : ls.drop n = taskW t ++ post) : ls[n + j]? = (taskW t ++ post)[j]? := by
  rw [← h, List.getElem?_drop]
theorem at_head (h : ls.drop n = taskW t ++ post) : ls[n]? = some (headW t.name) := at_drop 0 h
theorem at_body (j : Nat) (h : ls.drop n = taskW t ++ post) : ls[n + 1 + j]? = (t.kinds.map kindW ++ (t.ways.map wayW ++ post))[j]? := by
  rw [Nat.add_assoc, at_drop (1 + j) h, Nat.add_comm 1 j]
  show ((t.kinds.map kindW ++ t.ways.map wayW) ++ post)[j]? = _
  rw [List.append_assoc]
theorem at_kind {i : Nat} {k : KD} (h : ls.drop n = taskW t ++ post) (hk : t.kinds[i]? = some k) : ls[n + 1 + i]? = some (kindW k) := by
  rw [at_body i h, List.getElem?_append_left (by rw [List.length_map]; exact len_lt hk), List.getElem?_map, hk] <;> rfl
theorem at_rest (j : Nat) (h : ls.drop n = taskW t ++ post) : ls[n + 1 + t.kinds.length + j]? = (t.ways.map wayW ++ post)[j]? := by
  rw [Nat.add_assoc, at_body (t.kinds.length + j) h, List.getElem?_append_right (by rw [List.length_map]; omega), List.length_map, Nat.add_sub_cancel_left]
theorem at_way {j : Nat} {x : WD} (h : ls.drop n = taskW t ++ post) (hx : t.ways[j]? = some x) : ls[n + 1 + t.kinds.length + j]? = some (wayW x) := by
  rw [at_rest j h, List.getElem?_append_left (by rw [List.length_map]; exact len_lt hx), List.getElem?_map, hx] <;> rfl
theorem at_post (h : ls.drop n = taskW t ++ post) : ls[n + 1 + t.kinds.length + t.ways.length]? = post.head? := by
  rw [at_rest _ h, List.getElem?_append_right (by rw [List.length_map]; omega), List.length_map, Nat.sub_self, List.head?_eq_getElem?]
theorem starts_kind {i : Nat} {k : KD} (h : ls.drop n = taskW t ++ post) (hk : t.kinds[i]? = some k) : startsB ls (n + 1 + i) kwKind = true := by
  unfold startsB
  rw [at_kind h hk]
  exact decide_eq_true rfl
theorem starts_way {j : Nat} {x : WD} (h : ls.drop n = taskW t ++ post) (hx : t.ways[j]? = some x) : startsB ls (n + 1 + t.kinds.length + j) kwWay = true := by
  unfold startsB
  rw [at_way h hx]
  exact decide_eq_true rfl
theorem starts_kend (h : ls.drop n = taskW t ++ post) (hp : ∀ ws, post.head? = some ws → ws.head? ≠ some kwKind ∧ ws.head? ≠ some kwWay) : startsB ls (n + 1 + t.kinds.length) kwKind = false := by
  unfold startsB
  have e := at_rest 0 h
  rw [Nat.add_zero] at e
  rw [e]
  cases hw : t.ways with
  | nil =>
    cases post with
    | nil => rfl
    | cons ws r => exact decide_eq_false (hp ws rfl).1
  | cons x r => exact decide_eq_false fun z => kw_kw (Option.some.inj z).symm
theorem starts_wend (h : ls.drop n = taskW t ++ post) (hp : ∀ ws, post.head? = some ws → ws.head? ≠ some kwKind ∧ ws.head? ≠ some kwWay) : startsB ls (n + 1 + t.kinds.length + t.ways.length) kwWay = false := by
  unfold startsB
  rw [at_post h]
  cases post with
  | nil => rfl
  | cons ws r => exact decide_eq_false (hp ws rfl).2
end
section
variable {P : Program} {w : World} {K : PySem.W.Frag} {mg : Str → Option Value} {base : Heap} {CT CS : Addr}
theorem ok_parseTask {f : Addr} {fd : FuncData} (F : Fun K "parse_task" "parse_task" sParseTask f fd) (T : Tx K mg CT CS) (D_is_name : Def P w K mg base 1 "is_name" pIsName spIsName)
    (D_parse_words : DefK P w K mg base 1 "parse_words" pParseWords 2 ["keyword", "many"] spParseWords) (D_starts : Def P w K mg base 1 "starts" pStarts spStarts)
    (D_parse_kind : Def P w K mg base 2 "parse_kind" pParseKind spParseKind) (D_parse_way : Def P w K mg base 2 "parse_way" pParseWay spParseWay)
    (D_Task : DefC P w K mg base 3 "Task" CT pTaskInit 1 ["kinds", "ways"] (spTaskInit CT)) : FnOk P w K mg base CX0 5 f fd pParseTask (spParseTask CT) := by
  refine F.ok scParseTask (fun vs H Q E h => ?_) (fun cdv A outer s H vs Q E hr h => ?_)
  · obtain ⟨a, b, n, ls, post, tv, ts, t, rfl, _⟩ := h
    rfl
  · obtain ⟨a, b, n, ls, post, tv, ts, t, rfl, hA, lok, hB, al, ok, hn, l6, hd, hpost, q⟩ := h
    refine ⟨_, (pss_cons (ps_set (i := 3) scParseTask.nd rfl (Or.inl rfl) (pe_ix ix_list (pe_defK D_parse_words (hr.mono (by decide)) (pa_cons (pe_ix ix_list (pv 0) (pv 1) (fun _ _ => rfl)) (pa_cons (pe_op op_add (pv 1) pe_int) pa_nil)) (pk_cons pe_str (pk_cons pe_int pk_nil))) pe_int (fun _ _ => rfl)))
      (pss_cons (ps_if (PW.pt (pw_or (pt_not (pt_val (pe_def D_is_name (hr.mono (by decide)) (pa_cons (pv 3) pa_nil)))) (pw_or (pt_cmpR op_in_seq (pv 3) (pe_lc (own := [("task", 6)]) (g := gName 6) (tt := tYes) rfl scParseTask.nd (pi_list (pv 2)) (blkOk_by (own := [("task", 6)]) (N := nParseTask) (sc := defScope sParseTask) (by decide +kernel)) (fun _ _ _ _ _ => pg_name (i := 6) scParseTask.nd rfl (Or.inl rfl)) (fun _ _ _ _ _ => pts_nil) (fun _ _ _ _ _ => (pe_fldK K (pv 6) rfl))) rfl) (pw_or1 (pt_cmpR op_eq (pe_callB call_len_seq (by rfl) T.len PySem.boot_len (pa_cons (pv 2) pa_nil)) (pe_gi T.cTasks) (nomark _))))))
        pss_never
        pss_nil)
      (pss_cons (ps_aug (i := 1) scParseTask.nd rfl (Or.inl rfl) pe_int ip_add)
      (pss_cons (ps_set (i := 4) scParseTask.nd rfl (Or.inl rfl) (pe_lst pa_nil))
      (pss_cons (ps_while PassesOwn.never (pt_val (pe_def D_starts (hr.mono (by decide)) (pa_cons (pv 0) (pa_cons (pv 1) (pa_cons pe_str pa_nil)))))
        (pss_cons (ps_expr (pe_bm PySem.F.plainAttrs_list PySem.F.slot_list_append PySem.F.type_list_append mt_append (pv 4) (pa_cons (pe_def D_parse_kind (hr.mono (by decide)) (pa_cons (pe_ix ix_list (pv 0) (pv 1) (fun _ _ => rfl)) (pa_cons (pe_op op_add (pv 1) pe_int) (pa_cons (pv 4) pa_nil)))) pa_nil)))
        (pss_one (ps_aug (i := 1) scParseTask.nd rfl (Or.inl rfl) pe_int ip_add))))
      (pss_cons (ps_if (pt_cmpR op_eq (pe_callB call_len_seq (by rfl) T.len PySem.boot_len (pa_cons (pv 4) pa_nil)) pe_int (nomark _))
        pss_never
        pss_nil)
      (pss_cons (ps_set (i := 5) scParseTask.nd rfl (Or.inl rfl) (pe_lst pa_nil))
      (pss_cons (ps_while PassesOwn.never (pt_val (pe_def D_starts (hr.mono (by decide)) (pa_cons (pv 0) (pa_cons (pv 1) (pa_cons pe_str pa_nil)))))
        (pss_cons (ps_expr (pe_bm PySem.F.plainAttrs_list PySem.F.slot_list_append PySem.F.type_list_append mt_append (pv 5) (pa_cons (pe_def D_parse_way (hr.mono (by decide)) (pa_cons (pe_ix ix_list (pv 0) (pv 1) (fun _ _ => rfl)) (pa_cons (pe_op op_add (pv 1) pe_int) (pa_cons (pv 4) (pa_cons (pv 5) pa_nil))))) pa_nil)))
        (pss_one (ps_aug (i := 1) scParseTask.nd rfl (Or.inl rfl) pe_int ip_add))))
      (pss_one (ps_ret (pe_tup (pa_cons (pe_defC D_Task (hr.mono (by decide)) (pa_cons (pv 3) pa_nil) (pk_cons (pv 4) (pk_cons (pv 5) pk_nil))) (pa_cons (pv 1) pa_nil))))))))))))), ?_⟩
    have el : tv.length = ts.length := al.1
    have k1 := ok.k1
    have k8 := ok.k8
    have w16 := ok.w16
    refine ⟨_, rfl, _, rfl, a, _, _, lineV (headW t.name), rfl, rfl, SqL.of hA, atI_nat (by rw [List.getElem?_map, at_head hd]; rfl), _, rfl, _, _, rfl, rfl, rfl, rfl, kwTask, [t.name], _, rfl, head_line ok.nm, fun H1 p s1 hp e1 => ?_⟩
    refine ⟨p, _, 0, .str t.name, rfl, rfl, SqL.of e1, atI_nat (j := 0) rfl, ?_⟩
    refine ⟨_, rfl, t.name, rfl, ok.nm, fun H2 s2 => ⟨true, rfl, ?_⟩⟩
    have s02 := s1.trans s2
    refine ⟨_, rfl, _, rfl, b, rfl, ⟨_, SqL.of (s02 _ _ hB)⟩, fun D hD => lc_list (K := K) (a := b) (xs := tv) (fun i H' => Same H2 H' ∧ H' D = some (.lst (((ts.take i).map (·.name)).map V.str))) ⟨same_new hD, upd_same⟩ (fun i H' _ ⟨s3, _⟩ => SqL.of (s3 _ _ (s02 _ _ hB))) ?_ ?_⟩
    · rintro i x H3 hi ⟨s3, e3⟩
      obtain ⟨y, hy, ya⟩ := al.get hi
      have hil := len_lt hy
      obtain ⟨r, d, ka, wa, ks, ws, rfl, hr1, _⟩ := ya
      refine ⟨rfl, _, rfl, r, CT, d, _, _, rfl, s3 _ _ (s02 _ _ hr1), T.ct, T.na, tf_name _ _ _, _, e3, ?_, s3.put hD, ?_⟩
      · rw [List.length_map, List.length_map, List.length_take]
        exact small16 (by omega)
      · rw [upd_same, take_map_succ _ hy, List.map_append] <;> rfl
    · rintro H3 ⟨s3, e3⟩
      rw [el, List.take_length] at e3
      have s03 := s02.trans s3
      refine ⟨D, _, rfl, .inl (SqL.of e3), rfl, flat_strs _, _, rfl, bF ?_ ?_⟩
      · rw [if_neg Bool.false_ne_true, inV_str]
        exact decide_eq_false hn
      refine ⟨.ref b, rfl, b, tv, rfl, .inl (SqL.of (s03 _ _ hB)), rfl, _, rfl, dF (fun z => by have := V.int.inj z; omega) ?_⟩
      refine ⟨_, rfl, _, _, rfl, rfl, Nat.zero_le _, fun l hl => ?_⟩
      have hl0 := s03.free hl
      -- the kinds
      refine ⟨fun m σ H' => ∃ i, i ≤ t.kinds.length ∧ m = t.kinds.length - i ∧ σ = [some (.ref a), some (.int ((n + 1 + i : Nat) : Int)), some (.ref b), some (.str t.name), some (.ref l), none, none] ∧ Same H H' ∧ ∃ acc, H' l = some (.lst acc) ∧ Al (KT H') acc (t.kinds.take i),
        ⟨_, 0, Nat.zero_le _, rfl, rfl, s03.add hl, [], upd_same, Al.nil⟩, ?_⟩
      rintro m σ H4 ⟨i, hi, rfl, rfl, s4, acc, e4, al4⟩
      refine ⟨_, rfl, _, rfl, a, n + 1 + i, kwKind, ls, rfl, s4 _ _ hA, lok, fun H5 s5 => ⟨_, rfl, ?_⟩⟩
      have s05 := s4.trans s5
      have e5 := s5 _ _ e4
      have al5 := kts_keep s5.keep al4
      by_cases hlt : i < t.kinds.length
      · have hk : t.kinds[i]? = some t.kinds[i] := List.getElem?_eq_getElem hlt
        generalize t.kinds[i] = k at hk
        have ko := ok.ko k (List.mem_of_getElem? hk)
        have la : acc.length = i := by
          rw [al4.1, List.length_take]
          omega
        refine bT (starts_kind hd hk) ⟨fun σ' H' => σ' = [some (.ref a), some (.int ((n + 1 + (i + 1) : Nat) : Int)), some (.ref b), some (.str t.name), some (.ref l), none, none] ∧ Same H H' ∧ ∃ acc, H' l = some (.lst acc) ∧ Al (KT H') acc (t.kinds.take (i + 1)),
          fun σ' H' ⟨z1, z2, z3⟩ => ⟨t.kinds.length - (i + 1), by omega, i + 1, hlt, rfl, z1, z2, z3⟩, ?_⟩
        refine ⟨_, rfl, .inl ⟨rfl, _, SqL.of e5⟩, _, rfl, _, rfl, a, _, _, lineV (kindW k), rfl, rfl, SqL.of (s05 _ _ hA), atI_nat (by rw [List.getElem?_map, at_kind hd hk]; rfl), _, rfl, _, _, rfl, rfl, _, rfl, k, _, l, acc, t.kinds.take i, rfl, e5, al5, ko, ?_, ?_, fun H6 v s6 kt => ?_⟩
        · rw [List.map_take]
          exact nd_notMem ok.kn (by rw [List.getElem?_map, hk]; rfl)
        · rw [List.length_take]
          omega
        · have e6 := s6 _ _ e5
          refine ⟨l, _, _, rfl, rfl, e6, small16 (by omega), _, rfl, _, _, rfl, rfl, rfl, (s05.trans s6).put hl0, _, upd_same, ?_⟩
          exact Al.more (kts_keep (s6.keep.trans (keep_lst e6)) al5) hk (kt.keep (keep_lst e6))
      · have hie : i = t.kinds.length := by omega
        subst hie
        refine bF (starts_kend hd hpost) ?_
        rw [List.take_length] at al5
        have la : acc.length = t.kinds.length := al5.1
        refine ⟨.ref l, rfl, l, acc, rfl, .inl (SqL.of e5), rfl, _, rfl, dF (fun z => by have := V.int.inj z; omega) ?_⟩
        refine ⟨Nat.zero_le _, fun l2 hl2 => ?_⟩
        have hl20 := s05.free hl2
        -- the ways
        refine ⟨fun m σ H' => ∃ j, j ≤ t.ways.length ∧ m = t.ways.length - j ∧ σ = [some (.ref a), some (.int ((n + 1 + t.kinds.length + j : Nat) : Int)), some (.ref b), some (.str t.name), some (.ref l), some (.ref l2), none] ∧ Same H5 H' ∧ ∃ acc2, H' l2 = some (.lst acc2) ∧ Al (WT H') acc2 (t.ways.take j),
          ⟨_, 0, Nat.zero_le _, rfl, rfl, same_new hl2, [], upd_same, Al.nil⟩, ?_⟩
        rintro m σ H6 ⟨j, hj, rfl, rfl, s6, acc2, e6, al6⟩
        refine ⟨_, rfl, _, rfl, a, n + 1 + t.kinds.length + j, kwWay, ls, rfl, s6 _ _ (s05 _ _ hA), lok, fun H7 s7 => ⟨_, rfl, ?_⟩⟩
        have s57 := s6.trans s7
        have s07 := s05.trans s57
        have e7 := s7 _ _ e6
        have al7 := wts_keep s7.keep al6
        by_cases hjt : j < t.ways.length
        · have hx : t.ways[j]? = some t.ways[j] := List.getElem?_eq_getElem hjt
          generalize t.ways[j] = x at hx
          have hxm := List.mem_of_getElem? hx
          have xo := ok.wo x hxm
          have la2 : acc2.length = j := by
            rw [al6.1, List.length_take]
            omega
          refine bT (starts_way hd hx) ⟨fun σ' H' => σ' = [some (.ref a), some (.int ((n + 1 + t.kinds.length + (j + 1) : Nat) : Int)), some (.ref b), some (.str t.name), some (.ref l), some (.ref l2), none] ∧ Same H5 H' ∧ ∃ acc2, H' l2 = some (.lst acc2) ∧ Al (WT H') acc2 (t.ways.take (j + 1)),
            fun σ' H' ⟨z1, z2, z3⟩ => ⟨t.ways.length - (j + 1), by omega, j + 1, hjt, rfl, z1, z2, z3⟩, ?_⟩
          refine ⟨_, rfl, .inl ⟨rfl, _, SqL.of e7⟩, _, rfl, _, rfl, a, _, _, lineV (wayW x), rfl, rfl, SqL.of (s07 _ _ hA), atI_nat (by rw [List.getElem?_map, at_way hd hx]; rfl), _, rfl, _, _, rfl, rfl, _, rfl, _, rfl, x, _, l, l2, acc, acc2, t.kinds, rfl, s57 _ _ e5, kts_keep s57.keep al5, k8, e7, by omega, ok.wline hxm, xo, fun H8 v s8 kt => ?_⟩
          have e8 := s8 _ _ e7
          refine ⟨l2, _, _, rfl, rfl, e8, small16 (by omega), _, rfl, _, _, rfl, rfl, rfl, (s57.trans s8).put hl2, _, upd_same, ?_⟩
          exact Al.more (wts_keep (s8.keep.trans (keep_lst e8)) al7) hx (kt.keep (keep_lst e8))
        · have hje : j = t.ways.length := by omega
          subst hje
          refine bF (starts_wend hd hpost) ?_
          rw [List.take_length] at al7
          -- Task(name, kinds=kinds, ways=ways), at
          refine ⟨_, rfl, _, rfl, _, rfl, rfl, rfl, fun x dx hx hdx hne => ?_⟩
          have sm : Same H7 (upd (upd H7 dx (.own x)) x (.ins CT dx [])) := fun c u e => by
            rw [upd_ne (ne_of_none e hx), upd_ne (ne_of_none e hdx)]
            exact e
          refine ⟨x, dx, l, l2, acc, acc2, t, rfl, upd_same, sm _ _ (s57 _ _ e5), sm _ _ e7, kts_keep (s57.trans sm).keep al5, wts_keep sm.keep al7, ok, fun H9 off ta => ⟨rfl, ?_⟩⟩
          have s9 : Same H7 H9 := Same.made hx hdx off
          refine ⟨_, rfl, (by show 2 ≤ sizeLine; decide), fun r hr2 => ?_⟩
          have en : n + (taskW t).length = n + 1 + t.kinds.length + t.ways.length := by
            rw [taskW_len]
            omega
          rw [en] at q
          exact q _ _ r ((s07.trans s9).add hr2) (ta.keep (keep_new hr2)) upd_same
end
end Nv
/-! NvJ: parse_system. -/
namespace Nv
open PySem PySem.Spec PyProof.Rows L2
theorem blocks_split (ts : List TD) (i : Nat) : blocks ts = blocks (ts.take i) ++ blocks (ts.drop i) := by
  unfold blocks
  rw [← List.flatten_append, ← List.map_append, List.take_append_drop]
theorem drop_sys {ts : List TD} {tb : List Int} {i : Nat} {t : TD} (h : ts[i]? = some t) : (sysW ts tb).drop (1 + (blocks (ts.take i)).length) = taskW t ++ blocks (ts.drop (i + 1)) := by
  have hi := len_lt h
  have e : ts.drop i = t :: ts.drop (i + 1) := by
    rw [List.drop_eq_getElem_cons hi]
    rw [List.getElem?_eq_getElem hi] at h
    rw [Option.some.inj h]
  unfold sysW
  rw [Nat.add_comm, List.drop_succ_cons, blocks_split ts i, List.drop_left, e] <;> rfl
theorem blocks_head {ts : List TD} : ∀ ws, (blocks ts).head? = some ws → ws.head? ≠ some kwKind ∧ ws.head? ≠ some kwWay := fun ws h => by
  cases ts with
  | nil => cases h
  | cons t r =>
    have e : ws = headW t.name := (Option.some.inj h).symm
    subst e
    exact ⟨fun z => kt_kk (Option.some.inj z), fun z => kt_kw (Option.some.inj z)⟩
section
variable {P : Program} {w : World} {K : PySem.W.Frag} {mg : Str → Option Value} {base : Heap} {CT CS : Addr}
theorem ok_parseSystem {f : Addr} {fd : FuncData} (F : Fun K "parse_system" "parse_system" sParseSystem f fd) (T : Tx K mg CT CS)
    (D_parse_table : Def P w K mg base 2 "parse_table" pParseTable spParseTable) (D_parse_task : Def P w K mg base 5 "parse_task" pParseTask (spParseTask CT))
    (D_System : DefC P w K mg base 2 "System" CS pSystemInit 1 ["table"] (spSystemInit CS CT)) : FnOk P w K mg base CX0 6 f fd pParseSystem (spParseSystem CS CT) := by
  refine F.ok scParseSystem (fun vs H Q E h => ?_) (fun cdv A outer s H vs Q E hr h => ?_)
  · obtain ⟨ts, tb, rfl, _⟩ := h
    rfl
  · obtain ⟨ts, tb, rfl, ok, q⟩ := h
    refine ⟨_, (pss_cons (ps_set (i := 1) scParseSystem.nd rfl (Or.inl rfl) (pe_split (pv 0) pe_str))
      (pss_cons (ps_set (i := 2) scParseSystem.nd rfl (Or.inl rfl) (pe_def D_parse_table (hr.mono (by decide)) (pa_cons (pe_ix ix_list (pv 1) pe_int (fun _ _ => rfl)) pa_nil)))
      (pss_cons (ps_set (i := 3) scParseSystem.nd rfl (Or.inl rfl) (pe_lst pa_nil))
      (pss_cons (ps_set (i := 4) scParseSystem.nd rfl (Or.inl rfl) pe_int)
      (pss_cons (ps_while PassesOwn.never (pt_cmpR op_lt (pv 4) (pe_callB call_len_seq (by rfl) T.len PySem.boot_len (pa_cons (pv 1) pa_nil)) (nomark _))
        (pss_cons (ps_asg (pe_def D_parse_task (hr.mono (by decide)) (pa_cons (pv 1) (pa_cons (pv 4) (pa_cons (pv 3) pa_nil)))) (pg_tup rfl (pgs_cons (pg_name (i := 5) scParseSystem.nd rfl (Or.inl rfl)) (pgs_cons (pg_name (i := 4) scParseSystem.nd rfl (Or.inl rfl)) pgs_nil))))
        (pss_one (ps_expr (pe_bm PySem.F.plainAttrs_list PySem.F.slot_list_append PySem.F.type_list_append mt_append (pv 3) (pa_cons (pv 5) pa_nil))))))
      (pss_one (ps_ret (pe_defC D_System (hr.mono (by decide)) (pa_cons (pv 3) pa_nil) (pk_cons (pv 2) pk_nil))))))))), ?_⟩
    have tok := ok.text
    have tlen := text_len tok
    have t6 := ok.t6
    refine ⟨_, rfl, ⟨_, rfl⟩, _, _, rfl, rfl, nl_ne, fits2 (by omega), fun L hL => ?_⟩
    have e1 : (upd H L (.lst ((Txt.split (textOf (sysW ts tb)) (Str.ofString "\n")).map V.str))) L = some (.lst ((sysW ts tb).map lineV)) := by
      rw [upd_same, show Txt.split (textOf (sysW ts tb)) (Str.ofString "\n") = (sysW ts tb).map lineOf from split_text tok, lines_strs]
    have s1 : Same H (upd H L (.lst ((Txt.split (textOf (sysW ts tb)) (Str.ofString "\n")).map V.str))) := same_new hL
    generalize hH1 : upd H L (.lst ((Txt.split (textOf (sysW ts tb)) (Str.ofString "\n")).map V.str)) = H1 at e1 s1 ⊢
    refine ⟨_, rfl, L, _, 0, lineV (tableW tb), rfl, rfl, SqL.of e1, atI_nat (j := 0) rfl, tb, rfl, ok.b1, ok.b2, ok.bo, fun H2 r s2 hr2 e2 => ?_⟩
    have eL2 := s2 _ _ e1
    refine ⟨Nat.zero_le _, fun l hl => ?_⟩
    have ell : ((sysW ts tb).map lineV).length = 1 + (blocks ts).length := by
      rw [List.length_map]
      unfold sysW
      rw [List.length_cons]
      omega
    refine ⟨fun m σ H' => ∃ i, i ≤ ts.length ∧ m = ts.length - i ∧ ∃ o5, σ = [some (.str (textOf (sysW ts tb))), some (.ref L), some (.ref r), some (.ref l), some (.int ((1 + (blocks (ts.take i)).length : Nat) : Int)), o5] ∧ Same H2 H' ∧ ∃ acc, H' l = some (.lst acc) ∧ Al (TaskAt CT H') acc (ts.take i),
      ⟨_, 0, Nat.zero_le _, rfl, none, rfl, same_new hl, [], upd_same, Al.nil⟩, ?_⟩
    rintro m σ H3 ⟨i, hi, rfl, o5, rfl, s3, acc, e3, al3⟩
    refine ⟨_, rfl, .ref L, rfl, L, _, rfl, .inl (SqL.of (s3 _ _ eL2)), _, _, rfl, rfl, _, rfl, ?_⟩
    by_cases hlt : i < ts.length
    · have ht : ts[i]? = some ts[i] := List.getElem?_eq_getElem hlt
      generalize ts[i] = t at ht
      have htm := List.mem_of_getElem? ht
      have la : acc.length = i := by
        rw [al3.1, List.length_take]
        omega
      have hbl : (blocks ts).length = (blocks (ts.take i)).length + (taskW t).length + (blocks (ts.drop (i + 1))).length := by
        rw [blocks_split ts (i + 1), List.length_append, blocks_snoc ht, List.length_append]
      have htw : 1 ≤ (taskW t).length := by
        rw [taskW_len]
        omega
      refine dT (by rw [ell]; omega) ⟨fun σ' H' => ∃ o5, σ' = [some (.str (textOf (sysW ts tb))), some (.ref L), some (.ref r), some (.ref l), some (.int ((1 + (blocks (ts.take (i + 1))).length : Nat) : Int)), o5] ∧ Same H2 H' ∧ ∃ acc, H' l = some (.lst acc) ∧ Al (TaskAt CT H') acc (ts.take (i + 1)),
        fun σ' H' ⟨z1, z2⟩ => ⟨ts.length - (i + 1), by omega, i + 1, hlt, rfl, z1, z2⟩, ?_⟩
      refine ⟨_, rfl, _, rfl, _, rfl, L, l, 1 + (blocks (ts.take i)).length, sysW ts tb, blocks (ts.drop (i + 1)), acc, ts.take i, t, rfl, s3 _ _ eL2, tok.lo, e3, al3, ok.to t htm, ?_, ?_, drop_sys ht, blocks_head, fun H4 v p s4 ta e4 => ?_⟩
      · rw [List.map_take]
        exact nd_notMem ok.tn (by rw [List.getElem?_map, ht]; rfl)
      · rw [List.length_take]
        omega
      · have e5 := s4 _ _ e3
        refine ⟨p, _, rfl, SqT.of e4, rfl, _, _, rfl, _, _, rfl, rfl, ?_⟩
        refine ⟨_, rfl, .inl ⟨rfl, _, SqL.of e5⟩, _, rfl, l, _, _, rfl, rfl, e5, small16 (by omega), some v, ?_, (s3.trans s4).put hl, _, upd_same, ?_⟩
        · rw [blocks_snoc ht, List.length_append, ← Nat.add_assoc] <;> rfl
        · exact Al.more (tasks_keep (s4.keep.trans (keep_lst e5)) al3) ht (ta.keep (keep_lst e5))
    · have hie : i = ts.length := by omega
      subst hie
      rw [List.take_length] at al3 ⊢
      refine dF (by rw [ell]; omega) ?_
      refine ⟨_, rfl, _, rfl, rfl, rfl, fun x dx hx hdx hne => ?_⟩
      have sm : Same H3 (upd (upd H3 dx (.own x)) x (.ins CS dx [])) := fun c u e => by
        rw [upd_ne (ne_of_none e hx), upd_ne (ne_of_none e hdx)]
        exact e
      refine ⟨x, dx, l, r, acc, ts, tb, rfl, upd_same, sm _ _ e3, tasks_keep sm.keep al3, sm _ _ (s3 _ _ e2), ok, fun H9 off sa => ⟨rfl, ?_⟩⟩
      have s9 : Same H3 H9 := Same.made hx hdx off
      exact q H9 _ (((s1.trans s2).trans s3).trans s9) sa
end
end Nv
/-! NvK: the law's own defs that draw numbers: _law_row, _law_numbers, _law_size. -/
namespace Nv
open PySem PySem.Spec PyProof.Rows L2
theorem cut_to (xs : List V) (k : Nat) : cutV xs none (some (k : Int)) = xs.take k := by
  unfold cutV
  rw [HT.sIx_none, HT.sIx_nat, List.drop_zero, Nat.sub_zero, ← List.take_eq_take_min]
theorem emod1009 (x : Int) : 0 ≤ x % 1009 ∧ x % 1009 < 1009 := ⟨Int.emod_nonneg _ (by decide), Int.emod_lt_of_pos _ (by decide)⟩
theorem snocI (ns : List Int) (x : Int) : ns.map V.int ++ [V.int x] = (ns ++ [x]).map V.int := by
  rw [List.map_append] <;> rfl
theorem rng_snoc {ns : List Int} {x : Int} (h : ∀ n ∈ ns, 0 ≤ n ∧ n < 1009) (hx : 0 ≤ x ∧ x < 1009) : ∀ n ∈ ns ++ [x], 0 ≤ n ∧ n < 1009 := fun n hn => by
  obtain z | z := List.mem_append.mp hn
  · exact h n z
  · cases List.mem_singleton.mp z
    exact hx
section
variable {P : Program} {w : World} {K : PySem.W.Frag} {mg : Str → Option Value} {base : Heap} {CT CS : Addr}
theorem ok_lawSize {f : Addr} {fd : FuncData} (F : Fun K "_law_size" "_law_size" sLawSize f fd) (T : Tx K mg CT CS) : FnOk P w K mg base CX0 1 f fd pLawSize spLawSize := by
  refine F.ok scLawSize (fun vs H Q E h => ?_) (fun cdv A outer s H vs Q E hr h => ?_)
  · obtain ⟨n, m, rfl, _⟩ := h
    rfl
  · obtain ⟨n, m, rfl, hm, q⟩ := h
    refine ⟨_, (pss_cons (ps_if (pt_cmpR op_eq (pe_op op_mod (pv 0) pe_int) pe_int (nomark _))
        (pss_one (ps_ret pe_int))
        pss_nil)
      (pss_cons (ps_if (pt_cmpR op_eq (pe_op op_mod (pv 0) pe_int) pe_int (nomark _))
        (pss_one (ps_ret (pv 1)))
        pss_nil)
      (pss_one (ps_ret (pe_op op_add pe_int (pe_op op_mod (pv 0) (pv 1))))))), ?_⟩
    have h1 := Int.emod_nonneg n (show m ≠ 0 by omega)
    have h2 := Int.emod_lt_of_pos n (show 0 < m by omega)
    refine ⟨_, rfl, n, 5, rfl, rfl, (by show (0 : Int) < 5; decide), rfl, _, rfl, ite2 (fun _ => ?_) (fun _ => ?_)⟩
    · exact q 1 (Int.le_refl _) hm
    refine ⟨_, rfl, n, 5, rfl, rfl, (by show (0 : Int) < 5; decide), rfl, _, rfl, ite2 (fun _ => ?_) (fun _ => ?_)⟩
    · exact ⟨_, rfl, q m hm (Int.le_refl _)⟩
    · exact ⟨_, rfl, _, rfl, n, m, rfl, rfl, by omega, 1, _, rfl, rfl, q _ (by omega) (by omega)⟩
theorem ok_lawRow {f : Addr} {fd : FuncData} (F : Fun K "_law_row" "_law_row" sLawRow f fd) (T : Tx K mg CT CS) : FnOk P w K mg base CX0 1 f fd pLawRow spLawRow := by
  refine F.ok scLawRow (fun vs H Q E h => ?_) (fun cdv A outer s H vs Q E hr h => ?_)
  · obtain ⟨c, m, rfl, _⟩ := h
    rfl
  · obtain ⟨c, m, rfl, hm, q⟩ := h
    refine ⟨_, (pss_cons (ps_set (i := 2) scLawRow.nd rfl (Or.inl rfl) (pe_lst pa_nil))
      (pss_cons (ps_set (i := 3) scLawRow.nd rfl (Or.inl rfl) (pe_callB call_abs (by rfl) T.abs (by decide +kernel) (pa_cons (pv 0) pa_nil)))
      (pss_cons (ps_for PassesOwn.never rfl (pi_range1 rfl T.range (pa_cons (pv 1) pa_nil)) (pg_name (i := 4) scLawRow.nd rfl (Or.inl rfl))
        (pss_one (ps_if (pt_cmpR op_ge (pe_callB call_abs (by rfl) T.abs (by decide +kernel) (pa_cons (pv 0) pa_nil)) (pe_op op_pow pe_int pe_int) (nomark _))
          (pss_cons (ps_expr (pe_bm PySem.F.plainAttrs_list PySem.F.slot_list_append PySem.F.type_list_append mt_append (pv 2) (pa_cons (pe_op op_mod (pv 3) pe_int) pa_nil)))
          (pss_one (ps_set (i := 3) scLawRow.nd rfl (Or.inl rfl) (pe_op op_fdiv (pv 3) pe_int))))
          (pss_cons (ps_set (i := 5) scLawRow.nd rfl (Or.inl rfl) (pe_op op_mod (pe_op op_add (pe_op op_mul (pv 3) pe_int) (pe_op op_mul (pe_op op_add (pv 4) pe_int) pe_int)) pe_int))
          (pss_cons (ps_set (i := 5) scLawRow.nd rfl (Or.inl rfl) (pe_op op_mod (pe_op op_add (pe_op op_mul (pv 5) pe_int) (pe_op op_mul pe_int (pe_op op_add (pv 4) pe_int))) pe_int))
          (pss_one (ps_expr (pe_bm PySem.F.plainAttrs_list PySem.F.slot_list_append PySem.F.type_list_append mt_append (pv 2) (pa_cons (pe_op op_mod (pv 5) pe_int) pa_nil)))))))))
      (pss_one (ps_ret (pv 2)))))), ?_⟩
    refine ⟨Nat.zero_le _, fun l hl => ?_⟩
    refine ⟨_, rfl, c, rfl, ?_⟩
    refine ⟨_, rfl, (m : Int), rfl, by omega, by omega, for_it walk_range (fun i σ H' => ∃ (r : Int) (o4 o5 : Option V) (ns : List Int), σ = [some (.int c), some (.int m), some (.ref l), some (.int r), o4, o5] ∧ Same H H' ∧ H' l = some (.lst (ns.map V.int)) ∧ ns.length = i ∧ ∀ n ∈ ns, 0 ≤ n ∧ n < 1009)
      ⟨_, none, none, [], rfl, same_new hl, upd_same, rfl, fun n hn => by cases hn⟩ (fun _ _ _ _ _ => trivial) ?_ ?_⟩
    · rintro i x σ H1 H2 hi ⟨r, o4, o5, ns, rfl, s1, e1, en, hn⟩ ⟨rfl, rfl⟩
      have hi' : i < m := by omega
      refine ⟨_, rfl, c, rfl, 10, 18, rfl, rfl, ⟨by decide, by decide, by decide⟩, _, _, rfl, rfl, _, rfl, ite2 (fun _ => ?_) (fun _ => ?_)⟩
      · refine ⟨_, rfl, .inl ⟨rfl, _, SqL.of e1⟩, _, rfl, r, 1009, rfl, rfl, (by show (0 : Int) < 1009; decide), l, _, _, rfl, rfl, e1, ?_, ?_⟩
        · rw [List.length_map]
          exact small1000 (by omega)
        · exact ⟨_, rfl, r, 1009, rfl, rfl, ⟨by decide, by decide⟩, _, _, _, ns ++ [r % 1009], rfl, s1.put hl, by rw [upd_same, ← snocI], by rw [List.length_append, en]; rfl, rng_snoc hn (emod1009 r)⟩
      · refine ⟨_, rfl, r, 48271, rfl, rfl, .inr ⟨by decide, by decide⟩, _, rfl, _, 1, rfl, rfl, _, 69621, rfl, rfl, .inr ⟨by decide, by decide⟩, _, _, rfl, rfl, _, 2147483647, rfl, rfl, (by show (0 : Int) < 2147483647; decide), ?_⟩
        refine ⟨_, rfl, _, 16807, rfl, rfl, .inr ⟨by decide, by decide⟩, _, rfl, _, 3, rfl, rfl, 271, _, rfl, rfl, .inl ⟨by decide, by decide⟩, _, _, rfl, rfl, _, 2147483629, rfl, rfl, (by show (0 : Int) < 2147483629; decide), ?_⟩
        refine ⟨_, rfl, .inl ⟨rfl, _, SqL.of e1⟩, _, rfl, _, 1009, rfl, rfl, (by show (0 : Int) < 1009; decide), l, _, _, rfl, rfl, e1, ?_, ?_⟩
        · rw [List.length_map]
          exact small1000 (by omega)
        · exact ⟨_, _, _, ns ++ [_ % 1009], rfl, s1.put hl, by rw [upd_same, ← snocI], by rw [List.length_append, en]; rfl, rng_snoc hn (emod1009 _)⟩
    · rintro σ H1 ⟨r, o4, o5, ns, rfl, s1, e1, en, hn⟩
      exact ⟨_, rfl, q H1 l ns s1 hl e1 (by omega) hn⟩
theorem each_small {L : Nat} : ∃ m : Nat, (1 : Int) + 190 / (if (L : Int) > 1 then (L : Int) else 1) = (m : Int) ∧ m ≤ 1000 := by
  have hM : 0 < (if (L : Int) > 1 then (L : Int) else 1) := by split <;> omega
  generalize (if (L : Int) > 1 then (L : Int) else 1) = M at hM
  have h1 := Int.ediv_nonneg (show (0 : Int) ≤ 190 by decide) (Int.le_of_lt hM)
  have h2 : (190 : Int) / M ≤ 190 := Int.ediv_le_self M (by decide)
  exact ⟨(1 + 190 / M).toNat, by omega, by omega⟩
theorem ok_lawNumbers {f : Addr} {fd : FuncData} (F : Fun K "_law_numbers" "_law_numbers" sLawNumbers f fd) (T : Tx K mg CT CS) (D__law_row : Def P w K mg base 1 "_law_row" pLawRow spLawRow) : FnOk P w K mg base CX0 2 f fd pLawNumbers (spLawNumbers K) := by
  refine F.ok scLawNumbers (fun vs H Q E h => ?_) (fun cdv A outer s H vs Q E hr h => ?_)
  · obtain ⟨a, xs, rfl, _⟩ := h
    rfl
  · obtain ⟨a, xs, rfl, hS, l63, q⟩ := h
    refine ⟨_, (pss_cons (ps_set (i := 2) scLawNumbers.nd rfl (Or.inl rfl) (pe_slice sl_list (pv 0) po_none (po_some pe_int)))
      (pss_cons (ps_set (i := 3) scLawNumbers.nd rfl (Or.inl rfl) (pe_op op_add pe_int (pe_op op_fdiv (pv 1) (pe_callB (call_max2 rfl) (by rfl) T.max (by decide +kernel) (pa_cons pe_int (pa_cons (pe_callB call_len_seq (by rfl) T.len PySem.boot_len (pa_cons (pv 2) pa_nil)) pa_nil))))))
      (pss_cons (ps_set (i := 4) scLawNumbers.nd rfl (Or.inl rfl) (pe_lst pa_nil))
      (pss_cons (ps_for PassesOwn.never rfl (pi_list (pv 2)) (pg_name (i := 5) scLawNumbers.nd rfl (Or.inl rfl))
        (pss_one (ps_for PassesOwn.never rfl (pi_list (pe_def D__law_row (hr.mono (by decide)) (pa_cons (pv 5) (pa_cons (pv 3) pa_nil)))) (pg_name (i := 6) scLawNumbers.nd rfl (Or.inl rfl))
          (pss_one (ps_expr (pe_bm PySem.F.plainAttrs_list PySem.F.slot_list_append PySem.F.type_list_append mt_append (pv 4) (pa_cons (pv 6) pa_nil)))))))
      (pss_cons (ps_while PassesOwn.never (pt_cmpR op_lt (pe_callB call_len_seq (by rfl) T.len PySem.boot_len (pa_cons (pv 4) pa_nil)) (pv 1) (nomark _))
        (pss_one (ps_expr (pe_bm PySem.F.plainAttrs_list PySem.F.slot_list_append PySem.F.type_list_append mt_append (pv 4) (pa_cons pe_int pa_nil)))))
      (pss_one (ps_ret (pe_slice sl_list (pv 4) po_none (po_some (pv 1)))))))))), ?_⟩
    refine ⟨_, rfl, 63, rfl, a, _, rfl, hS, fun c hc => ?_⟩
    have ec : (upd H c (.lst (cutV (xs.map V.int) none (some 63)))) c = some (.lst ((xs.take 63).map V.int)) := by
      rw [upd_same, show cutV (xs.map V.int) none (some 63) = (xs.map V.int).take 63 from cut_to _ 63, List.map_take]
    have s1 : Same H (upd H c (.lst (cutV (xs.map V.int) none (some 63)))) := same_new hc
    generalize upd H c (.lst (cutV (xs.map V.int) none (some 63))) = H1 at ec s1 ⊢
    have ly : (xs.take 63).length ≤ 63 := by
      rw [List.length_take]
      omega
    generalize xs.take 63 = ys at ec ly ⊢
    have eyl : (ys.map V.int).length = ys.length := List.length_map ..
    have hM : 0 < (if (((ys.map V.int).length : Nat) : Int) > 1 then (((ys.map V.int).length : Nat) : Int) else 1) ∧ (if (((ys.map V.int).length : Nat) : Int) > 1 then (((ys.map V.int).length : Nat) : Int) else 1) < 1073741824 := by
      rw [eyl]
      split <;> omega
    refine ⟨_, rfl, .ref c, rfl, c, _, rfl, .inl (SqL.of ec), 1, _, rfl, 190, _, rfl, rfl, hM, 1, _, rfl, rfl, ?_⟩
    obtain ⟨m, hm, hm2⟩ := each_small (L := (ys.map V.int).length)
    refine ⟨Nat.zero_le _, fun l hl => ?_⟩
    refine ⟨_, rfl, c, rfl, ⟨_, SqL.of ((same_new hl) _ _ ec)⟩, for_list (K := K) (a := c) (xs := ys.map V.int) (fun i σ H' => ∃ (o5 o6 : Option V) (ns : List Int), σ = [some (.ref a), some (.int 190), some (.ref c), some (.int (1 + 190 / (if (((ys.map V.int).length : Nat) : Int) > 1 then (((ys.map V.int).length : Nat) : Int) else 1))), some (.ref l), o5, o6] ∧ Same H1 H' ∧ H' l = some (.lst (ns.map V.int)) ∧ ns.length ≤ i * 1000 ∧ ∀ n ∈ ns, 0 ≤ n ∧ n < 1009)
      ⟨none, none, [], rfl, same_new hl, upd_same, Nat.zero_le _, fun n hn => by cases hn⟩ (fun i σ H' _ ⟨_, _, _, _, s2, _⟩ => SqL.of (s2 _ _ ec)) ?_ ?_⟩
    · rintro i x σ H2 hi ⟨o5, o6, ns, rfl, s2, e2, nl, hn⟩
      rw [List.getElem?_map] at hi
      obtain ⟨z, hz, rfl⟩ := Option.map_eq_some_iff.mp hi
      have hil := len_lt hz
      refine ⟨_, rfl, _, rfl, z, m, by rw [hm]; rfl, hm2, fun H3 r ns2 s3 hr3 e3 len2 hn2 => ?_⟩
      have e23 := s3 _ _ e2
      have nrl : r ≠ l := (ne_of_none e2 hr3).symm
      refine ⟨r, rfl, ⟨_, SqL.of e3⟩, for_list (K := K) (a := r) (xs := ns2.map V.int) (fun j σ H' => ∃ (o6 : Option V), σ = [some (.ref a), some (.int 190), some (.ref c), some (.int (1 + 190 / (if (((ys.map V.int).length : Nat) : Int) > 1 then (((ys.map V.int).length : Nat) : Int) else 1))), some (.ref l), some (.int z), o6] ∧ Same H1 H' ∧ H' r = some (.lst (ns2.map V.int)) ∧ H' l = some (.lst ((ns ++ ns2.take j).map V.int)))
        ⟨o6, rfl, s2.trans s3, e3, by rw [List.take_zero, List.append_nil]; exact e23⟩ (fun j σ H' _ ⟨_, _, _, e4, _⟩ => SqL.of e4) ?_ ?_⟩
      · rintro j y σ H4 hj ⟨o6, rfl, s4, e4, e5⟩
        rw [List.getElem?_map] at hj
        obtain ⟨u, hu, rfl⟩ := Option.map_eq_some_iff.mp hj
        have hjl := len_lt hu
        refine ⟨_, rfl, .inl ⟨rfl, _, SqL.of e5⟩, _, rfl, l, _, _, rfl, rfl, e5, ?_, _, rfl, s4.put hl, ?_, ?_⟩
        · rw [List.length_map, List.length_append, List.length_take]
          exact Nat.lt_of_lt_of_le (show ns.length + min j ns2.length < 65000 by omega) (by rw [sizeLine_eq]; decide)
        · rw [upd_ne nrl]
          exact e4
        · rw [upd_same, snocI, List.append_assoc, List.take_add_one, hu] <;> rfl
      · rintro σ H4 ⟨o6, rfl, s4, e4, e5⟩
        rw [List.length_map, List.take_length] at e5
        refine ⟨_, _, ns ++ ns2, rfl, s4, e5, ?_, fun n hm' => ?_⟩
        · rw [List.length_append]
          omega
        · rcases List.mem_append.mp hm' with z' | z'
          · exact hn n z'
          · exact hn2 n z'
    · rintro σ H2 ⟨o5, o6, ns, rfl, s2, e2, nl, hn⟩
      rw [eyl] at nl
      refine ⟨fun m σ H' => ∃ (ns : List Int), m = 190 - ns.length ∧ σ = [some (.ref a), some (.int 190), some (.ref c), some (.int (1 + 190 / (if (((ys.map V.int).length : Nat) : Int) > 1 then (((ys.map V.int).length : Nat) : Int) else 1))), some (.ref l), o5, o6] ∧ Same H1 H' ∧ H' l = some (.lst (ns.map V.int)) ∧ ns.length ≤ 65000 ∧ ∀ n ∈ ns, 0 ≤ n ∧ n < 1009,
        ⟨_, ns, rfl, rfl, s2, e2, by omega, hn⟩, ?_⟩
      rintro m' σ H3 ⟨ns, rfl, rfl, s3, e3, nl3, hn3⟩
      have ell : (ns.map V.int).length = ns.length := List.length_map ..
      refine ⟨.ref l, rfl, l, _, rfl, .inl (SqL.of e3), _, rfl, _, 190, rfl, rfl, _, rfl, ?_⟩
      by_cases hlt : ns.length < 190
      · refine dT (by rw [ell]; omega) ⟨fun σ' H' => σ' = [some (.ref a), some (.int 190), some (.ref c), some (.int (1 + 190 / (if (((ys.map V.int).length : Nat) : Int) > 1 then (((ys.map V.int).length : Nat) : Int) else 1))), some (.ref l), o5, o6] ∧ Same H1 H' ∧ H' l = some (.lst ((ns ++ [0]).map V.int)), fun σ' H' ⟨z1, z2, z3⟩ => ⟨190 - (ns ++ [0]).length, (by rw [List.length_append]; show 190 - (ns.length + 1) < 190 - ns.length; omega), ns ++ [0], rfl, z1, z2, z3, (by rw [List.length_append]; show ns.length + 1 ≤ 65000; omega), rng_snoc hn3 ⟨by decide, by decide⟩⟩, ?_⟩
        refine ⟨_, rfl, .inl ⟨rfl, _, SqL.of e3⟩, l, _, _, rfl, rfl, e3, ?_, rfl, s3.put hl, by rw [upd_same, ← snocI]⟩
        rw [ell]
        exact small1000 (by omega)
      · refine dF (by rw [ell]; omega) ?_
        refine ⟨_, rfl, _, rfl, 190, rfl, l, _, rfl, SqL.of e3, fun p hp => ?_⟩
        refine q _ p (ns.take 190) ((s1.trans s3).add hp) ((s1.trans s3).free hp) ⟨?_, ?_, fun n hm' => (hn3 n (List.mem_of_mem_take hm')).1, fun n hm' => (hn3 n (List.mem_of_mem_take hm')).2⟩
        · rw [upd_same, show cutV (ns.map V.int) none (some 190) = (ns.map V.int).take 190 from cut_to _ 190, List.map_take]
        · rw [List.length_take]
          omega
end
end Nv
/-! NvL: _law_names. -/
namespace Nv
open PySem PySem.Spec PyProof.Rows L2
/-! ### names that differ in one sign -/
def ch36 (i : Nat) : Nat := charsL.getD (i % 36) 0
theorem ch36_mem (i : Nat) : ch36 i ∈ charsL := by
  have h : i % 36 < 36 := Nat.mod_lt _ (by decide)
  have q : ∀ j, j < 36 → charsL.getD j 0 ∈ charsL := by decide
  exact q _ h
theorem ch36_inj {s a b : Nat} (ha : a < 36) (hb : b < 36) (h : ch36 (s + a) = ch36 (s + b)) : a = b := by
  have q : ∀ i, i < 36 → ∀ j, j < 36 → charsL.getD i 0 = charsL.getD j 0 → i = j := by decide
  have := q _ (Nat.mod_lt (s + a) (by decide)) _ (Nat.mod_lt (s + b) (by decide)) h
  omega
theorem chars_at (i : Nat) : chars.cps[i % 36]? = some (ch36 i) := by
  have h : i % 36 < 36 := Nat.mod_lt _ (by decide)
  rw [← Array.getElem?_toList, show chars.cps.toList = charsL from tl_chars]
  unfold ch36
  have q : ∀ j, j < 36 → charsL[j]? = some (charsL.getD j 0) := by decide
  exact q _ h
theorem chars_len : chars.length = 36 := by
  rw [TL.len_tl, tl_chars] <;> rfl
def nmS (z : Str) (p s k : Nat) : Str := cutS z none (some (p : Int)) ++ ⟨#[ch36 (s + k)]⟩ ++ cutS z (some (p : Int)) none
theorem tl_nm {z : Str} {p : Nat} (hp : p ≤ z.length) (s k : Nat) : TL.tl (nmS z p s k) = (TL.tl z).take p ++ (ch36 (s + k) :: (TL.tl z).drop p) := by
  unfold nmS
  have e1 : TL.tl (cutS z none (some (p : Int))) = (TL.tl z).take p := by
    unfold cutS
    rw [HT.sIx_none, HT.sIx_nat, List.drop_zero, Nat.sub_zero, TL.tl_mk, Nat.min_eq_left hp]
  have e2 : TL.tl (cutS z (some (p : Int)) none) = (TL.tl z).drop p := by
    unfold cutS
    rw [HT.sIx_none, HT.sIx_nat, TL.tl_mk, Nat.min_eq_left hp]
    exact List.take_of_length_le (by rw [List.length_drop, ← TL.len_tl]; exact Nat.le_refl _)
  rw [TL.tl_append, TL.tl_append, e1, e2, List.append_assoc] <;> rfl
theorem nm_ok {z : Str} {p : Nat} (hp : p ≤ z.length) (hz : z.length ≤ 11) (hc : ∀ c ∈ TL.tl z, c ∈ charsL) (s k : Nat) : NameOk (nmS z p s k) := by
  have el : (nmS z p s k).length = z.length + 1 := by
    rw [TL.len_tl, tl_nm hp, List.length_append, List.length_cons, List.length_take, List.length_drop, ← TL.len_tl]
    omega
  refine ⟨by omega, by omega, fun c hm => ?_⟩
  rw [tl_nm hp] at hm
  rcases List.mem_append.mp hm with q | q
  · exact hc c (List.mem_of_mem_take q)
  · obtain q | q := List.mem_cons.mp q
    · rw [q]
      exact ch36_mem _
    · exact hc c (List.mem_of_mem_drop q)
theorem nm_inj {z : Str} {p : Nat} (hp : p ≤ z.length) {s a b : Nat} (ha : a < 36) (hb : b < 36) (h : nmS z p s a = nmS z p s b) : a = b := by
  have e := congrArg TL.tl h
  rw [tl_nm hp, tl_nm hp] at e
  have e2 := List.append_cancel_left e
  injection e2 with e3 _
  exact ch36_inj ha hb e3
def nms (z : Str) (p s m : Nat) : List Str := (List.range m).map (nmS z p s)
theorem nms_nd {z : Str} {p s : Nat} (hp : p ≤ z.length) : ∀ {m : Nat}, m ≤ 36 → (nms z p s m).Nodup
  | 0, _ => List.nodup_nil
  | m + 1, h => by
    unfold nms
    rw [List.range_succ, List.map_append, List.map_singleton, List.nodup_append]
    refine ⟨nms_nd hp (by omega), List.nodup_cons.mpr ⟨by simp, List.nodup_nil⟩, fun a ha b hb e => ?_⟩
    rw [List.mem_singleton.mp hb] at e
    obtain ⟨j, hj, rfl⟩ := List.mem_map.mp ha
    have hj' : _ < _ := List.mem_range.mp hj
    have := nm_inj hp (show j < 36 by omega) (show m < 36 by omega) e
    omega
theorem nms_succ (z : Str) (p s m : Nat) : (nms z p s (m + 1)).map V.str = (nms z p s m).map V.str ++ [.str (nmS z p s m)] := by
  unfold nms
  rw [List.range_succ, List.map_append, List.map_append] <;> rfl
/-- a number drawn, by its place -/
theorem nums_get {ns : List Int} (h : Nums ns) {j : Nat} (hj : j < 190) : ∃ x : Int, ns[j]? = some x ∧ 0 ≤ x ∧ x < 1009 ∧ (ns.map V.int)[j]? = some (.int x) := by
  have hl : j < ns.length := by rw [h.len]; exact hj
  refine ⟨ns[j], List.getElem?_eq_getElem hl, h.lo _ (List.getElem_mem hl), h.hi _ (List.getElem_mem hl), ?_⟩
  rw [List.getElem?_map, List.getElem?_eq_getElem hl] <;> rfl
section
variable {P : Program} {w : World} {K : PySem.W.Frag} {mg : Str → Option Value} {base : Heap} {CT CS : Addr}
theorem ok_lawNames {f : Addr} {fd : FuncData} (F : Fun K "_law_names" "_law_names" sLawNames f fd) (T : Tx K mg CT CS) : FnOk P w K mg base CX0 1 f fd pLawNames spLawNames := by
  refine F.ok scLawNames (fun vs H Q E h => ?_) (fun cdv A outer s H vs Q E hr h => ?_)
  · obtain ⟨a, ns, at', m, rfl, _⟩ := h
    rfl
  · obtain ⟨a, ns, at', m, rfl, ⟨hA, hN⟩, h5, h36, q⟩ := h
    refine ⟨_, (pss_cons (ps_set (i := 3) scLawNames.nd rfl (Or.inl rfl) pe_str)
      (pss_cons (ps_set (i := 4) scLawNames.nd rfl (Or.inl rfl) pe_str)
      (pss_cons (ps_for PassesOwn.never rfl (pi_range1 rfl T.range (pa_cons (pe_op op_mod (pe_ix ix_list (pv 0) (pv 1) (fun _ _ => rfl)) pe_int) pa_nil)) (pg_name (i := 5) scLawNames.nd rfl (Or.inl rfl))
        (pss_one (ps_set (i := 4) scLawNames.nd rfl (Or.inl rfl) (pe_op op_add_str (pv 4) (pe_item_str (pv 3) (pe_op op_mod (pe_op op_add (pe_ix ix_list (pv 0) (pe_op op_add (pv 1) pe_int) (fun _ _ => rfl)) (pe_op op_mul (pv 5) (pe_ix ix_list (pv 0) (pe_op op_add (pv 1) pe_int) (fun _ _ => rfl)))) pe_int) (fun _ _ => rfl))))))
      (pss_cons (ps_set (i := 6) scLawNames.nd rfl (Or.inl rfl) (pe_op op_mod (pe_ix ix_list (pv 0) (pe_op op_add (pv 1) pe_int) (fun _ _ => rfl)) (pe_op op_add (pe_callB call_len_str (by rfl) T.len PySem.boot_len (pa_cons (pv 4) pa_nil)) pe_int)))
      (pss_cons (ps_set (i := 7) scLawNames.nd rfl (Or.inl rfl) (pe_op op_mod (pe_ix ix_list (pv 0) (pe_op op_add (pv 1) pe_int) (fun _ _ => rfl)) pe_int))
      (pss_cons (ps_set (i := 8) scLawNames.nd rfl (Or.inl rfl) (pe_lst pa_nil))
      (pss_cons (ps_for PassesOwn.never rfl (pi_range1 rfl T.range (pa_cons (pv 2) pa_nil)) (pg_name (i := 5) scLawNames.nd rfl (Or.inl rfl))
        (pss_one (ps_expr (pe_bm PySem.F.plainAttrs_list PySem.F.slot_list_append PySem.F.type_list_append mt_append (pv 8) (pa_cons (pe_op op_add_str (pe_op op_add_str (pe_slice sl_str (pv 4) po_none (po_some (pv 6))) (pe_item_str (pv 3) (pe_op op_mod (pe_op op_add (pv 7) (pv 5)) pe_int) (fun _ _ => rfl))) (pe_slice sl_str (pv 4) (po_some (pv 6)) po_none)) pa_nil)))))
      (pss_one (ps_ret (pv 8)))))))))), ?_⟩
    obtain ⟨n0, _, lo0, hi0, g0⟩ := nums_get hN (show at' < 190 by omega)
    obtain ⟨n1, _, lo1, hi1, g1⟩ := nums_get hN (show at' + 1 < 190 by omega)
    obtain ⟨n2, _, lo2, hi2, g2⟩ := nums_get hN (show at' + 2 < 190 by omega)
    obtain ⟨n3, _, lo3, hi3, g3⟩ := nums_get hN (show at' + 3 < 190 by omega)
    obtain ⟨n4, _, lo4, hi4, g4⟩ := nums_get hN (show at' + 4 < 190 by omega)
    have p12 : (0 : Int) < 12 := by decide
    have p36 : (0 : Int) < 36 := by decide
    have b0 : 0 ≤ n0 % 12 ∧ n0 % 12 < 12 := ⟨Int.emod_nonneg _ (by decide), Int.emod_lt_of_pos _ p12⟩
    refine ⟨_, rfl, _, rfl, a, _, _, .int n0, rfl, rfl, SqL.of hA, atI_nat g0, n0, 12, rfl, rfl, p12, _, rfl, by omega, by omega, for_it walk_range
      (fun i σ H' => ∃ (o5 : Option V) (z : Str), σ = [some (.ref a), some (.int at'), some (.int m), some (.str chars), some (.str z), o5, none, none, none] ∧ H' = H ∧ z.length = i ∧ ∀ c ∈ TL.tl z, c ∈ charsL)
      ⟨none, Str.ofString "", rfl, rfl, by decide +kernel, fun c hc => by
        have e : TL.tl (Str.ofString "") = [] := by decide +kernel
        rw [e] at hc
        cases hc⟩ (fun _ _ _ _ _ => trivial) ?_ ?_⟩
    · rintro i x σ H1 H2 hi ⟨o5, z, rfl, rfl, hz, hc⟩ ⟨rfl, rfl⟩
      have hi11 : i < 11 := by omega
      have pi : 0 ≤ n1 + (0 + (i : Int)) * n2 := by
        have : 0 ≤ (0 + (i : Int)) * n2 := Int.mul_nonneg (by omega) lo2
        omega
      obtain ⟨j, hj⟩ : ∃ j : Nat, n1 + (0 + (i : Int)) * n2 = (j : Int) := ⟨_, (Int.toNat_of_nonneg pi).symm⟩
      have em : (n1 + (0 + (i : Int)) * n2) % 36 = ((j % 36 : Nat) : Int) := by rw [hj]; omega
      refine ⟨_, rfl, _, rfl, _, rfl, _, rfl, _, 1, rfl, rfl, a, _, _, .int n1, rfl, rfl, SqL.of hA, at_of (by omega) g1, _, rfl, _, rfl, _, rfl, _, 2, rfl, rfl, a, _, _, .int n2, rfl, rfl, SqL.of hA, at_of (by omega) g2, _, _, rfl, rfl, .inr ⟨by omega, by omega⟩, _, _, rfl, rfl, _, 36, rfl, rfl, p36, ?_⟩
      refine ⟨chars, _, ch36 j, rfl, rfl, by rw [em]; omega, by rw [em]; omega, by rw [em, chars_len]; omega, by rw [em]; exact chars_at j, ?_⟩
      refine ⟨_, _, rfl, rfl, fits (by rw [hz]; show i + 1 ≤ 1000; omega), _, _, rfl, rfl, ?_, fun c hm => ?_⟩
      · rw [len_app, hz] <;> rfl
      · rw [TL.tl_append] at hm
        rcases List.mem_append.mp hm with q' | q'
        · exact hc c q'
        · rw [List.mem_singleton.mp (show c ∈ [ch36 j] from q')]
          exact ch36_mem j
    · rintro σ H1 ⟨o5, z, rfl, rfl, hz, hc⟩
      have hz11 : z.length ≤ 11 := by omega
      have pz : (0 : Int) < (z.length : Int) + 1 := by omega
      have b3 := Int.emod_nonneg n3 (show (z.length : Int) + 1 ≠ 0 by omega)
      have b3' := Int.emod_lt_of_pos n3 pz
      obtain ⟨p, hp⟩ : ∃ p : Nat, n3 % ((z.length : Int) + 1) = (p : Int) := ⟨_, (Int.toNat_of_nonneg b3).symm⟩
      have hpz : p ≤ z.length := by omega
      obtain ⟨sh, hsh⟩ : ∃ sh : Nat, n4 % 36 = (sh : Int) := ⟨_, (Int.toNat_of_nonneg (Int.emod_nonneg n4 (by decide))).symm⟩
      refine ⟨_, rfl, _, rfl, _, 3, rfl, rfl, a, _, _, .int n3, rfl, rfl, SqL.of hA, at_of (by omega) g3, _, rfl, z, rfl, fits (by omega), _, 1, rfl, rfl, _, _, rfl, rfl, pz, ?_⟩
      refine ⟨_, rfl, _, rfl, _, 4, rfl, rfl, a, _, _, .int n4, rfl, rfl, SqL.of hA, at_of (by omega) g4, _, 36, rfl, rfl, p36, ?_⟩
      refine ⟨Nat.zero_le _, fun l hl => ?_⟩
      refine ⟨_, rfl, _, rfl, by omega, by omega, for_it walk_range
        (fun i σ H' => ∃ (o5 : Option V), σ = [some (.ref a), some (.int at'), some (.int m), some (.str chars), some (.str z), o5, some (.int (n3 % ((z.length : Int) + 1))), some (.int (n4 % 36)), some (.ref l)] ∧ Same H1 H' ∧ H' l = some (.lst ((nms z p sh i).map V.str)))
        ⟨_, rfl, same_new hl, upd_same⟩ (fun _ _ _ _ _ => trivial) ?_ ?_⟩
      · rintro i x σ H2 H3 hi ⟨o5, rfl, s2, e2⟩ ⟨rfl, rfl⟩
        have hi36 : i < 36 := by omega
        have em : (n4 % 36 + (0 + (i : Int))) % 36 = (((sh + i) % 36 : Nat) : Int) := by rw [hsh]; omega
        refine ⟨_, rfl, .inl ⟨rfl, _, SqL.of e2⟩, ?_⟩
        refine ⟨_, rfl, _, rfl, _, rfl, z, rfl, fits (by omega), _, rfl, _, rfl, _, rfl, _, _, rfl, rfl, _, 36, rfl, rfl, p36, ?_⟩
        refine ⟨chars, _, ch36 (sh + i), rfl, rfl, by rw [em]; omega, by rw [em]; omega, by rw [em, chars_len]; omega, by rw [em]; exact chars_at (sh + i), ?_⟩
        have c1 := cutS_length z none (some (n3 % ((z.length : Int) + 1)))
        have c2 := cutS_length z (some (n3 % ((z.length : Int) + 1))) none
        have c3 : (⟨#[ch36 (sh + i)]⟩ : Str).length = 1 := rfl
        refine ⟨_, _, rfl, rfl, fits (by omega), _, rfl, _, rfl, _, rfl, z, rfl, fits (by omega), _, _, rfl, rfl, fits (by rw [len_app]; omega), ?_⟩
        refine ⟨l, _, _, rfl, rfl, e2, ?_, _, rfl, s2.put hl, ?_⟩
        · rw [List.length_map]
          unfold nms
          rw [List.length_map]; rw [List.length_range]
          exact small1000 (by omega)
        · rw [upd_same, nms_succ, hp] <;> rfl
      · rintro σ H2 ⟨o5, rfl, s2, e2⟩
        have em : ((m : Int)).toNat = m := by omega
        rw [em] at e2
        refine ⟨_, rfl, q H2 l (nms z p sh m) s2 hl e2 ?_ (nms_nd hpz h36) fun y hy => ?_⟩
        · unfold nms
          rw [List.length_map]; rw [List.length_range]
        · obtain ⟨k, _, rfl⟩ := List.mem_map.mp hy
          exact nm_ok hpz hz11 hc sh k
end
end Nv
/-! NvN: _law_kinds, _law_ways, _law_task. -/
namespace Nv
open PySem PySem.Spec PyProof.Rows L2
theorem strs_get {nm : List Str} {j : Nat} (hj : j < nm.length) : ∃ z : Str, nm[j]? = some z ∧ z ∈ nm ∧ (nm.map V.str)[j]? = some (.str z) := by
  refine ⟨nm[j], List.getElem?_eq_getElem hj, List.getElem_mem hj, ?_⟩
  rw [List.getElem?_map, List.getElem?_eq_getElem hj] <;> rfl
theorem ko_snoc {ks : List KD} {k : KD} (h : ∀ x ∈ ks, KOk x) (hk : KOk k) : ∀ x ∈ ks ++ [k], KOk x := fun x hx => by
  rcases List.mem_append.mp hx with z | z
  · exact h x z
  · cases List.mem_singleton.mp z
    exact hk
theorem wo_snoc {kk : List KD} {ws : List WD} {k : WD} (h : ∀ x ∈ ws, WOk kk x) (hk : WOk kk k) : ∀ x ∈ ws ++ [k], WOk kk x := fun x hx => by
  rcases List.mem_append.mp hx with z | z
  · exact h x z
  · cases List.mem_singleton.mp z
    exact hk
section
variable {P : Program} {w : World} {K : PySem.W.Frag} {mg : Str → Option Value} {base : Heap} {CT CS : Addr}
theorem ok_lawKinds {f : Addr} {fd : FuncData} (F : Fun K "_law_kinds" "_law_kinds" sLawKinds f fd) (T : Tx K mg CT CS) (D__law_size : Def P w K mg base 1 "_law_size" pLawSize spLawSize) : FnOk P w K mg base CX0 2 f fd pLawKinds spLawKinds := by
  refine F.ok scLawKinds (fun vs H Q E h => ?_) (fun cdv A outer s H vs Q E hr h => ?_)
  · obtain ⟨a, b, ns, at', nm, rfl, _⟩ := h
    rfl
  · obtain ⟨a, b, ns, at', nm, rfl, ⟨hA, hN⟩, hB, nok, l8, l190, q⟩ := h
    refine ⟨_, (pss_cons (ps_set (i := 3) scLawKinds.nd rfl (Or.inl rfl) (pe_lst pa_nil))
      (pss_cons (ps_for PassesOwn.never rfl (pi_range1 rfl T.range (pa_cons (pe_callB call_len_seq (by rfl) T.len PySem.boot_len (pa_cons (pv 2) pa_nil)) pa_nil)) (pg_name (i := 4) scLawKinds.nd rfl (Or.inl rfl))
        (pss_one (ps_expr (pe_bm PySem.F.plainAttrs_list PySem.F.slot_list_append PySem.F.type_list_append mt_append (pv 3) (pa_cons (pe_tup (pa_cons (pe_ix ix_list (pv 2) (pv 4) (fun _ _ => rfl)) (pa_cons (pe_def D__law_size (hr.mono (by decide)) (pa_cons (pe_ix ix_list (pv 0) (pe_op op_add (pv 1) (pe_op op_mul pe_int (pv 4))) (fun _ _ => rfl)) (pa_cons pe_int pa_nil))) (pa_cons (pe_def D__law_size (hr.mono (by decide)) (pa_cons (pe_ix ix_list (pv 0) (pe_op op_add (pe_op op_add (pv 1) pe_int) (pe_op op_mul pe_int (pv 4))) (fun _ _ => rfl)) (pa_cons pe_int pa_nil))) pa_nil)))) pa_nil)))))
      (pss_one (ps_ret (pv 3))))), ?_⟩
    have el : (nm.map V.str).length = nm.length := List.length_map ..
    refine ⟨Nat.zero_le _, fun l hl => ?_⟩
    refine ⟨.ref b, rfl, b, _, rfl, .inl (SqL.of ((same_new hl) _ _ hB)), _, rfl, by rw [el]; omega, by rw [el]; omega, for_it walk_range
      (fun i σ H' => ∃ (o4 : Option V) (kv : List V) (ks : List KD), σ = [some (.ref a), some (.int at'), some (.ref b), some (.ref l), o4] ∧ Same H H' ∧ H' l = some (.lst kv) ∧ Al (KT H') kv ks ∧ ks.map (·.1) = nm.take i ∧ ∀ k ∈ ks, KOk k)
      ⟨none, [], [], rfl, same_new hl, upd_same, Al.nil, rfl, fun k hk => by cases hk⟩ (fun _ _ _ _ _ => trivial) ?_ ?_⟩
    · rintro i x σ H1 H2 hi ⟨o4, kv, ks, rfl, s1, e1, al, en, ko⟩ ⟨rfl, rfl⟩
      have hin : i < nm.length := by omega
      obtain ⟨z, gz, mz, gz'⟩ := strs_get hin
      obtain ⟨x1, _, lo1, hi1, g1⟩ := nums_get hN (show at' + 2 * i < 190 by omega)
      obtain ⟨x2, _, lo2, hi2, g2⟩ := nums_get hN (show at' + 1 + 2 * i < 190 by omega)
      have hA1 := s1 _ _ hA
      have lk : kv.length = i := by
        rw [al.1, ← List.length_map (f := fun k : KD => k.1), en, List.length_take]
        omega
      refine ⟨_, rfl, .inl ⟨rfl, _, SqL.of e1⟩, ?_⟩
      refine ⟨_, rfl, _, rfl, b, _, _, .str z, rfl, rfl, SqL.of (s1 _ _ hB), at_of (by omega) gz', ?_⟩
      refine ⟨_, rfl, _, rfl, _, rfl, 2, _, rfl, rfl, .inl ⟨by decide, by decide⟩, _, _, rfl, rfl, a, _, _, .int x1, rfl, rfl, SqL.of hA1, at_of (by omega) g1, x1, 1000, rfl, by decide, fun r1 a1 a2 => ?_⟩
      refine ⟨_, rfl, _, rfl, _, 1, rfl, rfl, _, rfl, 2, _, rfl, rfl, .inl ⟨by decide, by decide⟩, _, _, rfl, rfl, a, _, _, .int x2, rfl, rfl, SqL.of hA1, at_of (by omega) g2, x2, 1000, rfl, by decide, fun r2 b1 b2 => ?_⟩
      refine ⟨(by show 3 ≤ sizeLine; decide), fun r hr2 => ?_⟩
      have nr : l ≠ r := ne_of_none e1 hr2
      have e2 : (upd H2 r (.tup [.str z, .int r1, .int r2])) l = some (.lst kv) := by rw [upd_ne nr]; exact e1
      refine ⟨l, _, _, rfl, rfl, e2, small16 (by omega), _, _, ks ++ [(z, r1, r2)], rfl, (s1.add hr2).put hl, upd_same, ?_, ?_, ko_snoc ko ⟨nok z mz, a1, a2, b1, b2⟩⟩
      · refine (kts_keep ((keep_new hr2).trans (keep_lst e2)) al).snoc ⟨r, rfl, ?_⟩
        rw [upd_ne nr.symm]
        exact upd_same
      · rw [List.map_append, en, List.take_add_one, gz] <;> rfl
    · rintro σ H1 ⟨o4, kv, ks, rfl, s1, e1, al, en, ko⟩
      have em : (((nm.map V.str).length : Nat) : Int).toNat = nm.length := by rw [el]; omega
      rw [em, List.take_length] at en
      exact ⟨_, rfl, q H1 l kv ks s1 hl e1 al en ko⟩
theorem ok_lawWays {f : Addr} {fd : FuncData} (F : Fun K "_law_ways" "_law_ways" sLawWays f fd) (T : Tx K mg CT CS) (D__law_size : Def P w K mg base 1 "_law_size" pLawSize spLawSize) : FnOk P w K mg base CX0 2 f fd pLawWays spLawWays := by
  refine F.ok scLawWays (fun vs H Q E h => ?_) (fun cdv A outer s H vs Q E hr h => ?_)
  · obtain ⟨a, b, ns, at', m, ks, rfl, _⟩ := h
    rfl
  · obtain ⟨a, b, ns, at', m, ks, rfl, ⟨hA, hN⟩, hB, l1, l8, m16, l190, q⟩ := h
    refine ⟨_, (pss_cons (ps_set (i := 4) scLawWays.nd rfl (Or.inl rfl) (pe_lst pa_nil))
      (pss_cons (ps_for PassesOwn.never rfl (pi_range1 rfl T.range (pa_cons (pv 3) pa_nil)) (pg_name (i := 5) scLawWays.nd rfl (Or.inl rfl))
        (pss_cons (ps_set (i := 6) scLawWays.nd rfl (Or.inl rfl) (pe_ix ix_list (pv 2) (pe_op op_mod (pe_ix ix_list (pv 0) (pe_op op_add (pv 1) (pe_op op_mul pe_int (pv 5))) (fun _ _ => rfl)) (pe_callB call_len_seq (by rfl) T.len PySem.boot_len (pa_cons (pv 2) pa_nil))) (fun _ _ => rfl)))
        (pss_cons (ps_set (i := 7) scLawWays.nd rfl (Or.inl rfl) (pe_ix ix_list (pv 2) (pe_op op_mod (pe_ix ix_list (pv 0) (pe_op op_add (pe_op op_add (pv 1) pe_int) (pe_op op_mul pe_int (pv 5))) (fun _ _ => rfl)) (pe_callB call_len_seq (by rfl) T.len PySem.boot_len (pa_cons (pv 2) pa_nil))) (fun _ _ => rfl)))
        (pss_one (ps_expr (pe_bm PySem.F.plainAttrs_list PySem.F.slot_list_append PySem.F.type_list_append mt_append (pv 4) (pa_cons (pe_tup (pa_cons (pv 6) (pa_cons (pv 7) (pa_cons (pe_def D__law_size (hr.mono (by decide)) (pa_cons (pe_ix ix_list (pv 0) (pe_op op_add (pe_op op_add (pv 1) pe_int) (pe_op op_mul pe_int (pv 5))) (fun _ _ => rfl)) (pa_cons pe_int pa_nil))) pa_nil)))) pa_nil)))))))
      (pss_one (ps_ret (pv 4))))), ?_⟩
    have el : ((ks.map (·.1)).map V.str).length = ks.length := by rw [List.length_map, List.length_map]
    have el1 : (ks.map (·.1)).length = ks.length := List.length_map ..
    have pl : (0 : Int) < ((((ks.map (·.1)).map V.str).length : Nat) : Int) := by rw [el]; omega
    refine ⟨Nat.zero_le _, fun l hl => ?_⟩
    refine ⟨_, rfl, _, rfl, by omega, by omega, for_it walk_range
      (fun i σ H' => ∃ (o5 o6 o7 : Option V) (wv : List V) (ws : List WD), σ = [some (.ref a), some (.int at'), some (.ref b), some (.int m), some (.ref l), o5, o6, o7] ∧ Same H H' ∧ H' l = some (.lst wv) ∧ Al (WT H') wv ws ∧ ws.length = i ∧ ∀ k ∈ ws, WOk ks k)
      ⟨none, none, none, [], [], rfl, same_new hl, upd_same, Al.nil, rfl, fun k hk => by cases hk⟩ (fun _ _ _ _ _ => trivial) ?_ ?_⟩
    · rintro i x σ H1 H2 hi ⟨o5, o6, o7, wv, ws, rfl, s1, e1, al, en, wo⟩ ⟨rfl, rfl⟩
      have him : i < m := by omega
      obtain ⟨x1, _, lo1, hi1, g1⟩ := nums_get hN (show at' + 3 * i < 190 by omega)
      obtain ⟨x2, _, lo2, hi2, g2⟩ := nums_get hN (show at' + 1 + 3 * i < 190 by omega)
      obtain ⟨x3, _, lo3, hi3, g3⟩ := nums_get hN (show at' + 2 + 3 * i < 190 by omega)
      have hA1 := s1 _ _ hA
      have hB1 := s1 _ _ hB
      have c1 := Int.emod_nonneg x1 (Int.ne_of_gt pl)
      have c1' := Int.emod_lt_of_pos x1 pl
      have c2 := Int.emod_nonneg x2 (Int.ne_of_gt pl)
      have c2' := Int.emod_lt_of_pos x2 pl
      obtain ⟨j1, hj1⟩ : ∃ j : Nat, x1 % ((((ks.map (·.1)).map V.str).length : Nat) : Int) = (j : Int) := ⟨_, (Int.toNat_of_nonneg c1).symm⟩
      obtain ⟨j2, hj2⟩ : ∃ j : Nat, x2 % ((((ks.map (·.1)).map V.str).length : Nat) : Int) = (j : Int) := ⟨_, (Int.toNat_of_nonneg c2).symm⟩
      obtain ⟨z1, gz1, mz1, gz1'⟩ := strs_get (nm := ks.map (·.1)) (j := j1) (by rw [el1]; rw [hj1, el] at c1'; omega)
      obtain ⟨z2, gz2, mz2, gz2'⟩ := strs_get (nm := ks.map (·.1)) (j := j2) (by rw [el1]; rw [hj2, el] at c2'; omega)
      have lk : wv.length = i := by rw [al.1, en]
      refine ⟨_, rfl, _, rfl, _, rfl, _, rfl, 3, _, rfl, rfl, .inl ⟨by decide, by decide⟩, _, _, rfl, rfl, a, _, _, .int x1, rfl, rfl, SqL.of hA1, at_of (by omega) g1, .ref b, rfl, b, _, rfl, .inl (SqL.of hB1), _, _, rfl, rfl, pl, b, _, _, .str z1, rfl, rfl, SqL.of hB1, at_of hj1 gz1', ?_⟩
      refine ⟨_, rfl, _, rfl, _, rfl, _, 1, rfl, rfl, _, rfl, 3, _, rfl, rfl, .inl ⟨by decide, by decide⟩, _, _, rfl, rfl, a, _, _, .int x2, rfl, rfl, SqL.of hA1, at_of (by omega) g2, .ref b, rfl, b, _, rfl, .inl (SqL.of hB1), _, _, rfl, rfl, pl, b, _, _, .str z2, rfl, rfl, SqL.of hB1, at_of hj2 gz2', ?_⟩
      refine ⟨_, rfl, .inl ⟨rfl, _, SqL.of e1⟩, _, rfl, _, rfl, ?_⟩
      refine ⟨_, rfl, _, rfl, _, 2, rfl, rfl, _, rfl, 3, _, rfl, rfl, .inl ⟨by decide, by decide⟩, _, _, rfl, rfl, a, _, _, .int x3, rfl, rfl, SqL.of hA1, at_of (by omega) g3, x3, 1000, rfl, by decide, fun r2 b1 b2 => ?_⟩
      refine ⟨(by show 3 ≤ sizeLine; decide), fun r hr2 => ?_⟩
      have nr : l ≠ r := ne_of_none e1 hr2
      have e2 : (upd H2 r (.tup [.str z1, .str z2, .int r2])) l = some (.lst wv) := by rw [upd_ne nr]; exact e1
      refine ⟨l, _, _, rfl, rfl, e2, small16 (by omega), _, _, _, _, ws ++ [(z1, z2, r2)], rfl, (s1.add hr2).put hl, upd_same, ?_, by rw [List.length_append, en]; rfl, wo_snoc wo ⟨mz1, mz2, b1, b2⟩⟩
      refine (wts_keep ((keep_new hr2).trans (keep_lst e2)) al).snoc ⟨r, rfl, ?_⟩
      rw [upd_ne nr.symm]
      exact upd_same
    · rintro σ H1 ⟨o5, o6, o7, wv, ws, rfl, s1, e1, al, en, wo⟩
      exact ⟨_, rfl, q H1 l wv ws s1 hl e1 al (by omega) wo⟩
theorem ok_lawTask {f : Addr} {fd : FuncData} (F : Fun K "_law_task" "_law_task" sLawTask f fd) (T : Tx K mg CT CS) (D__law_names : Def P w K mg base 1 "_law_names" pLawNames spLawNames) (D__law_kinds : Def P w K mg base 2 "_law_kinds" pLawKinds spLawKinds)
    (D__law_ways : Def P w K mg base 2 "_law_ways" pLawWays spLawWays) : FnOk P w K mg base CX0 3 f fd pLawTask (spLawTask 27) := by
  refine F.ok scLawTask (fun vs H Q E h => ?_) (fun cdv A outer s H vs Q E hr h => ?_)
  · obtain ⟨a, ns, at', n, rfl, _⟩ := h
    rfl
  · obtain ⟨a, ns, at', n, rfl, hN, l190, nok, q⟩ := h
    refine ⟨_, (pss_cons (ps_set (i := 3) scLawTask.nd rfl (Or.inl rfl) (pe_def D__law_names (hr.mono (by decide)) (pa_cons (pv 0) (pa_cons (pv 1) (pa_cons (pe_op op_add pe_int (pe_op op_mod (pe_ix ix_list (pv 0) (pe_op op_add (pv 1) pe_int) (fun _ _ => rfl)) pe_int)) pa_nil)))))
      (pss_cons (ps_set (i := 4) scLawTask.nd rfl (Or.inl rfl) (pe_def D__law_kinds (hr.mono (by decide)) (pa_cons (pv 0) (pa_cons (pe_op op_add (pv 1) pe_int) (pa_cons (pv 3) pa_nil)))))
      (pss_cons (ps_set (i := 5) scLawTask.nd rfl (Or.inl rfl) (pe_def D__law_ways (hr.mono (by decide)) (pa_cons (pv 0) (pa_cons (pe_op op_add (pv 1) pe_int) (pa_cons (pv 3) (pa_cons (pe_op op_mod (pe_ix ix_list (pv 0) (pe_op op_add (pv 1) pe_int) (fun _ _ => rfl)) pe_int) pa_nil))))))
      (pss_one (ps_ret (pe_tup (pa_cons (pv 2) (pa_cons (pv 4) (pa_cons (pv 5) pa_nil))))))))), ?_⟩
    obtain ⟨x5, _, lo5, hi5, g5⟩ := nums_get hN.2 (show at' + 5 < 190 by omega)
    obtain ⟨x26, _, lo26, hi26, g26⟩ := nums_get hN.2 (show at' + 26 < 190 by omega)
    have p4 : (0 : Int) < 4 := by decide
    have p5 : (0 : Int) < 5 := by decide
    obtain ⟨m, hm, hm1, hm4⟩ : ∃ m : Nat, 1 + x5 % 4 = (m : Int) ∧ 1 ≤ m ∧ m ≤ 4 := ⟨(1 + x5 % 4).toNat, by omega, by omega, by omega⟩
    obtain ⟨m2, hm2, hm24⟩ : ∃ m : Nat, x26 % 5 = (m : Int) ∧ m ≤ 4 := ⟨(x26 % 5).toNat, by omega, by omega⟩
    refine ⟨_, rfl, _, rfl, _, rfl, _, rfl, _, 5, rfl, rfl, a, _, _, .int x5, rfl, rfl, SqL.of hN.1, at_of (by omega) g5, _, 4, rfl, rfl, p4, 1, _, rfl, rfl, a, ns, at', m, congrArg (fun z => [V.ref a, V.int (at' : Int), V.int z]) hm, hN, by omega, by omega, fun H1 p nm s1 hp e1 ln nd ok => ?_⟩
    refine ⟨_, rfl, _, rfl, _, 6, rfl, rfl, _, rfl, a, p, ns, at' + 6, nm, rfl, hN.same s1, e1, ok, by omega, by omega, fun H2 p2 kv ks s2 hp2 e2 al2 hk ko => ?_⟩
    have lks : ks.length = m := by
      rw [← ln, ← hk, List.length_map]
    refine ⟨_, rfl, _, rfl, _, 14, rfl, rfl, _, rfl, _, rfl, _, rfl, _, 26, rfl, rfl, a, _, _, .int x26, rfl, rfl, SqL.of ((s1.trans s2) _ _ hN.1), at_of (by omega) g26, _, 5, rfl, rfl, p5, a, p, ns, at' + 14, m2, ks, congrArg (fun z => [V.ref a, V.int ((at' + 14 : Nat) : Int), V.ref p, V.int z]) hm2, hN.same (s1.trans s2), by rw [hk]; exact s2 _ _ e1, by omega, by omega, by omega, by omega, fun H3 p3 wv ws s3 hp3 e3 al3 lw wo => ?_⟩
    refine ⟨_, rfl, _, rfl, _, rfl, (by show 3 ≤ sizeLine; decide), fun r hr2 => ?_⟩
    have s03 := (s1.trans s2).trans s3
    refine q _ _ ⟨n, ks, ws⟩ (s03.add hr2) rfl ⟨nok, by show 1 ≤ ks.length; omega, by show ks.length ≤ 8; omega, by show (ks.map (·.1)).Nodup; rw [hk]; exact nd, ko, by show ws.length ≤ 16; omega, wo⟩ ⟨r, p2, p3, kv, wv, rfl, upd_same, (s3.add hr2) _ _ e2, (same_new hr2) _ _ e3, kts_keep (s3.add hr2).keep al2, wts_keep (keep_new hr2) al3, s1.free hp2, (s1.trans s2).free hp3⟩
end
end Nv
/-! NvO: _law_large, _law_table, _law_made. -/
namespace Nv
open PySem PySem.Spec PyProof.Rows L2
section
variable {P : Program} {w : World} {K : PySem.W.Frag} {mg : Str → Option Value} {base : Heap} {CT CS : Addr}
theorem ok_lawLarge {f : Addr} {fd : FuncData} (F : Fun K "_law_large" "_law_large" sLawLarge f fd) (T : Tx K mg CT CS) (D__law_names : Def P w K mg base 1 "_law_names" pLawNames spLawNames) : FnOk P w K mg base CX0 2 f fd pLawLarge (spLawTask 27) := by
  refine F.ok scLawLarge (fun vs H Q E h => ?_) (fun cdv A outer s H vs Q E hr h => ?_)
  · obtain ⟨a, ns, at', n, rfl, _⟩ := h
    rfl
  · obtain ⟨a, ns, at', n, rfl, hN, l190, nok, q⟩ := h
    refine ⟨_, (pss_cons (ps_set (i := 3) scLawLarge.nd rfl (Or.inr rfl) (pe_def D__law_names (hr.mono (by decide)) (pa_cons (pv 0) (pa_cons (pv 1) (pa_cons pe_int pa_nil)))))
      (pss_cons (ps_setLc (i := 4) (own := [("_law_k", 6)]) (g := gName 6) (tt := tYes) rfl scLawLarge.nd rfl rfl (sw_true rfl rfl rfl (by decide +kernel)) (pi_range1 rfl T.range (pa_cons pe_int pa_nil)) (blkOk_by (own := [("_law_k", 6)]) (N := nLawLarge) (sc := defScope sLawLarge) (by decide +kernel)) (fun _ _ _ _ _ => pg_name (i := 6) scLawLarge.nd rfl (Or.inl rfl)) (fun _ _ _ _ _ => pts_nil) (fun _ _ _ _ _ => (pe_tup (pa_cons (pe_ix (ix_listK K) (pv 3) (pv 6) (fun _ _ => rfl)) (pa_cons (pe_op op_sub pe_int (pe_op op_mod (pe_ix (ix_listK K) (pv 0) (pe_op op_add (pv 1) (pv 6)) (fun _ _ => rfl)) pe_int)) (pa_cons (pe_op op_add pe_int (pe_op op_mod (pe_ix (ix_listK K) (pv 0) (pe_op op_add (pv 1) (pv 6)) (fun _ _ => rfl)) pe_int)) pa_nil))))))
      (pss_cons (ps_setLc (i := 5) (own := [("_law_k", 6)]) (g := gName 6) (tt := tYes) rfl scLawLarge.nd rfl rfl (sw_true rfl rfl rfl (by decide +kernel)) (pi_range1 rfl T.range (pa_cons pe_int pa_nil)) (blkOk_by (own := [("_law_k", 6)]) (N := nLawLarge) (sc := defScope sLawLarge) (by decide +kernel)) (fun _ _ _ _ _ => pg_name (i := 6) scLawLarge.nd rfl (Or.inl rfl)) (fun _ _ _ _ _ => pts_nil) (fun _ _ _ _ _ => (pe_tup (pa_cons (pe_ix (ix_listK K) (pv 3) (pe_op op_mod (pe_ix (ix_listK K) (pv 0) (pe_op op_add (pv 1) (pv 6)) (fun _ _ => rfl)) pe_int) (fun _ _ => rfl)) (pa_cons (pe_ix (ix_listK K) (pv 3) (pe_op op_mod (pv 6) pe_int) (fun _ _ => rfl)) (pa_cons (pe_op op_sub pe_int (pe_op op_mod (pe_ix (ix_listK K) (pv 0) (pe_op op_add (pv 1) (pv 6)) (fun _ _ => rfl)) pe_int)) pa_nil))))))
      (pss_one (ps_ret (pe_tup (pa_cons (pv 2) (pa_cons (pv 4) (pa_cons (pv 5) pa_nil))))))))), ?_⟩
    refine ⟨_, rfl, _, rfl, a, ns, at', 8, rfl, hN, by omega, by decide, fun H1 p nm s1 hp e1 ln nd ok => ?_⟩
    have hA1 := s1 _ _ hN.1
    refine ⟨8, rfl, by decide, by decide, fun D hD => lc_it walk_range (fun i H' => Same H1 H' ∧ ∃ (kv : List V) (ks : List KD), H' D = some (.lst kv) ∧ Al (KT H') kv ks ∧ ks.map (·.1) = nm.take i ∧ ∀ k ∈ ks, KOk k)
      ⟨same_new hD, [], [], upd_same, Al.nil, rfl, fun k hk => by cases hk⟩ (fun _ _ _ _ => trivial) ?_ ?_⟩
    · rintro i x H2 H3 hi ⟨s2, kv, ks, e2, al, en, ko⟩ ⟨rfl, rfl⟩
      have hi8 : i < 8 := hi
      obtain ⟨z, gz, mz, gz'⟩ := strs_get (nm := nm) (j := i) (by omega)
      obtain ⟨x1, _, lo1, hi1, g1⟩ := nums_get hN.2 (show at' + i < 190 by omega)
      have hA2 := s2 _ _ hA1
      have lk : kv.length = i := by
        rw [al.1, ← List.length_map (f := fun k : KD => k.1), en, List.length_take]
        omega
      have p3 : (0 : Int) < 3 := by decide
      have p1000 : (0 : Int) < 1000 := by decide
      refine ⟨rfl, _, rfl, _, rfl, p, _, _, .str z, rfl, rfl, SqL.of (s2 _ _ e1), at_of (by omega) gz', ?_⟩
      refine ⟨_, rfl, _, rfl, _, rfl, _, _, rfl, rfl, a, _, _, .int x1, rfl, rfl, SqL.of hA2, at_of (by omega) g1, _, 3, rfl, rfl, p3, 1000, _, rfl, rfl, ?_⟩
      refine ⟨_, rfl, _, rfl, _, rfl, _, _, rfl, rfl, a, _, _, .int x1, rfl, rfl, SqL.of hA2, at_of (by omega) g1, _, 1000, rfl, rfl, p1000, 1, _, rfl, rfl, (by show 3 ≤ sizeLine; decide), fun r hr2 => ?_⟩
      have nr : D ≠ r := ne_of_none e2 hr2
      refine ⟨kv, by rw [upd_ne nr]; exact e2, small16 (by omega), (s2.add hr2).put hD, _, ks ++ [(z, 1000 - x1 % 3, 1 + x1 % 1000)], upd_same, ?_, ?_, ko_snoc ko ⟨ok z mz, ?_, ?_, ?_, ?_⟩⟩
      · refine (kts_keep ((keep_new hr2).trans (keep_lst (by rw [upd_ne nr]; exact e2))) al).snoc ⟨r, rfl, ?_⟩
        rw [upd_ne nr.symm]
        exact upd_same
      · rw [List.map_append, en, List.take_add_one, gz] <;> rfl
      · show 1 ≤ 1000 - x1 % 3; omega
      · show 1000 - x1 % 3 ≤ 1000; omega
      · show 1 ≤ 1 + x1 % 1000; omega
      · show 1 + x1 % 1000 ≤ 1000; omega
    · rintro H2 ⟨s2, kv, ks, e2, al, en, ko⟩
      rw [show ((8 : Int)).toNat = nm.length by rw [ln]; rfl, List.take_length] at en
      have lks : ks.length = 8 := by rw [← ln, ← en, List.length_map]
      have hA2 := s2 _ _ hA1
      have e1' := s2 _ _ e1
      refine ⟨16, rfl, by decide, by decide, fun D2 hD2 => lc_it walk_range (fun i H' => Same H2 H' ∧ ∃ (wv : List V) (ws : List WD), H' D2 = some (.lst wv) ∧ Al (WT H') wv ws ∧ ws.length = i ∧ ∀ k ∈ ws, WOk ks k)
        ⟨same_new hD2, [], [], upd_same, Al.nil, rfl, fun k hk => by cases hk⟩ (fun _ _ _ _ => trivial) ?_ ?_⟩
      · rintro i x H3 H4 hi ⟨s3, wv, ws, e3, alw, lw, wo⟩ ⟨rfl, rfl⟩
        have hi16 : i < 16 := hi
        obtain ⟨x1, _, lo1, hi1, g1⟩ := nums_get hN.2 (show at' + i < 190 by omega)
        obtain ⟨j1, hj1, hj8⟩ : ∃ j : Nat, x1 % 8 = (j : Int) ∧ j < 8 := ⟨(x1 % 8).toNat, by omega, by omega⟩
        obtain ⟨z1, gz1, mz1, gz1'⟩ := strs_get (nm := nm) (j := j1) (by omega)
        obtain ⟨z2, gz2, mz2, gz2'⟩ := strs_get (nm := nm) (j := i % 8) (by omega)
        have hA3 := s3 _ _ hA2
        have e13 := s3 _ _ e1'
        have p8 : (0 : Int) < 8 := by decide
        have p2 : (0 : Int) < 2 := by decide
        have lk : wv.length = i := by rw [alw.1, lw]
        refine ⟨rfl, _, rfl, _, rfl, _, rfl, _, rfl, _, _, rfl, rfl, a, _, _, .int x1, rfl, rfl, SqL.of hA3, at_of (by omega) g1, _, 8, rfl, rfl, p8, p, _, _, .str z1, rfl, rfl, SqL.of e13, at_of hj1 gz1', ?_⟩
        refine ⟨_, rfl, _, rfl, _, 8, rfl, rfl, p8, p, _, _, .str z2, rfl, rfl, SqL.of e13, at_of (by omega) gz2', ?_⟩
        refine ⟨_, rfl, _, rfl, _, rfl, _, _, rfl, rfl, a, _, _, .int x1, rfl, rfl, SqL.of hA3, at_of (by omega) g1, _, 2, rfl, rfl, p2, 1000, _, rfl, rfl, (by show 3 ≤ sizeLine; decide), fun r hr2 => ?_⟩
        have nr : D2 ≠ r := ne_of_none e3 hr2
        refine ⟨wv, by rw [upd_ne nr]; exact e3, small16 (by omega), (s3.add hr2).put hD2, _, ws ++ [(z1, z2, 1000 - x1 % 2)], upd_same, ?_, by rw [List.length_append, lw]; rfl, wo_snoc wo ⟨by rw [en]; exact mz1, by rw [en]; exact mz2, ?_, ?_⟩⟩
        · refine (wts_keep ((keep_new hr2).trans (keep_lst (by rw [upd_ne nr]; exact e3))) alw).snoc ⟨r, rfl, ?_⟩
          rw [upd_ne nr.symm]
          exact upd_same
        · show 1 ≤ 1000 - x1 % 2; omega
        · show 1000 - x1 % 2 ≤ 1000; omega
      · rintro H3 ⟨s3, wv, ws, e3, alw, lw, wo⟩
        have lw' : ws.length = 16 := lw
        refine ⟨_, rfl, _, rfl, _, rfl, (by show 3 ≤ sizeLine; decide), fun r hr2 => ?_⟩
        have s03 := (s1.trans s2).trans s3
        refine q _ _ ⟨n, ks, ws⟩ (s03.add hr2) rfl ⟨nok, by show 1 ≤ ks.length; omega, by show ks.length ≤ 8; omega, by show (ks.map (·.1)).Nodup; rw [en]; exact nd, ko, by show ws.length ≤ 16; omega, wo⟩ ⟨r, D, D2, kv, wv, rfl, upd_same, (s3.add hr2) _ _ e2, (same_new hr2) _ _ e3, kts_keep (s3.add hr2).keep al, wts_keep (keep_new hr2) alw, s1.free hD, (s1.trans s2).free hD2⟩
theorem ok_lawTable {f : Addr} {fd : FuncData} (F : Fun K "_law_table" "_law_table" sLawTable f fd) (T : Tx K mg CT CS) : FnOk P w K mg base CX0 1 f fd pLawTable spLawTable := by
  refine F.ok scLawTable (fun vs H Q E h => ?_) (fun cdv A outer s H vs Q E hr h => ?_)
  · obtain ⟨a, ns, at', rfl, _⟩ := h
    rfl
  · obtain ⟨a, ns, at', rfl, hN, l190, q⟩ := h
    refine ⟨_, (pss_cons (ps_set (i := 2) scLawTable.nd rfl (Or.inl rfl) (pe_op op_add pe_int (pe_op op_mod (pe_ix ix_list (pv 0) (pv 1) (fun _ _ => rfl)) pe_int)))
      (pss_cons (ps_if (pt_cmpR op_eq (pe_op op_mod (pe_op op_fdiv (pe_ix ix_list (pv 0) (pv 1) (fun _ _ => rfl)) pe_int) pe_int) pe_int (nomark _))
        (pss_one (ps_set (i := 2) scLawTable.nd rfl (Or.inl rfl) pe_int))
        pss_nil)
      (pss_cons (ps_set (i := 3) scLawTable.nd rfl (Or.inl rfl) (pe_lst pa_nil))
      (pss_cons (ps_for PassesOwn.never rfl (pi_range1 rfl T.range (pa_cons (pv 2) pa_nil)) (pg_name (i := 4) scLawTable.nd rfl (Or.inl rfl))
        (pss_cons (ps_set (i := 5) scLawTable.nd rfl (Or.inl rfl) (pe_ix ix_list (pv 0) (pe_op op_add (pe_op op_add (pv 1) pe_int) (pe_op op_mod (pv 4) pe_int)) (fun _ _ => rfl)))
        (pss_one (ps_expr (pe_bm PySem.F.plainAttrs_list PySem.F.slot_list_append PySem.F.type_list_append mt_append (pv 3) (pa_cons (pe_ix ix_list (pe_lst (pa_cons (pe_op op_mod (pv 5) pe_int) (pa_cons (pv 5) (pa_cons pe_int (pa_cons (pe_op op_add (pe_op op_mul (pv 5) pe_int) (pv 4)) pa_nil))))) (pe_op op_mod (pe_op op_mod (pv 5) pe_int) pe_int) (fun _ _ => rfl)) pa_nil))))))
      (pss_one (ps_ret (pv 3))))))), ?_⟩
    obtain ⟨n0, _, lo0, hi0, g0⟩ := nums_get hN.2 (show at' < 190 by omega)
    have p12 : (0 : Int) < 12 := by decide
    have p16 : (0 : Int) < 16 := by decide
    have p7 : (0 : Int) < 7 := by decide
    have p4 : (0 : Int) < 4 := by decide
    have hs1 : 1 ≤ (1001 : Int) ∧ (1001 : Int) ≤ 1001 := by decide
    have hs2 : 1 ≤ 1 + n0 % 12 ∧ 1 + n0 % 12 ≤ 1001 := by omega
    refine ⟨_, rfl, _, rfl, a, _, _, .int n0, rfl, rfl, SqL.of hN.1, atI_nat g0, _, 12, rfl, rfl, p12, 1, _, rfl, rfl, ?_⟩
    refine ⟨_, rfl, _, rfl, a, _, _, .int n0, rfl, rfl, SqL.of hN.1, atI_nat g0, _, 12, rfl, rfl, ⟨by decide, by decide⟩, _, 16, rfl, rfl, p16, rfl, _, rfl, ite2 (fun _ => ?x) (fun _ => ?y)⟩
    case' x => obtain ⟨sz, hsz, hs⟩ : ∃ sz : Int, sz = 1001 ∧ 1 ≤ sz ∧ sz ≤ 1001 := ⟨1001, rfl, hs1⟩
    case' y => obtain ⟨sz, hsz, hs⟩ : ∃ sz : Int, sz = 1 + n0 % 12 ∧ 1 ≤ sz ∧ sz ≤ 1001 := ⟨_, rfl, hs2⟩
    all_goals
      refine ⟨Nat.zero_le _, fun l hl => ?_⟩
      refine ⟨_, rfl, sz, congrArg (fun z => [V.int z]) hsz.symm, by omega, by omega, for_it walk_range (fun i σ H' => ∃ (o2 o4 o5 : Option V) (tb : List Int), σ = [some (.ref a), some (.int at'), o2, some (.ref l), o4, o5] ∧ Same H H' ∧ H' l = some (.lst (tb.map V.int)) ∧ tb.length = i ∧ ∀ c ∈ tb, CapOk c)
        ⟨_, none, none, [], rfl, same_new hl, upd_same, rfl, fun c hc => by cases hc⟩ (fun _ _ _ _ _ => trivial) ?_ ?_⟩
      · rintro i x σ H1 H2 hi ⟨o2, o4, o5, tb, rfl, s1, e1, lt, cap⟩ ⟨rfl, rfl⟩
        have hi1 : i < 1001 := by omega
        obtain ⟨x1, _, lo1, hi1', g1⟩ := nums_get hN.2 (show at' + 1 + i % 12 < 190 by omega)
        refine ⟨_, rfl, _, rfl, _, 1, rfl, rfl, _, rfl, _, 12, rfl, rfl, p12, _, _, rfl, rfl, a, _, _, .int x1, rfl, rfl, SqL.of (s1 _ _ hN.1), at_of (by omega) g1, ?_⟩
        refine ⟨_, rfl, .inl ⟨rfl, _, SqL.of e1⟩, ?_⟩
        refine ⟨_, rfl, _, 4, rfl, rfl, p4, _, rfl, _, rfl, _, 991, rfl, rfl, .inr ⟨by decide, by decide⟩, _, rfl, _, _, rfl, rfl, (by show 4 ≤ sizeLine; decide), fun r hr2 => ?_⟩
        obtain ⟨j, hj, v, hv, cv⟩ : ∃ j : Nat, x1 % 7 % 4 = (j : Int) ∧ ∃ v : Int, ([V.int (x1 % 4), V.int x1, V.int 1000000, V.int (x1 * 991 + (0 + (i : Int)))] : List V)[j]? = some (.int v) ∧ CapOk v := by
          have hc : x1 % 7 % 4 = 0 ∨ x1 % 7 % 4 = 1 ∨ x1 % 7 % 4 = 2 ∨ x1 % 7 % 4 = 3 := by omega
          rcases hc with h | h | h | h
          · exact ⟨0, h, _, rfl, by omega, by omega⟩
          · exact ⟨1, h, _, rfl, by omega, by omega⟩
          · exact ⟨2, h, _, rfl, by decide, by decide⟩
          · exact ⟨3, h, _, rfl, by omega, by omega⟩
        have nr : l ≠ r := ne_of_none e1 hr2
        refine ⟨_, rfl, _, 7, rfl, rfl, p7, _, 4, rfl, rfl, p4, r, _, _, .int v, rfl, rfl, SqL.of upd_same, at_of hj hv, ?_⟩
        refine ⟨l, _, _, rfl, rfl, by rw [upd_ne nr]; exact e1, ?_, _, _, _, tb ++ [v], rfl, (s1.add hr2).put hl, by rw [upd_same, ← snocI], by rw [List.length_append, lt]; rfl, fun c hc => ?_⟩
        · rw [List.length_map]
          exact Nat.lt_of_lt_of_le (show tb.length < 1002 by omega) (by decide)
        · rcases List.mem_append.mp hc with z | z
          · exact cap c z
          · cases List.mem_singleton.mp z
            exact cv
      · rintro σ H1 ⟨o2, o4, o5, tb, rfl, s1, e1, lt, cap⟩
        exact ⟨_, rfl, q H1 l tb s1 hl e1 (by omega) (by omega) cap⟩
theorem ok_lawMade {f : Addr} {fd : FuncData} (F : Fun K "_law_made" "_law_made" sLawMade f fd) (T : Tx K mg CT CS) (D_Task : DefC P w K mg base 3 "Task" CT pTaskInit 1 ["kinds", "ways"] (spTaskInit CT)) : FnOk P w K mg base CX0 5 f fd pLawMade (spLawMade CT) := by
  refine F.ok scLawMade (fun vs H Q E h => ?_) (fun cdv A outer s H vs Q E hr h => ?_)
  · obtain ⟨v, t, rfl, _⟩ := h
    rfl
  · obtain ⟨v, t, rfl, da, ok, q⟩ := h
    obtain ⟨u, a, b, kv, wv, rfl, hu, hA, hB, alk, alw⟩ := id da
    refine ⟨_, (pss_one (ps_ret (pe_defC D_Task (hr.mono (by decide)) (pa_cons (pe_ix ix_tup (pv 0) pe_int (fun _ _ => rfl)) pa_nil) (pk_cons (pe_callTy call_list_of (by rfl) T.list (by decide +kernel) (pa_cons (pe_ix ix_tup (pv 0) pe_int (fun _ _ => rfl)) pa_nil)) (pk_cons (pe_callTy call_list_of (by rfl) T.list (by decide +kernel) (pa_cons (pe_ix ix_tup (pv 0) pe_int (fun _ _ => rfl)) pa_nil)) pk_nil))))), ?_⟩
    refine ⟨_, rfl, u, _, 0, .str t.name, rfl, rfl, SqT.of hu, atI_nat (j := 0) rfl, ?_⟩
    refine ⟨_, rfl, u, _, 1, .ref a, rfl, rfl, SqT.of hu, atI_nat (j := 1) rfl, a, _, rfl, .inl (SqL.of hA), fun l hl => ?_⟩
    have s1 : Same H (upd H l (.lst kv)) := same_new hl
    refine ⟨_, rfl, u, _, 2, .ref b, rfl, rfl, SqT.of (s1 _ _ hu), atI_nat (j := 2) rfl, b, _, rfl, .inl (SqL.of (s1 _ _ hB)), fun l2 hl2 => ?_⟩
    have s2 : Same (upd H l (.lst kv)) (upd (upd H l (.lst kv)) l2 (.lst wv)) := same_new hl2
    refine ⟨rfl, rfl, fun x dx hx hdx hne => ?_⟩
    have sm : Same (upd (upd H l (.lst kv)) l2 (.lst wv)) (upd (upd (upd (upd H l (.lst kv)) l2 (.lst wv)) dx (.own x)) x (.ins CT dx [])) := fun c u e => by
      rw [upd_ne (ne_of_none e hx), upd_ne (ne_of_none e hdx)]
      exact e
    have s3 := (s1.trans s2).trans sm
    refine ⟨x, dx, l, l2, kv, wv, t, rfl, upd_same, sm _ _ (s2 _ _ upd_same), sm _ _ upd_same, kts_keep s3.keep alk, wts_keep s3.keep alw, ok, fun H9 off ta => ⟨rfl, ?_⟩⟩
    exact q H9 _ ((s1.trans s2).trans (Same.made hx hdx off)) ta
end
end Nv
/-! NvQ: _law_same_task, _law_same_system, _law_lines. -/
namespace Nv
open PySem PySem.Spec PyProof.Rows L2
/-! ### nested data -/
def dK (k : KD) : PyData := .tuple [.str k.1, .int k.2.1, .int k.2.2]
def dW (x : WD) : PyData := .tuple [.str x.1, .str x.2.1, .int x.2.2]
def dP (x : Str × Int) : PyData := .tuple [.str x.1, .int x.2]
def dList {α : Type} (d : α → PyData) (l : List α) : PyData := .list (l.map d)
theorem dpAll_of {K : PySem.W.Frag} {H : Hp} {α : Type} {R : V → α → Prop} {d : α → PyData} (hd : ∀ v y, R v y → Dp K H v (d y)) : ∀ {xs : List V} {ys : List α}, Al R xs ys → DpAll K H xs (ys.map d)
  | [], [], _ => .nil
  | [], _ :: _, h => absurd h.1 (by simp)
  | _ :: _, [], h => absurd h.1 (by simp)
  | x :: xs, y :: ys, h => .cons (hd _ _ (h.2 0 x y rfl rfl)) (dpAll_of hd ⟨by have := h.1; simpa using this, fun i u v h1 h2 => h.2 (i + 1) u v h1 h2⟩)
theorem dp_kt {K : PySem.W.Frag} {H : Hp} {v : V} {k : KD} (h : KT H v k) : Dp K H v (dK k) := by
  obtain ⟨a, rfl, e⟩ := h
  exact .tup (SqT.of e) (.cons (.str _) (.cons (.int _) (.cons (.int _) .nil)))
theorem dp_wt {K : PySem.W.Frag} {H : Hp} {v : V} {k : WD} (h : WT H v k) : Dp K H v (dW k) := by
  obtain ⟨a, rfl, e⟩ := h
  exact .tup (SqT.of e) (.cons (.str _) (.cons (.str _) (.cons (.int _) .nil)))
theorem dp_pt {K : PySem.W.Frag} {H : Hp} {v : V} {k : Str × Int} (h : PT2 H v k) : Dp K H v (dP k) := by
  obtain ⟨a, rfl, e⟩ := h
  exact .tup (SqT.of e) (.cons (.str _) (.cons (.int _) .nil))
theorem dpAll_ints {K : PySem.W.Frag} {H : Hp} : ∀ ns : List Int, DpAll K H (ns.map V.int) (ns.map PyData.int)
  | [] => .nil
  | n :: ns => .cons (.int n) (dpAll_ints ns)
theorem dp_kl {K : PySem.W.Frag} {H : Hp} {a : Addr} {xs : List V} {ks : List KD} (s : SqL K H a xs) (h : Al (KT H) xs ks) : Dp K H (.ref a) (dList dK ks) := .lst s (dpAll_of (d := dK) (fun _ _ z => dp_kt z) h)
theorem dp_wl {K : PySem.W.Frag} {H : Hp} {a : Addr} {xs : List V} {ks : List WD} (s : SqL K H a xs) (h : Al (WT H) xs ks) : Dp K H (.ref a) (dList dW ks) := .lst s (dpAll_of (d := dW) (fun _ _ z => dp_wt z) h)
theorem dp_pl {K : PySem.W.Frag} {H : Hp} {a : Addr} {xs : List V} {ks : List (Str × Int)} (s : SqL K H a xs) (h : Al (PT2 H) xs ks) : Dp K H (.ref a) (dList dP ks) := .lst s (dpAll_of (d := dP) (fun _ _ z => dp_pt z) h)
theorem snoc_lines (A : List (List Str)) (z : List Str) : A.map lineV ++ [lineV z] = (A ++ [z]).map lineV := by
  rw [List.map_append] <;> rfl
theorem canLay_all {α : Type} {d : α → PyData} : ∀ {l : List α}, (∀ x ∈ l, (d x).canLay0 = true) → PyData.canLayAll0 (l.map d) = true
  | [], _ => rfl
  | x :: l, h => by
    rw [List.map_cons, PyData.canLayAll0, h x (List.mem_cons_self ..), canLay_all fun z hz => h z (List.mem_cons_of_mem _ hz)] <;> rfl
theorem depth_all {α : Type} {d : α → PyData} : ∀ {l : List α}, (∀ x ∈ l, (d x).depth ≤ 1) → PyData.depthAll (l.map d) ≤ 1
  | [], _ => by rw [List.map_nil, PyData.depthAll]; decide
  | x :: l, h => by
    rw [List.map_cons]; rw [PyData.depthAll]
    exact Nat.max_le.mpr ⟨h x (List.mem_cons_self ..), depth_all fun z hz => h z (List.mem_cons_of_mem _ hz)⟩
theorem shaped_list {α : Type} {d : α → PyData} {l : List α} (h1 : ∀ x ∈ l, (d x).canLay0 = true) (h2 : ∀ x ∈ l, (d x).depth ≤ 1) : SeqAt.shaped (dList d l) = true := by
  unfold SeqAt.shaped dList
  rw [PyData.canLay0, canLay_all h1, PyData.depth, decide_eq_true (show PyData.depthAll (l.map d) + 1 ≤ 64 by have := depth_all h2; omega)] <;> rfl
theorem eqv_same {d : PyData} (h : SeqAt.shaped d = true) : PyData.eqv d d = true := SeqAt.eqv_refl d (SeqAt.canLay_of_shaped h)
theorem name_strOk {z : Str} (h : NameOk z) : PyData.strOk z = true := by
  unfold PyData.strOk
  rw [← Array.all_toList]; rw [List.all_eq_true]
  intro c hc
  have := chars_lo (h.ch c hc)
  refine decide_eq_true ?_; omega
theorem dK_lay {k : KD} (h : NameOk k.1) : (dK k).canLay0 = true := by
  simp [dK, PyData.canLay0, PyData.canLayAll0, name_strOk h]
theorem dW_lay {k : WD} (h : NameOk k.1) (h2 : NameOk k.2.1) : (dW k).canLay0 = true := by
  simp [dW, PyData.canLay0, PyData.canLayAll0, name_strOk h, name_strOk h2]
theorem dP_lay {k : Str × Int} (h : NameOk k.1) : (dP k).canLay0 = true := by
  simp [dP, PyData.canLay0, PyData.canLayAll0, name_strOk h]
theorem dK_depth (k : KD) : (dK k).depth ≤ 1 := by simp [dK, PyData.depth, PyData.depthAll]
theorem dW_depth (k : WD) : (dW k).depth ≤ 1 := by simp [dW, PyData.depth, PyData.depthAll]
theorem dP_depth (k : Str × Int) : (dP k).depth ≤ 1 := by simp [dP, PyData.depth, PyData.depthAll]
theorem TOk.kshape {t : TD} (h : TOk t) : SeqAt.shaped (dList dK t.kinds) = true := shaped_list (fun k hk => dK_lay (h.ko k hk).nm) fun k _ => dK_depth k
theorem TOk.wshape {t : TD} (h : TOk t) : SeqAt.shaped (dList dW t.ways) = true := shaped_list (fun k hk => dW_lay (h.name_of (h.wo k hk).s) (h.name_of (h.wo k hk).t)) fun k _ => dW_depth k
theorem TOk.lshape {t : TD} (h : TOk t) (n : Str) : SeqAt.shaped (dList dP (leaving t.ways n)) = true := shaped_list (fun k hk => by
  unfold leaving at hk
  obtain ⟨x, hx, rfl⟩ := List.mem_map.mp hk
  exact dP_lay (h.name_of (h.wo x (List.mem_filter.mp hx).1).t)) fun k _ => dP_depth k
theorem ishape (tb : List Int) : SeqAt.shaped (dList PyData.int tb) = true := shaped_list (fun k _ => by simp [PyData.canLay0]) fun k _ => by simp [PyData.depth]
section
variable {P : Program} {w : World} {K : PySem.W.Frag} {mg : Str → Option Value} {base : Heap} {CT CS : Addr}
theorem ok_lawSameTask {f : Addr} {fd : FuncData} (F : Fun K "_law_same_task" "_law_same_task" sLawSameTask f fd) (T : Tx K mg CT CS) : FnOk P w K mg base CX0 1 f fd pLawSameTask (spLawSameTask CT) := by
  refine F.ok scLawSameTask (fun vs H Q E h => ?_) (fun cdv A outer s H vs Q E hr h => ?_)
  · obtain ⟨x, v, t, rfl, _⟩ := h
    rfl
  · obtain ⟨x, v, t, rfl, ta, da, ok, q⟩ := h
    obtain ⟨u, a, b, kv, wv, rfl, hu, hA, hB, alk, alw⟩ := id da
    obtain ⟨p, dx, ka, wa, ks, ws, rfl, hp, hka, hwa, alk2, alw2⟩ := id ta
    refine ⟨_, (pss_cons (ps_if (PW.pt (pw_or (pt_not (pt_val (pe_callB call_isi (by rfl) T.isinstance (by decide +kernel) (pa_cons (pe_fld (pv 0) rfl) (pa_cons (pe_bltn (v := .ty "tuple") (by rfl) T.tuple (by decide +kernel) rfl) pa_nil))))) (pw_or1 (pt_not (pt_val (pe_callB call_isi (by rfl) T.isinstance (by decide +kernel) (pa_cons (pe_fld (pv 0) rfl) (pa_cons (pe_bltn (v := .ty "tuple") (by rfl) T.tuple (by decide +kernel) rfl) pa_nil))))))))
        pss_never
        pss_nil)
      (pss_one (ps_ret (pe_and (pe_cmpR op_eq (pe_fld (pv 0) rfl) (pe_ix ix_tup (pv 1) pe_int (fun _ _ => rfl)) (nomark _)) (pe_and (pe_cmpR (op_eqD hr.units) (pe_callTy call_list_of (by rfl) T.list (by decide +kernel) (pa_cons (pe_fld (pv 0) rfl) pa_nil)) (pe_ix ix_tup (pv 1) pe_int (fun _ _ => rfl)) (nomark _)) (pe_one (pe_cmpR (op_eqD hr.units) (pe_callTy call_list_of (by rfl) T.list (by decide +kernel) (pa_cons (pe_fld (pv 0) rfl) pa_nil)) (pe_ix ix_tup (pv 1) pe_int (fun _ _ => rfl)) (nomark _)))))))), ?_⟩
    refine ⟨_, rfl, p, CT, dx, _, _, rfl, hp, T.ct, T.nk, tf_kinds _ _ _, _, _, .type "tuple", .type "tuple", true, rfl, .ty _, .base (.tup hka), kit_ty (by decide +kernel), true, rfl, ?_⟩
    refine ⟨_, rfl, p, CT, dx, _, _, rfl, hp, T.ct, T.nw, tf_ways _ _ _, _, _, .type "tuple", .type "tuple", true, rfl, .ty _, .base (.tup hwa), kit_ty (by decide +kernel), true, rfl, ?_⟩
    refine ⟨_, rfl, p, CT, dx, _, _, rfl, hp, T.ct, T.na, tf_name _ _ _, _, rfl, u, _, 0, .str t.name, rfl, rfl, SqT.of hu, atI_nat (j := 0) rfl, rfl, _, rfl, dT rfl ?_⟩
    refine ⟨_, rfl, p, CT, dx, _, _, rfl, hp, T.ct, T.nk, tf_kinds _ _ _, ka, ks, rfl, .inr (SqT.of hka), fun l hl => ?_⟩
    have s1 : Same H (upd H l (.lst ks)) := same_new hl
    refine ⟨_, rfl, u, _, 1, .ref a, rfl, rfl, SqT.of (s1 _ _ hu), atI_nat (j := 1) rfl, dList dK t.kinds, dList dK t.kinds, dp_kl (SqL.of upd_same) (kts_keep s1.keep alk2), dp_kl (SqL.of (s1 _ _ hA)) (kts_keep s1.keep alk), ok.kshape, ok.kshape, _, rfl, bT (eqv_same ok.kshape) ?_⟩
    refine ⟨_, rfl, p, CT, dx, _, _, rfl, s1 _ _ hp, T.ct, T.nw, tf_ways _ _ _, wa, ws, rfl, .inr (SqT.of (s1 _ _ hwa)), fun l2 hl2 => ?_⟩
    have s2 : Same H (upd (upd H l (.lst ks)) l2 (.lst ws)) := s1.add hl2
    refine ⟨_, rfl, u, _, 2, .ref b, rfl, rfl, SqT.of (s2 _ _ hu), atI_nat (j := 2) rfl, dList dW t.ways, dList dW t.ways, dp_wl (SqL.of upd_same) (wts_keep s2.keep alw2), dp_wl (SqL.of (s2 _ _ hB)) (wts_keep s2.keep alw), ok.wshape, ok.wshape, ?_⟩
    rw [eqv_same ok.wshape]
    exact q _ s2
theorem ok_lawSameSystem {f : Addr} {fd : FuncData} (F : Fun K "_law_same_system" "_law_same_system" sLawSameSystem f fd) (T : Tx K mg CT CS) (D__law_same_task : Def P w K mg base 1 "_law_same_task" pLawSameTask (spLawSameTask CT)) : FnOk P w K mg base CX0 2 f fd pLawSameSystem (spLawSameSystem CS CT) := by
  refine F.ok scLawSameSystem (fun vs H Q E h => ?_) (fun cdv A outer s H vs Q E hr h => ?_)
  · obtain ⟨x, d, b, dv, ts, tb, rfl, _⟩ := h
    rfl
  · obtain ⟨x, d, b, dv, ts, tb, rfl, sa, hd, al, hB, ok, q⟩ := h
    obtain ⟨p, dx, ta, ba, tv, rfl, hp, hta, hba, alt⟩ := id sa
    refine ⟨_, (pss_cons (ps_if (PW.pt (pw_or (pt_not (pt_val (pe_callB call_isi (by rfl) T.isinstance (by decide +kernel) (pa_cons (pe_fld (pv 0) rfl) (pa_cons (pe_bltn (v := .ty "tuple") (by rfl) T.tuple (by decide +kernel) rfl) pa_nil))))) (pw_or1 (pt_not (pt_val (pe_callB call_isi (by rfl) T.isinstance (by decide +kernel) (pa_cons (pe_fld (pv 0) rfl) (pa_cons (pe_bltn (v := .ty "tuple") (by rfl) T.tuple (by decide +kernel) rfl) pa_nil))))))))
        pss_never
        pss_nil)
      (pss_cons (ps_if (PW.pt (pw_or (pt_cmpR op_ne (pe_callB call_len_seq (by rfl) T.len PySem.boot_len (pa_cons (pe_fld (pv 0) rfl) pa_nil)) (pe_callB call_len_seq (by rfl) T.len PySem.boot_len (pa_cons (pv 1) pa_nil)) (nomark _)) (pw_or1 (pt_cmpR (op_neD hr.units) (pe_callTy call_list_of (by rfl) T.list (by decide +kernel) (pa_cons (pe_fld (pv 0) rfl) pa_nil)) (pv 2) (nomark _)))))
        pss_never
        pss_nil)
      (pss_cons (ps_for PassesOwn.never rfl (pi_range1 rfl T.range (pa_cons (pe_callB call_len_seq (by rfl) T.len PySem.boot_len (pa_cons (pv 1) pa_nil)) pa_nil)) (pg_name (i := 3) scLawSameSystem.nd rfl (Or.inl rfl))
        (pss_one (ps_if (pt_not (pt_val (pe_def D__law_same_task (hr.mono (by decide)) (pa_cons (pe_ix ix_tup (pe_fld (pv 0) rfl) (pv 3) (fun _ _ => rfl)) (pa_cons (pe_ix ix_list (pv 1) (pv 3) (fun _ _ => rfl)) pa_nil)))))
          pss_never
          pss_nil)))
      (pss_one (ps_ret pe_bl))))), ?_⟩
    have e1 : tv.length = ts.length := alt.1
    have e2 : dv.length = ts.length := al.1
    have t6 := ok.t6
    refine ⟨_, rfl, p, CS, dx, _, _, rfl, hp, T.cs, T.nt, sf_tasks _ _, _, _, .type "tuple", .type "tuple", true, rfl, .ty _, .base (.tup hta), kit_ty (by decide +kernel), true, rfl, ?_⟩
    refine ⟨_, rfl, p, CS, dx, _, _, rfl, hp, T.cs, T.nb, sf_table _ _, _, _, .type "tuple", .type "tuple", true, rfl, .ty _, .base (.tup hba), kit_ty (by decide +kernel), true, rfl, ?_⟩
    refine ⟨_, rfl, p, CS, dx, _, _, rfl, hp, T.cs, T.nt, sf_tasks _ _, ta, tv, rfl, .inr (SqT.of hta), .ref d, rfl, d, dv, rfl, .inl (SqL.of hd), rfl, _, rfl, iteNS (congrArg V.int (by rw [e1, e2])) ?_⟩
    refine ⟨_, rfl, p, CS, dx, _, _, rfl, hp, T.cs, T.nb, sf_table _ _, ba, _, rfl, .inr (SqT.of hba), fun l hl => ?_⟩
    have s1 : Same H (upd H l (.lst (tb.map V.int))) := same_new hl
    refine ⟨_, rfl, dList PyData.int tb, dList PyData.int tb, .lst (SqL.of upd_same) (dpAll_ints tb), .lst (SqL.of (s1 _ _ hB)) (dpAll_ints tb), ishape tb, ishape tb, _, rfl, bF (by rw [eqv_same (ishape tb)]; rfl) ?_⟩
    refine ⟨.ref d, rfl, d, dv, rfl, .inl (SqL.of (s1 _ _ hd)), _, rfl, by omega, by omega, for_it walk_range (fun i σ H' => ∃ (o3 : Option V), σ = [some (.ref p), some (.ref d), some (.ref b), o3] ∧ Same H H') ⟨none, rfl, s1⟩ (fun _ _ _ _ _ => trivial) ?_ ?_⟩
    · rintro i x σ H1 H2 hi ⟨o3, rfl, s2⟩ ⟨rfl, rfl⟩
      have hi' : i < ts.length := by omega
      have ht : ts[i]? = some ts[i] := List.getElem?_eq_getElem hi'
      generalize ts[i] = t at ht
      obtain ⟨y1, g1, a1⟩ := alt.get' ht
      obtain ⟨y2, g2, a2⟩ := al.get' ht
      refine ⟨_, rfl, p, CS, dx, _, _, rfl, s2 _ _ hp, T.cs, T.nt, sf_tasks _ _, _, rfl, ta, _, _, y1, rfl, rfl, SqT.of (s2 _ _ hta), at_of (by omega) g1, ?_⟩
      refine ⟨_, rfl, _, rfl, d, _, _, y2, rfl, rfl, SqL.of (s2 _ _ hd), at_of (by omega) g2, y1, y2, t, rfl, a1.keep s2.keep, a2.same s2, ok.to t (List.mem_of_getElem? ht), fun H3 s3 => ⟨true, rfl, _, rfl, s2.trans s3⟩⟩
    · rintro σ H1 ⟨o3, rfl, s2⟩
      exact q H1 s2
theorem cat6n {x0 x1 x2 x3 x4 x5 : Str} (h0 : x0.length ≤ 100) (h1 : x1.length ≤ 100) (h2 : x2.length ≤ 100) (h3 : x3.length ≤ 100) (h4 : x4.length ≤ 100) (h5 : x5.length ≤ 100) :
    x0.length + x1.length ≤ sizeLine ∧ (x0 ++ x1).length + x2.length ≤ sizeLine ∧ (x0 ++ x1 ++ x2).length + x3.length ≤ sizeLine ∧ (x0 ++ x1 ++ x2 ++ x3).length + x4.length ≤ sizeLine ∧ (x0 ++ x1 ++ x2 ++ x3 ++ x4).length + x5.length ≤ sizeLine := by
  simp only [len_app]
  exact ⟨fits (by omega), fits (by omega), fits (by omega), fits (by omega), fits (by omega)⟩
theorem ok_lawLines {f : Addr} {fd : FuncData} (F : Fun K "_law_lines" "_law_lines" sLawLines f fd) (T : Tx K mg CT CS) : FnOk P w K mg base CX0 1 f fd pLawLines spLawLines := by
  refine F.ok scLawLines (fun vs H Q E h => ?_) (fun cdv A outer s H vs Q E hr h => ?_)
  · obtain ⟨d, b, dv, ts, tb, rfl, _⟩ := h
    rfl
  · obtain ⟨d, b, dv, ts, tb, rfl, hD, al, hB, ok, q⟩ := h
    refine ⟨_, (pss_cons (ps_set (i := 2) scLawLines.nd rfl (Or.inl rfl) (pe_lst (pa_cons pe_str pa_nil)))
      (pss_cons (ps_for PassesOwn.never rfl (pi_list (pv 1)) (pg_name (i := 3) scLawLines.nd rfl (Or.inl rfl))
        (pss_one (ps_asg (pe_op op_add_str (pe_op op_add_str (pe_ix ix_list (pv 2) pe_int (fun _ _ => rfl)) pe_str) (pe_callTy call_str_int (by rfl) T.str (by decide +kernel) (pa_cons (pv 3) pa_nil))) (pg_sub (pv 2) pe_int set_list))))
      (pss_cons (ps_for PassesOwn.never rfl (pi_list (pv 0)) (pg_name (i := 4) scLawLines.nd rfl (Or.inl rfl))
        (pss_cons (ps_expr (pe_bm PySem.F.plainAttrs_list PySem.F.slot_list_append PySem.F.type_list_append mt_append (pv 2) (pa_cons (pe_op op_add_str pe_str (pe_ix ix_tup (pv 4) pe_int (fun _ _ => rfl))) pa_nil)))
        (pss_cons (ps_for PassesOwn.never rfl (pi_list (pe_ix ix_tup (pv 4) pe_int (fun _ _ => rfl))) (pg_name (i := 5) scLawLines.nd rfl (Or.inl rfl))
          (pss_one (ps_expr (pe_bm PySem.F.plainAttrs_list PySem.F.slot_list_append PySem.F.type_list_append mt_append (pv 2) (pa_cons (pe_op op_add_str (pe_op op_add_str (pe_op op_add_str (pe_op op_add_str (pe_op op_add_str pe_str (pe_ix ix_tup (pv 5) pe_int (fun _ _ => rfl))) pe_str) (pe_callTy call_str_int (by rfl) T.str (by decide +kernel) (pa_cons (pe_ix ix_tup (pv 5) pe_int (fun _ _ => rfl)) pa_nil))) pe_str) (pe_callTy call_str_int (by rfl) T.str (by decide +kernel) (pa_cons (pe_ix ix_tup (pv 5) pe_int (fun _ _ => rfl)) pa_nil))) pa_nil)))))
        (pss_one (ps_for PassesOwn.never rfl (pi_list (pe_ix ix_tup (pv 4) pe_int (fun _ _ => rfl))) (pg_name (i := 6) scLawLines.nd rfl (Or.inl rfl))
          (pss_one (ps_expr (pe_bm PySem.F.plainAttrs_list PySem.F.slot_list_append PySem.F.type_list_append mt_append (pv 2) (pa_cons (pe_op op_add_str (pe_op op_add_str (pe_op op_add_str (pe_op op_add_str (pe_op op_add_str pe_str (pe_ix ix_tup (pv 6) pe_int (fun _ _ => rfl))) pe_str) (pe_ix ix_tup (pv 6) pe_int (fun _ _ => rfl))) pe_str) (pe_callTy call_str_int (by rfl) T.str (by decide +kernel) (pa_cons (pe_ix ix_tup (pv 6) pe_int (fun _ _ => rfl)) pa_nil))) pa_nil)))))))))
      (pss_one (ps_ret (pv 2)))))), ?_⟩
    have el : dv.length = ts.length := al.1
    have t6 := ok.t6
    have l5 : (Str.ofString "kind ").length ≤ 100 := by decide +kernel
    have l4 : (Str.ofString "way ").length ≤ 100 := by decide +kernel
    have l1 : (Str.ofString " ").length ≤ 100 := by decide +kernel
    have l0 : (Str.ofString "task ").length ≤ 100 := by decide +kernel
    refine ⟨(by show 1 ≤ sizeLine; decide), fun l hl => ?_⟩
    refine ⟨_, rfl, b, rfl, ⟨_, SqL.of ((same_new hl) _ _ hB)⟩, for_list (K := K) (a := b) (xs := tb.map V.int) (fun i σ H' => ∃ (o3 : Option V), σ = [some (.ref d), some (.ref b), some (.ref l), o3, none, none, none] ∧ Same H H' ∧ H' l = some (.lst [lineV (tableW (tb.take i))]))
      ⟨none, rfl, same_new hl, by rw [upd_same]; show _ = some (HO.lst [V.str (lineOf [kwTable])]); rw [line_one]; rfl⟩ (fun i σ H' _ ⟨_, _, s1, _⟩ => SqL.of (s1 _ _ hB)) ?_ ?_⟩
    · rintro i x σ H1 hi ⟨o3, rfl, s1, e1⟩
      rw [List.getElem?_map] at hi
      obtain ⟨c, hc, rfl⟩ := Option.map_eq_some_iff.mp hi
      have hil := len_lt hc
      have cap := ok.bo c (List.mem_of_getElem? hc)
      have lo := table_line (tb := tb.take i) (by rw [List.length_take]; have := ok.b2; omega) (fun c hc => ok.bo c (List.mem_of_mem_take hc))
      have ll := line_len lo
      have l7 := num_len7 cap
      refine ⟨_, rfl, l, _, 0, lineV (tableW (tb.take i)), rfl, rfl, SqL.of e1, atI_nat (j := 0) rfl, _, _, rfl, rfl, fits2 (by omega), _, rfl, c, rfl, log_of cap, _, _, rfl, rfl, fits2 (by rw [len_app]; show (lineOf (tableW (tb.take i))).length + (Str.ofString " ").length + (num c).length ≤ 16000000; omega), ?_⟩
      refine ⟨_, rfl, l, _, 0, 0, rfl, rfl, e1, rfl, _, rfl, s1.put hl, ?_⟩
      rw [upd_same]
      show some (HO.lst [V.str (lineOf (tableW (tb.take i)) ++ Str.ofString " " ++ num c)]) = _
      rw [line_snoc (by unfold tableW; simp)]
      unfold tableW
      rw [List.cons_append, take_map_succ _ hc]
    · rintro σ H1 ⟨o3, rfl, s1, e1⟩
      rw [List.length_map, List.take_length] at e1
      refine ⟨_, rfl, d, rfl, ⟨_, SqL.of (s1 _ _ hD)⟩, for_list (K := K) (a := d) (xs := dv) (fun i σ H' => ∃ (o4 o5 o6 : Option V), σ = [some (.ref d), some (.ref b), some (.ref l), o3, o4, o5, o6] ∧ Same H H' ∧ H' l = some (.lst ((tableW tb :: blocks (ts.take i)).map lineV)))
        ⟨none, none, none, rfl, s1, e1⟩ (fun i σ H' _ ⟨_, _, _, _, s2, _⟩ => SqL.of (s2 _ _ hD)) ?_ ?_⟩
      · rintro i x σ H2 hi ⟨o4, o5, o6, rfl, s2, e2⟩
        obtain ⟨t, ht, ⟨u, a, c, kv, wv, rfl, hu, hA, hC, alk, alw⟩⟩ := al.get hi
        have hil := len_lt ht
        have tok := ok.to t (List.mem_of_getElem? ht)
        have k8 := tok.k8
        have w16 := tok.w16
        have ek : kv.length = t.kinds.length := alk.1
        have ew : wv.length = t.ways.length := alw.1
        have bl := blocks_len (ts := ts.take i) fun z hz => ok.to z (List.mem_of_mem_take hz)
        rw [List.length_take] at bl
        have c0 := cat6n l0 tok.nm.l100 l1 l1 l1 l1
        refine ⟨_, rfl, .inl ⟨rfl, _, SqL.of e2⟩, _, rfl, u, _, 0, .str t.name, rfl, rfl, SqT.of (s2 _ _ hu), atI_nat (j := 0) rfl, _, _, rfl, rfl, c0.1, l, _, _, rfl, rfl, e2, ?_, ?_⟩
        · rw [List.length_map, List.length_cons]
          exact small1000 (by omega)
        have e3 : (upd H2 l (.lst ((tableW tb :: blocks (ts.take i)).map lineV ++ [.str (Str.ofString "task " ++ t.name)]))) l = some (.lst ((tableW tb :: blocks (ts.take i) ++ headW t.name :: (t.kinds.take 0).map kindW).map lineV)) := by
          rw [upd_same, glue_task, List.map_append] <;> rfl
        refine ⟨_, rfl, u, _, 1, .ref a, rfl, rfl, SqT.of ((s2.put hl) _ _ hu), atI_nat (j := 1) rfl, a, rfl, ⟨_, SqL.of ((s2.put hl) _ _ hA)⟩, for_list (K := K) (a := a) (xs := kv) (fun j σ H' => ∃ (o5 : Option V), σ = [some (.ref d), some (.ref b), some (.ref l), o3, some (.ref u), o5, o6] ∧ Same H H' ∧ H' l = some (.lst ((tableW tb :: blocks (ts.take i) ++ headW t.name :: (t.kinds.take j).map kindW).map lineV)))
          ⟨o5, rfl, s2.put hl, e3⟩ (fun i σ H' _ ⟨_, _, s3, _⟩ => SqL.of (s3 _ _ hA)) ?_ ?_⟩
        · rintro j y σ H3 hj ⟨o5, rfl, s3, e4⟩
          obtain ⟨k, hk, ⟨r, rfl, hr2⟩⟩ := alk.get hj
          have hjl := len_lt hk
          have ko := tok.ko k (List.mem_of_getElem? hk)
          have cc := cap_of ko.c1 ko.c2
          have cd := cap_of ko.d1 ko.d2
          have c6 := cat6n l5 ko.nm.l100 l1 (num_l100 cc) l1 (num_l100 cd)
          have hr3 := s3 _ _ hr2
          refine ⟨_, rfl, .inl ⟨rfl, _, SqL.of e4⟩, ?_⟩
          refine ⟨_, rfl, r, _, 0, .str k.1, rfl, rfl, SqT.of hr3, atI_nat (j := 0) rfl, _, _, rfl, rfl, c6.1, _, _, rfl, rfl, c6.2.1, _, rfl, r, _, 1, .int k.2.1, rfl, rfl, SqT.of hr3, atI_nat (j := 1) rfl, k.2.1, rfl, log_of cc, _, _, rfl, rfl, c6.2.2.1, _, _, rfl, rfl, c6.2.2.2.1, _, rfl, r, _, 2, .int k.2.2, rfl, rfl, SqT.of hr3, atI_nat (j := 2) rfl, k.2.2, rfl, log_of cd, _, _, rfl, rfl, c6.2.2.2.2, ?_⟩
          refine ⟨l, _, _, rfl, rfl, e4, ?_, _, rfl, s3.put hl, ?_⟩
          · rw [List.length_map, List.length_append, List.length_cons, List.length_cons, List.length_map, List.length_take]
            exact small1000 (by omega)
          · rw [upd_same, take_map_succ _ hk]
            refine (congrArg (fun z => some (HO.lst ((tableW tb :: blocks (ts.take i) ++ headW t.name :: (t.kinds.take j).map kindW).map lineV ++ [V.str z]))) (glue_kind k.1 (num k.2.1) (num k.2.2))).trans ?_
            rw [← List.cons_append, ← List.append_assoc, List.map_append (l₂ := [kindW k])] <;> rfl
        · rintro σ H3 ⟨o5', rfl, s3, e4⟩
          rw [ek, List.take_length] at e4
          refine ⟨_, rfl, u, _, 2, .ref c, rfl, rfl, SqT.of (s3 _ _ hu), atI_nat (j := 2) rfl, c, rfl, ⟨_, SqL.of (s3 _ _ hC)⟩, for_list (K := K) (a := c) (xs := wv) (fun j σ H' => ∃ (o6 : Option V), σ = [some (.ref d), some (.ref b), some (.ref l), o3, some (.ref u), o5', o6] ∧ Same H H' ∧ H' l = some (.lst ((tableW tb :: blocks (ts.take i) ++ headW t.name :: (t.kinds.map kindW ++ (t.ways.take j).map wayW)).map lineV)))
            ⟨o6, rfl, s3, by rw [e4, List.take_zero, List.map_nil, List.append_nil]⟩ (fun i σ H' _ ⟨_, _, s4, _⟩ => SqL.of (s4 _ _ hC)) ?_ ?_⟩
          · rintro j y σ H4 hj ⟨o6, rfl, s4, e5⟩
            obtain ⟨k, hk, ⟨r, rfl, hr2⟩⟩ := alw.get hj
            have hjl := len_lt hk
            have ko := tok.wo k (List.mem_of_getElem? hk)
            have n1 := tok.name_of ko.s
            have n2 := tok.name_of ko.t
            have cd := cap_of ko.d1 ko.d2
            have c6 := cat6n l4 n1.l100 l1 n2.l100 l1 (num_l100 cd)
            have hr3 := s4 _ _ hr2
            refine ⟨_, rfl, .inl ⟨rfl, _, SqL.of e5⟩, ?_⟩
            refine ⟨_, rfl, r, _, 0, .str k.1, rfl, rfl, SqT.of hr3, atI_nat (j := 0) rfl, _, _, rfl, rfl, c6.1, _, _, rfl, rfl, c6.2.1, _, rfl, r, _, 1, .str k.2.1, rfl, rfl, SqT.of hr3, atI_nat (j := 1) rfl, _, _, rfl, rfl, c6.2.2.1, _, _, rfl, rfl, c6.2.2.2.1, _, rfl, r, _, 2, .int k.2.2, rfl, rfl, SqT.of hr3, atI_nat (j := 2) rfl, k.2.2, rfl, log_of cd, _, _, rfl, rfl, c6.2.2.2.2, ?_⟩
            refine ⟨l, _, _, rfl, rfl, e5, ?_, _, rfl, s4.put hl, ?_⟩
            · rw [List.length_map, List.length_append, List.length_cons, List.length_cons, List.length_append, List.length_map, List.length_map, List.length_take]
              exact small1000 (by omega)
            · rw [upd_same, take_map_succ _ hk]
              refine (congrArg (fun z => some (HO.lst ((tableW tb :: blocks (ts.take i) ++ headW t.name :: (t.kinds.map kindW ++ (t.ways.take j).map wayW)).map lineV ++ [V.str z]))) (glue_way k.1 k.2.1 (num k.2.2))).trans ?_
              refine (congrArg (fun z => some (HO.lst z)) (snoc_lines _ (wayW k))).trans ?_
              simp only [List.cons_append]; simp only [List.append_assoc, List.cons_append]
          · rintro σ H4 ⟨o6, rfl, s4, e5⟩
            rw [ew, List.take_length] at e5
            refine ⟨_, _, _, rfl, s4, ?_⟩
            rw [e5, blocks_snoc ht] <;> rfl
      · rintro σ H2 ⟨o4, o5, o6, rfl, s2, e2⟩
        rw [el, List.take_length] at e2
        exact ⟨_, rfl, q H2 l s2 hl e2⟩
end
end Nv
/-! NvV: the law. -/
namespace Nv
open PySem PySem.Spec PyProof.Rows L2
/-- a statement whose ways meet: J behind it -/
def tCutN (t u : TS) : TS := fun D σ H => ∃ J : L2.St → Hp → Prop, t { D with nx := J } σ H ∧ ∀ σ' H', J σ' H' → u D σ' H'
theorem pss_cutN {X : Cx} {st : Stmt} {rest : List Stmt} {t u : TS} (h1 : PS X st t) (h2 : PSs X rest u) : PSs X (st :: rest) (tCutN t u) := by
  refine ⟨fun pins s σ H D I h => ?_⟩
  obtain ⟨J, h, k⟩ := h
  refine wpAny_execs_cons (thn (h1.run pins s σ H { D with nx := J } I h) fun f s1 q => ?_)
  cases f with
  | next =>
    obtain ⟨σ', H', I', q⟩ := q
    exact h2.run pins s1 σ' H' D I' (k σ' H' q)
  | ret v => exact q
  | brk => exact q
  | cont => exact q
/-- a drawn task whose lists are other ones than D -/
def DrawX (D : Addr) (H : Hp) (v : V) (t : TD) : Prop := ∃ (q a b : Addr) (kv wv : List V), v = .ref q ∧ H q = some (.tup [.str t.name, .ref a, .ref b]) ∧ H a = some (.lst kv) ∧ H b = some (.lst wv) ∧ Al (KT H) kv t.kinds ∧ Al (WT H) wv t.ways ∧ a ≠ D ∧ b ≠ D
section
variable {D : Addr} {H H0 H' : Hp} {v : V} {t : TD} {vs : List V} {ts : List TD}
theorem DrawX.same (h : DrawX D H v t) (s : Same H H') : DrawX D H' v t :=
  let ⟨q, a, b, kv, wv, e, h1, h2, h3, h4, h5, n⟩ := h
  ⟨q, a, b, kv, wv, e, s _ _ h1, s _ _ h2, s _ _ h3, kts_keep s.keep h4, wts_keep s.keep h5, n⟩
theorem DrawX.put {xs ys : List V} (h : DrawX D H v t) (hD : H D = some (.lst xs)) : DrawX D (upd H D (.lst ys)) v t :=
  let ⟨q, a, b, kv, wv, e, h1, h2, h3, h4, h5, n1, n2⟩ := h
  ⟨q, a, b, kv, wv, e, keep_lst hD _ _ h1 tup_ne, by rw [upd_ne n1]; exact h2, by rw [upd_ne n2]; exact h3, kts_keep (keep_lst hD) h4, wts_keep (keep_lst hD) h5, n1, n2⟩
theorem DrawX.draw (h : DrawX D H v t) : DrawAt H v t :=
  let ⟨q, a, b, kv, wv, e, h1, h2, h3, h4, h5, _⟩ := h
  ⟨q, a, b, kv, wv, e, h1, h2, h3, h4, h5⟩
theorem DrawnAt.x {o : HO} (h : DrawnAt H0 H v t) (hD : H0 D = some o) : DrawX D H v t :=
  let ⟨q, a, b, kv, wv, e, h1, h2, h3, h4, h5, n1, n2⟩ := h
  ⟨q, a, b, kv, wv, e, h1, h2, h3, h4, h5, (ne_of_none hD n1).symm, (ne_of_none hD n2).symm⟩
end
theorem al_set {α β : Type} {R : α → β → Prop} {xs : List α} {ys : List β} (h : Al R xs ys) {j : Nat} {x : α} {y : β} (r : R x y) : Al R (xs.set j x) (ys.set j y) := by
  refine ⟨by rw [List.length_set, List.length_set]; exact h.1, fun i u v h1 h2 => ?_⟩
  by_cases e : j = i
  · subst e
    have hi := len_lt h1
    rw [List.length_set] at hi
    have hi2 : j < ys.length := by rw [← h.1]; exact hi
    rw [List.getElem?_set_self hi] at h1
    rw [List.getElem?_set_self hi2] at h2
    cases h1
    cases h2
    exact r
  · rw [List.getElem?_set_ne e] at h1 h2
    exact h.2 i u v h1 h2
theorem names_set {ts : List TD} {j : Nat} {t : TD} {n : Str} (h : (ts.map (·.name))[j]? = some n) (e : t.name = n) : (ts.set j t).map (·.name) = ts.map (·.name) := by
  rw [List.map_set, e]
  refine List.ext_getElem? fun i => ?_
  by_cases hij : j = i
  · subst hij
    rw [List.getElem?_set_self (len_lt h), h]
  · rw [List.getElem?_set_ne hij]
/-- what the law has drawn -/
structure Drawn (K : PySem.W.Frag) (Hx : Hp) (p pn D : Addr) (ns : List Int) (nm : List Str) (m : Nat) (H : Hp) (dv : List V) (ts : List TD) : Prop where
  same : Same Hx H
  here : H D = some (.lst dv)
  al : Al (DrawX D H) dv ts
  nm : ts.map (·.name) = nm.take m
  ok : ∀ t ∈ ts, TOk t
def zz : TD := ⟨Str.ofString "zz", [(Str.ofString "zz", 1, 1)], []⟩
theorem zz_name : NameOk (Str.ofString "zz") := ⟨by decide +kernel, by decide +kernel, by decide +kernel⟩
theorem zz_ok : TOk zz := ⟨zz_name, by decide, by decide, by simp [zz], fun k hk => by
  have e : k = (Str.ofString "zz", 1, 1) := by simpa [zz] using hk
  subst e
  exact ⟨zz_name, by decide, by decide, by decide, by decide⟩, by decide, fun x hx => by simp [zz] at hx⟩
section
variable {P : Program} {w : World} {K : PySem.W.Frag} {mg : Str → Option Value} {base : Heap} {CT CS : Addr}
theorem ok_law {f : Addr} {fd : FuncData} (F : Fun K "law" "law" sLaw f fd) (T : Tx K mg CT CS) (D__law_numbers : Def P w K mg base 2 "_law_numbers" pLawNumbers (spLawNumbers K))
    (D__law_names : Def P w K mg base 1 "_law_names" pLawNames spLawNames) (D__law_task : Def P w K mg base 3 "_law_task" pLawTask (spLawTask 27)) (D__law_large : Def P w K mg base 2 "_law_large" pLawLarge (spLawTask 27))
    (D__law_table : Def P w K mg base 1 "_law_table" pLawTable spLawTable) (D__law_lines : Def P w K mg base 1 "_law_lines" pLawLines spLawLines) (D_parse_system : Def P w K mg base 6 "parse_system" pParseSystem (spParseSystem CS CT))
    (D__law_same_system : Def P w K mg base 2 "_law_same_system" pLawSameSystem (spLawSameSystem CS CT)) (D__law_made : Def P w K mg base 5 "_law_made" pLawMade (spLawMade CT)) (D_format_system : Def P w K mg base 2 "format_system" pFormatSystem (spFormatSystem CS CT))
    (M1 : DefM P w K mg base 1 CS "task_number" pSystemTaskNumber (spTaskNumber CS CT)) (M2 : DefM P w K mg base 2 CT "ways_from" pTaskWaysFrom (spWaysFrom CT)) (M3 : DefM P w K mg base 2 CT "cost" pTaskCost (spCost CT)) : FnOk P w K mg base CX0 7 f fd pLaw (spLaw K) := by
  obtain ⟨f1, fd1, G_task_number, m_task_number, b_task_number⟩ := M1.ex
  obtain ⟨f2, fd2, G_ways_from, m_ways_from, b_ways_from⟩ := M2.ex
  obtain ⟨f3, fd3, G_cost, m_cost, b_cost⟩ := M3.ex
  refine F.ok scLaw (fun vs H Q E h => ?_) (fun cdv A outer s H vs Q E hr h => ?_)
  · obtain ⟨a, xs, rfl, _⟩ := h
    rfl
  · obtain ⟨a, xs, rfl, hS, l63, q⟩ := h
    refine ⟨_, (pss_cons (ps_set (i := 1) scLaw.nd rfl (Or.inr rfl) (pe_def D__law_numbers (hr.mono (by decide)) (pa_cons (pv 0) (pa_cons pe_int pa_nil))))
      (pss_cons (ps_set (i := 2) scLaw.nd rfl (Or.inl rfl) (pe_op op_mod (pe_ix ix_list (pv 1) pe_int (fun _ _ => rfl)) pe_int))
      (pss_cons (ps_set (i := 3) scLaw.nd rfl (Or.inr rfl) (pe_def D__law_names (hr.mono (by decide)) (pa_cons (pv 1) (pa_cons pe_int (pa_cons (pe_op op_add (pv 2) pe_int) pa_nil)))))
      (pss_cons (ps_setLc (i := 4) (own := [("_law_k", 8)]) (g := gName 8) (tt := tYes) rfl scLaw.nd rfl rfl (sw_true rfl rfl rfl (by decide +kernel)) (pi_range1 rfl T.range (pa_cons (pv 2) pa_nil)) (blkOk_by (own := [("_law_k", 8)]) (N := nLaw) (sc := defScope sLaw) (by decide +kernel)) (fun _ _ _ _ _ => pg_name (i := 8) scLaw.nd rfl (Or.inl rfl)) (fun _ _ _ _ _ => pts_nil) (fun _ _ _ _ _ => (pe_def D__law_task (hr.mono (by decide)) (pa_cons (pv 1) (pa_cons (pe_op op_add pe_int (pe_op op_mul pe_int (pv 8))) (pa_cons (pe_ix (ix_listK K) (pv 3) (pv 8) (fun _ _ => rfl)) pa_nil))))))
      (pss_cutN (ps_if (PW.pt (pw_and (pt_cmpR op_gt (pv 2) pe_int (nomark _)) (pw_and1 (pt_cmpR op_eq (pe_op op_mod (pe_ix ix_list (pv 1) pe_int (fun _ _ => rfl)) pe_int) pe_int (nomark _)))))
        (pss_one (ps_asg (pe_def D__law_large (hr.mono (by decide)) (pa_cons (pv 1) (pa_cons pe_int (pa_cons (pe_ix ix_list (pv 3) (pe_op op_mod (pe_ix ix_list (pv 1) pe_int (fun _ _ => rfl)) (pv 2)) (fun _ _ => rfl)) pa_nil)))) (pg_sub (pv 4) (pe_op op_mod (pe_ix ix_list (pv 1) pe_int (fun _ _ => rfl)) (pv 2)) set_list)))
        pss_nil)
      (pss_cons (ps_set (i := 5) scLaw.nd rfl (Or.inl rfl) (pe_def D__law_table (hr.mono (by decide)) (pa_cons (pv 1) (pa_cons pe_int pa_nil))))
      (pss_cons (ps_set (i := 6) scLaw.nd rfl (Or.inl rfl) (pe_join pe_str (pe_def D__law_lines (hr.mono (by decide)) (pa_cons (pv 4) (pa_cons (pv 5) pa_nil)))))
      (pss_cons (ps_set (i := 7) scLaw.nd rfl (Or.inl rfl) (pe_def D_parse_system (hr.mono (by decide)) (pa_cons (pv 6) pa_nil)))
      (pss_cons (ps_if (pt_not (pt_val (pe_def D__law_same_system (hr.mono (by decide)) (pa_cons (pv 7) (pa_cons (pv 4) (pa_cons (pv 5) pa_nil))))))
        pss_never
        pss_nil)
      (pss_cons (ps_for PassesOwn.never rfl (pi_range1 rfl T.range (pa_cons (pv 2) pa_nil)) (pg_name (i := 8) scLaw.nd rfl (Or.inl rfl))
        (pss_cons (ps_if (pt_cmpR op_ne (pe_meth (pv 7) T.cs m_task_number G_task_number (hr.mono (by decide)) b_task_number .nil pass0 (pa_cons (pe_ix ix_list (pv 3) (pv 8) (fun _ _ => rfl)) pa_nil)) (pv 8) (nomark _))
          pss_never
          pss_nil)
        (pss_one (ps_for PassesOwn.never rfl (pi_list (pe_ix ix_tup (pe_ix ix_list (pv 4) (pv 8) (fun _ _ => rfl)) pe_int (fun _ _ => rfl))) (pg_name (i := 9) scLaw.nd rfl (Or.inr rfl))
          (pss_cons (ps_setLc (i := 10) (own := [("_law_way", 12)]) (g := gName 12) rfl scLaw.nd rfl rfl (sw_true rfl rfl rfl (by decide +kernel)) (pi_list (pe_ix ix_tup (pe_ix ix_list (pv 4) (pv 8) (fun _ _ => rfl)) pe_int (fun _ _ => rfl))) (blkOk_by (own := [("_law_way", 12)]) (N := nLaw) (sc := defScope sLaw) (by decide +kernel)) (fun _ _ _ _ _ => pg_name (i := 12) scLaw.nd rfl (Or.inl rfl)) (fun _ _ _ _ _ => (pts_one (pt_cmpR op_eq (pe_ix (ix_tupK K) (pv 12) pe_int (fun _ _ => rfl)) (pe_ix (ix_tupK K) (pv 9) pe_int (fun _ _ => rfl)) (nomark _)))) (fun _ _ _ _ _ => (pe_tup (pa_cons (pe_ix (ix_tupK K) (pv 12) pe_int (fun _ _ => rfl)) (pa_cons (pe_ix (ix_tupK K) (pv 12) pe_int (fun _ _ => rfl)) pa_nil)))))
          (pss_one (ps_if (PW.pt (pw_or (pt_cmpR (op_neD hr.units) (pe_meth (pe_ix ix_tup (pe_fld (pv 7) rfl) (pv 8) (fun _ _ => rfl)) T.ct m_ways_from G_ways_from (hr.mono (by decide)) b_ways_from .nil pass0 (pa_cons (pe_ix ix_tup (pv 9) pe_int (fun _ _ => rfl)) pa_nil)) (pv 10) (nomark _)) (pw_or1 (pt_cmpR op_ne (pe_meth (pe_ix ix_tup (pe_fld (pv 7) rfl) (pv 8) (fun _ _ => rfl)) T.ct m_cost G_cost (hr.mono (by decide)) b_cost .nil pass0 (pa_cons (pe_ix ix_tup (pv 9) pe_int (fun _ _ => rfl)) pa_nil)) (pe_ix ix_tup (pv 9) pe_int (fun _ _ => rfl)) (nomark _)))))
            pss_never
            pss_nil)))))))
      (pss_cons (ps_set (i := 11) scLaw.nd rfl (Or.inl rfl) (pe_def D__law_made (hr.mono (by decide)) (pa_cons (pe_tup (pa_cons pe_str (pa_cons (pe_lst (pa_cons (pe_tup (pa_cons pe_str (pa_cons pe_int (pa_cons pe_int pa_nil)))) pa_nil)) (pa_cons (pe_lst pa_nil) pa_nil)))) pa_nil)))
      (pss_one (ps_ret (pe_and (pe_cmpR (op_eqD hr.units) (pe_fld (pv 11) rfl) (pe_tup pa_nil) (nomark _)) (pe_and (pe_cmpR op_eq (pe_def D_format_system (hr.mono (by decide)) (pa_cons (pv 7) pa_nil)) (pv 6) (nomark _)) (pe_one (pe_def D__law_same_system (hr.mono (by decide)) (pa_cons (pe_def D_parse_system (hr.mono (by decide)) (pa_cons (pv 6) pa_nil)) (pa_cons (pv 4) (pa_cons (pv 5) pa_nil)))))))))))))))))))), ?_⟩
    have p7 : (0 : Int) < 7 := by decide
    have p4 : (0 : Int) < 4 := by decide
    refine ⟨_, rfl, a, xs, rfl, hS, l63, fun H1 p ns s1 hp hN => ?_⟩
    obtain ⟨n0, _, lo0, hi0, g0⟩ := nums_get hN.2 (show 0 < 190 by decide)
    obtain ⟨x4, _, lo4, hi4, g4⟩ := nums_get hN.2 (show 184 < 190 by decide)
    obtain ⟨x5, _, lo5, hi5, g5⟩ := nums_get hN.2 (show 185 < 190 by decide)
    obtain ⟨m, hm, hm6⟩ : ∃ m : Nat, n0 % 7 = (m : Int) ∧ m ≤ 6 := ⟨(n0 % 7).toNat, by omega, by omega⟩
    refine ⟨_, rfl, p, _, 0, .int n0, rfl, rfl, SqL.of hN.1, atI_nat (j := 0) g0, _, 7, rfl, rfl, p7, ?_⟩
    refine ⟨_, rfl, _, rfl, _, 1, rfl, rfl, p, ns, 1, m + 1, congrArg (fun z => [V.ref p, V.int ((1 : Nat) : Int), V.int (z + 1)]) hm, hN, by decide, by omega, fun H2 pn nm s2 hpn e2 ln nd nok => ?_⟩
    have hN2 := hN.same s2
    refine ⟨_, rfl, _, rfl, by omega, by omega, fun D hD => lc_it walk_range (fun i H' => ∃ dv ts, Drawn K H2 p pn D ns nm i H' dv ts)
      ⟨[], [], same_new hD, upd_same, Al.nil, rfl, fun t ht => by cases ht⟩ (fun _ _ _ _ => trivial) ?_ ?_⟩
    · rintro i x H3 H4 hi ⟨dv, ts, dr⟩ ⟨rfl, rfl⟩
      have him : i < m := by omega
      obtain ⟨z, gz, mz, gz'⟩ := strs_get (nm := nm) (j := i) (by omega)
      have e8 : (7 : Int) + 27 * (0 + (i : Int)) = ((7 + 27 * i : Nat) : Int) := by omega
      have ld : dv.length = i := by
        have := congrArg List.length dr.nm
        rw [List.length_map, List.length_take] at this
        rw [dr.al.1]
        omega
      refine ⟨rfl, _, rfl, _, rfl, 27, _, rfl, rfl, .inl ⟨by decide, by decide⟩, 7, _, rfl, rfl, _, rfl, _, rfl, pn, _, _, .str z, rfl, rfl, SqL.of (dr.same _ _ e2), at_of (by omega) gz', p, ns, 7 + 27 * i, z, congrArg (fun y => [V.ref p, V.int y, V.str z]) e8, hN2.same dr.same, by omega, nok z mz, fun H4 v t s4 tn to da => ?_⟩
      have e4 := s4 _ _ dr.here
      refine ⟨dv, e4, small16 (by omega), dv ++ [v], ts ++ [t], (dr.same.trans s4).put hD, upd_same, ?_, ?_, fun y hy => ?_⟩
      · exact (dr.al.mono fun v t h => (h.same s4).put e4).snoc ((da.x dr.here).put e4)
      · rw [List.map_append, dr.nm, List.take_add_one, gz]
        show nm.take i ++ [t.name] = nm.take i ++ [z]
        rw [tn]
      · rcases List.mem_append.mp hy with h | h
        · exact dr.ok y h
        · rw [List.mem_singleton.mp h]
          exact to
    · rintro H3 ⟨dv, ts, dr⟩
      rw [show (n0 % 7).toNat = m by omega] at dr
      -- if many > 0 and ..: the ways meet
      refine ⟨fun σ' H' => σ' = [some (.ref a), some (.ref p), some (.int (n0 % 7)), some (.ref pn), some (.ref D), none, none, none, none, none, none, none, none] ∧ ∃ dv ts, Drawn K H2 p pn D ns nm m H' dv ts, ?_, ?_⟩
      · have stay : Drawn K H2 p pn D ns nm m H3 dv ts := dr
        refine ⟨_, rfl, _, 0, rfl, rfl, _, rfl, ?_⟩
        by_cases h0 : m = 0
        · refine dF (by omega) ?_
          exact ⟨rfl, dv, ts, stay⟩
        refine dT (by omega) ?_
        refine ⟨_, rfl, p, _, 184, .int x4, rfl, rfl, SqL.of (hN2.same dr.same).1, atI_nat (j := 184) g4, _, 4, rfl, rfl, p4, rfl, _, rfl, ?_⟩
        refine ite2 (fun _ => ?_) (fun _ => ⟨rfl, dv, ts, stay⟩)
        have pm : (0 : Int) < n0 % 7 := by omega
        obtain ⟨j, hj, hjm⟩ : ∃ j : Nat, x5 % (n0 % 7) = (j : Int) ∧ j < m := by
          have c1 := Int.emod_nonneg x5 (Int.ne_of_gt pm)
          have c2 := Int.emod_lt_of_pos x5 pm
          exact ⟨(x5 % (n0 % 7)).toNat, by omega, by omega⟩
        obtain ⟨z, gz, mz, gz'⟩ := strs_get (nm := nm) (j := j) (by omega)
        have hN3 := hN2.same dr.same
        refine ⟨_, rfl, _, rfl, _, rfl, p, _, 185, .int x5, rfl, rfl, SqL.of hN3.1, atI_nat (j := 185) g5, _, rfl, _, _, rfl, rfl, pm, pn, _, _, .str z, rfl, rfl, SqL.of (dr.same _ _ e2), at_of hj gz', p, ns, 7, z, rfl, hN3, by decide, nok z mz, fun H4 v t s4 tn to da => ?_⟩
        have e4 := s4 _ _ dr.here
        have ld : dv.length = m := by
          have := congrArg List.length dr.nm
          rw [List.length_map, List.length_take] at this
          rw [dr.al.1]
          omega
        refine ⟨_, rfl, _, rfl, p, _, 185, .int x5, rfl, rfl, SqL.of (hN3.same s4).1, atI_nat (j := 185) g5, _, rfl, _, _, rfl, rfl, pm, D, dv, x5 % (n0 % 7), j, rfl, rfl, e4, ?_, rfl, dv.set j v, ts.set j t, (dr.same.trans s4).put hD, upd_same, ?_, ?_, fun y hy => ?_⟩
        · rw [hj]
          unfold ixN
          rw [if_pos (by omega), if_pos (by omega), Int.toNat_natCast]
        · exact al_set (dr.al.mono fun v t h => (h.same s4).put e4) ((da.x dr.here).put e4)
        · have : (ts.map (·.name))[j]? = some z := by
            rw [dr.nm, List.getElem?_take_of_lt hjm, gz]
          rw [names_set this tn]
          exact dr.nm
        · rcases List.mem_or_eq_of_mem_set hy with h | h
          · exact dr.ok y h
          · rw [h]
            exact to
      · rintro σ H3 ⟨rfl, dv, ts, dr⟩
        have lts : ts.length = m := by
          have := congrArg List.length dr.nm
          rw [List.length_map, List.length_take] at this
          omega
        have ld : dv.length = m := by rw [dr.al.1, lts]
        have ndn : (ts.map (·.name)).Nodup := by
          rw [dr.nm]
          exact nd.sublist (List.take_sublist _ _)
        have hN3 := hN2.same dr.same
        have e3 := dr.same _ _ e2
        have al0 : Al (DrawAt H3) dv ts := dr.al.mono fun _ _ => DrawX.draw
        -- the table, the lines, the text
        refine ⟨_, rfl, p, ns, 170, rfl, hN3, by decide, fun H4 r tb s4 hr4 e4 b1 b2 bo => ?_⟩
        have sok : SOk ts tb := ⟨by omega, ndn, dr.ok, b1, b2, bo⟩
        refine ⟨⟨_, rfl⟩, _, rfl, _, rfl, D, r, dv, ts, tb, rfl, s4 _ _ dr.here, draws_same s4 al0, e4, sok, fun H5 L s5 hL e5 => ?_⟩
        rw [lines_strs] at e5
        refine ⟨_, L, (sysW ts tb).map lineOf, rfl, rfl, .inl (SqL.of e5), text_room sok.text, ?_⟩
        -- parse_system, the same system
        refine ⟨_, rfl, ts, tb, rfl, sok, fun H6 v s6 sa => ?_⟩
        have s36 := (s4.trans s5).trans s6
        have s46 := s5.trans s6
        refine ⟨_, rfl, _, rfl, _, rfl, v, D, r, dv, ts, tb, rfl, sa, s36 _ _ dr.here, draws_same s36 al0, s46 _ _ e4, sok, fun H7 s7 => ⟨true, rfl, ?_⟩⟩
        have s37 := s36.trans s7
        have sa7 := sa.keep s7.keep
        obtain ⟨ps, dxs, ta, ba, tv, rfl, hps, hta, hba, alt⟩ := id sa7
        have hD7 := s37 _ _ dr.here
        have al7 := draws_same s37 al0
        have en7 := s37 _ _ e3
        -- the tasks that are read answer
        refine ⟨_, rfl, _, rfl, by omega, by omega, for_it walk_range (fun i σ H' => ∃ (o8 o9 o10 : Option V), σ = [some (.ref a), some (.ref p), some (.int (n0 % 7)), some (.ref pn), some (.ref D), some (.ref r), some (.str (textOf (sysW ts tb))), some (.ref ps), o8, o9, o10, none, none] ∧ Same H7 H')
          ⟨none, none, none, rfl, Same.refl H7⟩ (fun _ _ _ _ _ => trivial) ?_ ?_⟩
        · rintro i x σ H8 H9 hi ⟨o8, o9, o10, rfl, s8⟩ ⟨rfl, rfl⟩
          have hi' : i < ts.length := by omega
          have ht : ts[i]? = some ts[i] := List.getElem?_eq_getElem hi'
          generalize ts[i] = t at ht
          have tok := dr.ok t (List.mem_of_getElem? ht)
          have k8 := tok.k8
          have w16 := tok.w16
          have gn : nm[i]? = some t.name := by
            have q1 : (ts.map (·.name))[i]? = some t.name := by rw [List.getElem?_map, ht] <;> rfl
            rw [dr.nm, List.getElem?_take_of_lt (by omega)] at q1
            exact q1
          obtain ⟨y1, g1, a1⟩ := alt.get' ht
          obtain ⟨y2, g2, ⟨qd, ad, bd, kv, wv, rfl, hq, hA, hB, alk, alw⟩⟩ := al7.get' ht
          obtain ⟨rp, dxp, kap, wap, ksp, wsp, rfl, hrp, _⟩ := id a1
          refine ⟨_, rfl, ps, dxs, _, rfl, s8 _ _ hps, sf_no _ _ (by decide +kernel) (by decide +kernel), _, rfl, _, rfl, pn, _, _, .str t.name, rfl, rfl, SqL.of (s8 _ _ en7), at_of (j := i) (by omega) (by rw [List.getElem?_map, gn]; rfl), .ref ps, ts, tb, i, t, rfl, sa7.keep s8.keep, ndn, ht, fun H10 s10 => ?_⟩
          have s810 := s8.trans s10
          refine ⟨_, rfl, rfl, _, rfl, iteNS (congrArg V.int (by omega)) ?_⟩
          refine ⟨_, rfl, _, rfl, D, _, _, .ref qd, rfl, rfl, SqL.of (s810 _ _ hD7), at_of (by omega) g2, qd, _, 1, .ref ad, rfl, rfl, SqT.of (s810 _ _ hq), atI_nat (j := 1) rfl, ad, rfl, ⟨_, SqL.of (s810 _ _ hA)⟩, for_list (K := K) (a := ad) (xs := kv)
            (fun j σ H' => ∃ (o9 o10 : Option V), σ = [some (.ref a), some (.ref p), some (.int (n0 % 7)), some (.ref pn), some (.ref D), some (.ref r), some (.str (textOf (sysW ts tb))), some (.ref ps), some (.int (0 + (i : Int))), o9, o10, none, none] ∧ Same H7 H')
            ⟨o9, o10, rfl, s810⟩ (fun j σ H' _ ⟨_, _, _, z⟩ => SqL.of (z _ _ hA)) ?_ ?_⟩
          · rintro j y σ H11 hj ⟨o9, o10, rfl, s11⟩
            obtain ⟨k, hk, ⟨u, rfl, hu⟩⟩ := alk.get hj
            have hjl := len_lt hk
            have hu11 := s11 _ _ hu
            -- the ways that leave
            refine ⟨_, rfl, _, rfl, D, _, _, .ref qd, rfl, rfl, SqL.of (s11 _ _ hD7), at_of (by omega) g2, qd, _, 2, .ref bd, rfl, rfl, SqT.of (s11 _ _ hq), atI_nat (j := 2) rfl, bd, rfl, ⟨_, SqL.of (s11 _ _ hB)⟩, fun D3 hD3 => lc_list (K := K) (a := bd) (xs := wv)
              (fun j H' => Same H11 H' ∧ ∃ acc, H' D3 = some (.lst acc) ∧ Al (PT2 H') acc (leaving (t.ways.take j) k.1)) ⟨same_new hD3, [], upd_same, Al.nil⟩ (fun j H' _ ⟨z, _⟩ => SqL.of (z _ _ (s11 _ _ hB))) ?_ ?_⟩
            · rintro j2 y2 H12 hj2 ⟨s12, acc, e12, al12⟩
              obtain ⟨wy, hwy, ⟨r3, rfl, hr3⟩⟩ := alw.get hj2
              have hjl2 := len_lt hwy
              have hr12 := s12 _ _ (s11 _ _ hr3)
              have la : acc.length ≤ 16 := by
                rw [al12.1]
                have := leaving_len (t.ways.take j2) k.1
                rw [List.length_take] at this
                omega
              have st := leaving_step hwy k.1
              refine ⟨rfl, _, rfl, r3, _, 0, .str wy.1, rfl, rfl, SqT.of hr12, atI_nat (j := 0) rfl, _, rfl, u, _, 0, .str k.1, rfl, rfl, SqT.of (s12 _ _ hu11), atI_nat (j := 0) rfl, rfl, _, rfl, ?_⟩
              by_cases e : wy.1 = k.1
              · refine dT (congrArg V.str e) ?_
                rw [if_pos e] at st
                refine ⟨_, rfl, r3, _, 1, .str wy.2.1, rfl, rfl, SqT.of hr12, atI_nat (j := 1) rfl, _, rfl, r3, _, 2, .int wy.2.2, rfl, rfl, SqT.of hr12, atI_nat (j := 2) rfl, (by show 2 ≤ sizeLine; decide), fun r5 hr5 => ?_⟩
                have nr : D3 ≠ r5 := ne_of_none e12 hr5
                have e13 : (upd H12 r5 (.tup [.str wy.2.1, .int wy.2.2])) D3 = some (.lst acc) := by rw [upd_ne nr]; exact e12
                refine ⟨acc, e13, small16 la, (s12.add hr5).put hD3, _, upd_same, ?_⟩
                rw [st]
                refine (al12.mono fun v z => PT2.keep ((keep_new hr5).trans (keep_lst e13))).snoc ⟨r5, rfl, ?_⟩
                rw [upd_ne nr.symm]
                exact upd_same
              · refine dF (fun z => e (str_inj z)) ⟨s12, acc, e12, ?_⟩
                rw [st, if_neg e, List.append_nil]
                exact al12
            · rintro H12 ⟨s12, acc, e12, al12⟩
              rw [alw.1, List.take_length] at al12
              have s712 := s11.trans s12
              have lsh := tok.lshape k.1
              refine ⟨_, rfl, ps, CS, dxs, _, _, rfl, s712 _ _ hps, T.cs, T.nt, sf_tasks _ _, _, rfl, ta, _, _, .ref rp, rfl, rfl, SqT.of (s712 _ _ hta), at_of (by omega) g1, rp, dxp, _, rfl, s712 _ _ hrp, tf_no _ _ _ (by decide +kernel) (by decide +kernel) (by decide +kernel), _, rfl, u, _, 0, .str k.1, rfl, rfl, SqT.of (s12 _ _ hu11), atI_nat (j := 0) rfl, .ref rp, t, j, k, rfl, a1.keep s712.keep, tok.kn, hk, w16, fun H13 pw xsw s13 hpw e13 al13 => ?_⟩
              refine ⟨_, rfl, dList dP (leaving t.ways k.1), dList dP (leaving t.ways k.1), dp_pl (SqL.of e13) al13, dp_pl (SqL.of (s13 _ _ e12)) (al12.mono fun v z => PT2.keep s13.keep), lsh, lsh, _, rfl, bF (by rw [eqv_same lsh]; rfl) ?_⟩
              have s713 := s712.trans s13
              refine ⟨_, rfl, ps, CS, dxs, _, _, rfl, s713 _ _ hps, T.cs, T.nt, sf_tasks _ _, _, rfl, ta, _, _, .ref rp, rfl, rfl, SqT.of (s713 _ _ hta), at_of (by omega) g1, rp, dxp, _, rfl, s713 _ _ hrp, tf_no _ _ _ (by decide +kernel) (by decide +kernel) (by decide +kernel), _, rfl, u, _, 0, .str k.1, rfl, rfl, SqT.of ((s12.trans s13) _ _ hu11), atI_nat (j := 0) rfl, .ref rp, t, j, k, rfl, a1.keep s713.keep, tok.kn, hk, fun H14 s14 => ?_⟩
              exact ⟨_, rfl, u, _, 1, .int k.2.1, rfl, rfl, SqT.of (((s12.trans s13).trans s14) _ _ hu11), atI_nat (j := 1) rfl, rfl, _, rfl, iteNS rfl ⟨_, _, rfl, s713.trans s14⟩⟩
          · rintro σ H11 ⟨o9, o10, rfl, s11⟩
            exact ⟨_, _, _, rfl, s11⟩
        · rintro σ H8 ⟨o8, o9, o10, rfl, s8⟩
          -- the last task, made here
          refine ⟨(by show 3 ≤ sizeLine; decide), fun u1 hu1 => ⟨(by show 1 ≤ sizeLine; decide), fun l1 hl1 => ⟨Nat.zero_le _, fun l2 hl2 => ⟨(by show 3 ≤ sizeLine; decide), fun u2 hu2 => ?_⟩⟩⟩⟩
          have t1 : Same H8 (upd H8 u1 (.tup [.str (Str.ofString "zz"), .int 1, .int 1])) := same_new hu1
          have t2 : Same (upd H8 u1 (.tup [.str (Str.ofString "zz"), .int 1, .int 1])) (upd (upd H8 u1 (.tup [.str (Str.ofString "zz"), .int 1, .int 1])) l1 (.lst [.ref u1])) := same_new hl1
          have t3 := same_new (o := HO.lst []) hl2
          have t4 := same_new (o := HO.tup [.str (Str.ofString "zz"), .ref l1, .ref l2]) hu2
          have t24 := (t2.trans t3).trans t4
          have t84 := t1.trans t24
          refine ⟨.ref u2, zz, rfl, ⟨u2, l1, l2, [.ref u1], [], rfl, upd_same, (t3.trans t4) _ _ upd_same, t4 _ _ upd_same, Al.cons ⟨u1, rfl, t24 _ _ upd_same⟩ Al.nil, Al.nil⟩, zz_ok, fun H9 v9 s9 ta9 => ?_⟩
          have s79 := (s8.trans t84).trans s9
          have s39 := s37.trans s79
          obtain ⟨pr, dxr, kar, war, ksr, wsr, rfl, hpr, hkar, hwar, _, alwr⟩ := id ta9
          have ew : wsr = [] := List.eq_nil_of_length_eq_zero alwr.1
          subst ew
          have shT : SeqAt.shaped (.tuple []) = true := by decide
          refine ⟨_, rfl, pr, CT, dxr, _, _, rfl, hpr, T.ct, T.nw, tf_ways _ _ _, Nat.zero_le _, fun e0 he0 => ⟨.tuple [], .tuple [], .tup (SqT.of ((same_new he0) _ _ hwar)) .nil, .tup (SqT.of upd_same) .nil, shT, shT, _, rfl, bT (eqv_same shT) ?_⟩⟩
          have sE := s79.add (o := .tup []) he0
          refine ⟨_, rfl, .ref ps, ts, tb, rfl, sa7.keep sE.keep, sok, fun H10 s10 => ?_⟩
          refine ⟨_, rfl, rfl, _, rfl, dT rfl ?_⟩
          refine ⟨_, rfl, ts, tb, rfl, sok, fun H11 v11 s11 sa11 => ?_⟩
          have sF := ((s37.trans sE).trans s10).trans s11
          refine ⟨_, rfl, _, rfl, v11, D, r, dv, ts, tb, rfl, sa11, sF _ _ dr.here, draws_same sF al0, (((s46.trans s7).trans sE).trans (s10.trans s11)) _ _ e4, sok, fun H12 s12 => q H12⟩
end
end Nv
/-! NvW: the facts of the top, bundled; all defs together. -/
namespace Nv
open PySem PySem.Spec PyProof.Rows L2
/-- the module's name x holds the def st -/
def GF (K : PySem.W.Frag) (x : Str) (st : Stmt) : Prop := ∃ (f : Addr) (oc : Value) (od an : Option Addr) (sl : Array (Option Value)) (kV dc pm cd ct : Value),
  PySem.W.nsIn K mainGlobals x = some (some (.ref f)) ∧ K.lookup f = some ⟨oc, od, .func (PySem.W.fnOf x x (defArgs st) (defBody st) (defScope st) .none kV dc pm an cd ct), sl⟩ ∧ PySem.W.codeIn K cd x = true ∧ PySem.W.keepIn K (.ref f) = true
/-- the class at C has the method st under the name m -/
def MF (K : PySem.W.Frag) (C : Addr) (m qual : Str) (st : Stmt) : Prop := ∃ (f : Addr) (oc : Value) (od an : Option Addr) (sl : Array (Option Value)) (kV dc pm cd ct : Value),
  PySem.W.findIn K (.ref C) m = some (some (.ref f)) ∧ PySem.W.isFn K (.ref f) = true ∧ K.lookup f = some ⟨oc, od, .func (PySem.W.fnOf m qual (defArgs st) (defBody st) (defScope st) .none kV dc pm an cd ct), sl⟩ ∧ PySem.W.codeIn K cd qual = true ∧ PySem.W.keepIn K (.ref f) = true
/-- a class as the top has made it -/
structure CF (K : PySem.W.Frag) (x : Str) (C : Addr) : Prop where
  ns : PySem.W.nsIn K mainGlobals x = some (some (.ref C))
  plainG : PySem.W.plainGet K C Str.empty = true
  dictIn : PySem.W.hasDictIn K C = true
  plainO : PySem.W.plainOver K C = true
  setA : PySem.W.findIn K (.ref C) "__setattr__" = some (some (.builtin "object.__setattr__"))
  made : PySem.W.makesIn K C = true
  kept : PySem.W.keepIn K (.ref C) = true
section
variable {K : PySem.W.Frag} {x m qual : Str} {st : Stmt} {C : Addr} {h : Heap} {mg : Str → Option Value}
theorem gf_mk {f : Addr} {oc : Value} {od an : Option Addr} {sl : Array (Option Value)} {kV dc pm cd ct : Value} (e1 : PySem.W.nsIn K mainGlobals x = some (some (.ref f)))
    (e2 : K.lookup f = some ⟨oc, od, .func (PySem.W.fnOf x x (defArgs st) (defBody st) (defScope st) .none kV dc pm an cd ct), sl⟩) (e3 : PySem.W.codeIn K cd x = true) (e4 : PySem.W.keepIn K (.ref f) = true) : GF K x st :=
  ⟨f, oc, od, an, sl, kV, dc, pm, cd, ct, e1, e2, e3, e4⟩
theorem mf_mk {f : Addr} {oc : Value} {od an : Option Addr} {sl : Array (Option Value)} {kV dc pm cd ct : Value} (e1 : PySem.W.findIn K (.ref C) m = some (some (.ref f))) (e0 : PySem.W.isFn K (.ref f) = true)
    (e2 : K.lookup f = some ⟨oc, od, .func (PySem.W.fnOf m qual (defArgs st) (defBody st) (defScope st) .none kV dc pm an cd ct), sl⟩) (e3 : PySem.W.codeIn K cd qual = true) (e4 : PySem.W.keepIn K (.ref f) = true) : MF K C m qual st :=
  ⟨f, oc, od, an, sl, kV, dc, pm, cd, ct, e1, e0, e2, e3, e4⟩
theorem GF.func (g : GF K x st) (X : K.In h) (N : h.Ns mainGlobals mg) : ∃ f fd, Fun K x x st f fd ∧ mg x = some (.ref f) := by
  obtain ⟨f, oc, od, an, sl, kV, dc, pm, cd, ct, e1, e2, e3, e4⟩ := g
  exact ⟨f, _, fun_mk e2 e3 e4, PySem.W.mg_of X N e1⟩
theorem MF.func (g : MF K C m qual st) : ∃ f fd, Fun K m qual st f fd ∧ PySem.W.findIn K (.ref C) m = some (some (.ref f)) ∧ PySem.W.isFn K (.ref f) = true := by
  obtain ⟨f, oc, od, an, sl, kV, dc, pm, cd, ct, e1, e2, e3, e4, e5⟩ := g
  exact ⟨f, _, fun_mk e3 e4 e5, e1, e2⟩
theorem CF.cl (g : CF K x C) : Cls K C := ⟨g.plainG, g.dictIn, g.plainO, g.setA⟩
theorem CF.mgC (g : CF K x C) (X : K.In h) (N : h.Ns mainGlobals mg) : mg x = some (.ref C) := PySem.W.mg_of X N g.ns
end
structure T0s (K : PySem.W.Frag) (mg : Str → Option Value) (CT CS : Addr) : Prop where
  mgCT : mg "Task" = some (.ref CT)
  mgCS : mg "System" = some (.ref CS)
  mkCT : PySem.W.makesIn K CT = true
  mkCS : PySem.W.makesIn K CS = true
  kpCT : PySem.W.keepIn K (.ref CT) = true
  kpCS : PySem.W.keepIn K (.ref CS) = true
/-- the constants and the built-in names, as the top has left them -/
structure CN (K : PySem.W.Frag) (t0 t1 t2 t3 t4 t5 t6 t7 t8 t9 t10 : Tok) : Prop where
  b_len : PySem.W.nsIn K mainGlobals "len" = some none
  b_all : PySem.W.nsIn K mainGlobals "all" = some none
  b_tuple : PySem.W.nsIn K mainGlobals "tuple" = some none
  b_list : PySem.W.nsIn K mainGlobals "list" = some none
  b_range : PySem.W.nsIn K mainGlobals "range" = some none
  b_enumerate : PySem.W.nsIn K mainGlobals "enumerate" = some none
  b_str : PySem.W.nsIn K mainGlobals "str" = some none
  b_int : PySem.W.nsIn K mainGlobals "int" = some none
  b_abs : PySem.W.nsIn K mainGlobals "abs" = some none
  b_max : PySem.W.nsIn K mainGlobals "max" = some none
  b_isinstance : PySem.W.nsIn K mainGlobals "isinstance" = some none
  cNames : PySem.W.nsIn K mainGlobals "NAME_CHARS" = some (some (.str chars t0))
  cDigits : PySem.W.nsIn K mainGlobals "DIGITS" = some (some (.str digits t1))
  cChars : PySem.W.nsIn K mainGlobals "MOST_NAME_CHARS" = some (some (.int 12 t2))
  cKinds : PySem.W.nsIn K mainGlobals "MOST_KINDS" = some (some (.int 8 t3))
  cWays : PySem.W.nsIn K mainGlobals "MOST_WAYS" = some (some (.int 16 t4))
  cCost : PySem.W.nsIn K mainGlobals "MOST_COST" = some (some (.int 1000 t5))
  cDead : PySem.W.nsIn K mainGlobals "MOST_DEADLINE" = some (some (.int 1000 t6))
  cDist : PySem.W.nsIn K mainGlobals "MOST_DISTANCE" = some (some (.int 1000 t7))
  cTasks : PySem.W.nsIn K mainGlobals "MOST_TASKS" = some (some (.int 6 t8))
  cSlots : PySem.W.nsIn K mainGlobals "MOST_SLOTS" = some (some (.int 1001 t9))
  cCap : PySem.W.nsIn K mainGlobals "MOST_CAPACITY" = some (some (.int 1000000 t10))
section
variable {w : World} {K : PySem.W.Frag} {mg : Str → Option Value} {CT CS : Addr} {t0 t1 t2 t3 t4 t5 t6 t7 t8 t9 t10 : Tok}
theorem tx_mk {h : Heap} (X : K.In h) (N : h.Ns mainGlobals mg) (cn : CN K t0 t1 t2 t3 t4 t5 t6 t7 t8 t9 t10) (c1 : CF K "Task" CT) (c2 : CF K "System" CS) (a1 : NoAttr K CT "name") (a2 : NoAttr K CT "kinds") (a3 : NoAttr K CT "ways") (a4 : NoAttr K CS "tasks") (a5 : NoAttr K CS "table") : Tx K mg CT CS :=
  ⟨c1.cl, c2.cl, a1, a2, a3, a4, a5, PySem.W.mg_none_of X N cn.b_len, PySem.W.mg_none_of X N cn.b_all, PySem.W.mg_none_of X N cn.b_tuple, PySem.W.mg_none_of X N cn.b_list, PySem.W.mg_none_of X N cn.b_range, PySem.W.mg_none_of X N cn.b_enumerate, PySem.W.mg_none_of X N cn.b_str, PySem.W.mg_none_of X N cn.b_int, PySem.W.mg_none_of X N cn.b_abs, PySem.W.mg_none_of X N cn.b_max, PySem.W.mg_none_of X N cn.b_isinstance, ⟨_, PySem.W.mg_of X N cn.cNames⟩, ⟨_, PySem.W.mg_of X N cn.cDigits⟩, ⟨_, PySem.W.mg_of X N cn.cChars⟩, ⟨_, PySem.W.mg_of X N cn.cKinds⟩, ⟨_, PySem.W.mg_of X N cn.cWays⟩, ⟨_, PySem.W.mg_of X N cn.cCost⟩, ⟨_, PySem.W.mg_of X N cn.cDead⟩, ⟨_, PySem.W.mg_of X N cn.cDist⟩, ⟨_, PySem.W.mg_of X N cn.cTasks⟩, ⟨_, PySem.W.mg_of X N cn.cSlots⟩, ⟨_, PySem.W.mg_of X N cn.cCap⟩⟩
theorem all_ok (P : Program) {base : Heap} (X : K.In base) (N : base.Ns mainGlobals mg) (T : Tx K mg CT CS) (hne : CS ≠ CT) (c1 : CF K "Task" CT) (c2 : CF K "System" CS)
    (hIsName : GF K "is_name" sIsName)
    (hAreKinds : GF K "are_kinds" sAreKinds)
    (hAreWays : GF K "are_ways" sAreWays)
    (hIsTable : GF K "is_table" sIsTable)
    (hTaskInit : MF K CT "__init__" "Task.__init__" sTaskInit)
    (hTaskKindNumber : MF K CT "kind_number" "Task.kind_number" sTaskKindNumber)
    (hTaskCost : MF K CT "cost" "Task.cost" sTaskCost)
    (hTaskWaysFrom : MF K CT "ways_from" "Task.ways_from" sTaskWaysFrom)
    (hSystemInit : MF K CS "__init__" "System.__init__" sSystemInit)
    (hSystemTaskNumber : MF K CS "task_number" "System.task_number" sSystemTaskNumber)
    (hFormatTask : GF K "format_task" sFormatTask)
    (hFormatSystem : GF K "format_system" sFormatSystem)
    (hParseNumber : GF K "parse_number" sParseNumber)
    (hParseWords : GF K "parse_words" sParseWords)
    (hParseTable : GF K "parse_table" sParseTable)
    (hParseKind : GF K "parse_kind" sParseKind)
    (hParseWay : GF K "parse_way" sParseWay)
    (hStarts : GF K "starts" sStarts)
    (hParseTask : GF K "parse_task" sParseTask)
    (hParseSystem : GF K "parse_system" sParseSystem)
    (hLawRow : GF K "_law_row" sLawRow)
    (hLawNumbers : GF K "_law_numbers" sLawNumbers)
    (hLawNames : GF K "_law_names" sLawNames)
    (hLawSize : GF K "_law_size" sLawSize)
    (hLawKinds : GF K "_law_kinds" sLawKinds)
    (hLawWays : GF K "_law_ways" sLawWays)
    (hLawTask : GF K "_law_task" sLawTask)
    (hLawLarge : GF K "_law_large" sLawLarge)
    (hLawMade : GF K "_law_made" sLawMade)
    (hLawSameTask : GF K "_law_same_task" sLawSameTask)
    (hLawSameSystem : GF K "_law_same_system" sLawSameSystem)
    (hLawTable : GF K "_law_table" sLawTable)
    (hLawLines : GF K "_law_lines" sLawLines)
    {f : Addr} {fd : FuncData} (F : Fun K "law" "law" sLaw f fd) : FnOk P w K mg base CX0 7 f fd pLaw (spLaw K) := by
  have FL := F
  clear F
  have T0 : T0s K mg CT CS := ⟨c1.mgC X N, c2.mgC X N, c1.made, c2.made, c1.kept, c2.kept⟩
  have D_is_name : Def P w K mg base 1 "is_name" pIsName spIsName := by
    obtain ⟨f, fd, F, hf⟩ := hIsName.func X N
    exact ⟨f, fd, ok_isName F T, hf, F.kp, F.binds fun _ _ _ _ _ _ us hl => match us, hl with | [_], _ => rfl⟩
  have D_are_kinds : Def P w K mg base 2 "are_kinds" pAreKinds spAreKinds := by
    obtain ⟨f, fd, F, hf⟩ := hAreKinds.func X N
    exact ⟨f, fd, ok_areKinds F T D_is_name, hf, F.kp, F.binds fun _ _ _ _ _ _ us hl => match us, hl with | [_], _ => rfl⟩
  have D_are_ways : Def P w K mg base 1 "are_ways" pAreWays spAreWays := by
    obtain ⟨f, fd, F, hf⟩ := hAreWays.func X N
    exact ⟨f, fd, ok_areWays F T, hf, F.kp, F.binds fun _ _ _ _ _ _ us hl => match us, hl with | [_, _], _ => rfl⟩
  have D_is_table : Def P w K mg base 1 "is_table" pIsTable spIsTable := by
    obtain ⟨f, fd, F, hf⟩ := hIsTable.func X N
    exact ⟨f, fd, ok_isTable F T, hf, F.kp, F.binds fun _ _ _ _ _ _ us hl => match us, hl with | [_], _ => rfl⟩
  have D_Task : DefC P w K mg base 3 "Task" CT pTaskInit 1 ["kinds", "ways"] (spTaskInit CT) := by
    obtain ⟨f, fd, F, hf, hi⟩ := hTaskInit.func
    exact ⟨f, fd, ok_taskInit F T D_is_name D_are_kinds D_are_ways, T0.mgCT, ⟨T0.mkCT, hf, hi, T0.kpCT⟩, fun_kb F 2 ["kinds", "ways"] fun _ _ _ _ _ _ us ws l1 l2 => match us, l1, ws, l2 with | [_, _], _, [_, _], _ => rfl⟩
  have M_kind_number : DefM P w K mg base 1 CT "kind_number" pTaskKindNumber (spKindNumber CT) := by
    obtain ⟨f, fd, F, hf, hi⟩ := hTaskKindNumber.func
    exact ⟨f, fd, ok_kindNumber F T, ⟨hf, hi, F.kp⟩, F.binds fun _ _ _ _ _ _ us hl => match us, hl with | [_, _], _ => rfl⟩
  have M_cost : DefM P w K mg base 2 CT "cost" pTaskCost (spCost CT) := by
    obtain ⟨f, fd, F, hf, hi⟩ := hTaskCost.func
    exact ⟨f, fd, ok_cost F T M_kind_number, ⟨hf, hi, F.kp⟩, F.binds fun _ _ _ _ _ _ us hl => match us, hl with | [_, _], _ => rfl⟩
  have M_ways_from : DefM P w K mg base 2 CT "ways_from" pTaskWaysFrom (spWaysFrom CT) := by
    obtain ⟨f, fd, F, hf, hi⟩ := hTaskWaysFrom.func
    exact ⟨f, fd, ok_waysFrom F T M_kind_number, ⟨hf, hi, F.kp⟩, F.binds fun _ _ _ _ _ _ us hl => match us, hl with | [_, _], _ => rfl⟩
  have D_System : DefC P w K mg base 2 "System" CS pSystemInit 1 ["table"] (spSystemInit CS CT) := by
    obtain ⟨f, fd, F, hf, hi⟩ := hSystemInit.func
    exact ⟨f, fd, ok_systemInit F T hne D_is_table, T0.mgCS, ⟨T0.mkCS, hf, hi, T0.kpCS⟩, fun_kb F 2 ["table"] fun _ _ _ _ _ _ us ws l1 l2 => match us, l1, ws, l2 with | [_, _], _, [_], _ => rfl⟩
  have M_task_number : DefM P w K mg base 1 CS "task_number" pSystemTaskNumber (spTaskNumber CS CT) := by
    obtain ⟨f, fd, F, hf, hi⟩ := hSystemTaskNumber.func
    exact ⟨f, fd, ok_taskNumber F T, ⟨hf, hi, F.kp⟩, F.binds fun _ _ _ _ _ _ us hl => match us, hl with | [_, _], _ => rfl⟩
  have D_format_task : Def P w K mg base 1 "format_task" pFormatTask (spFormatTask CT) := by
    obtain ⟨f, fd, F, hf⟩ := hFormatTask.func X N
    exact ⟨f, fd, ok_formatTask F T, hf, F.kp, F.binds fun _ _ _ _ _ _ us hl => match us, hl with | [_], _ => rfl⟩
  have D_format_system : Def P w K mg base 2 "format_system" pFormatSystem (spFormatSystem CS CT) := by
    obtain ⟨f, fd, F, hf⟩ := hFormatSystem.func X N
    exact ⟨f, fd, ok_formatSystem F T D_format_task, hf, F.kp, F.binds fun _ _ _ _ _ _ us hl => match us, hl with | [_], _ => rfl⟩
  have D_parse_number : DefK P w K mg base 1 "parse_number" pParseNumber 2 ["least", "most"] spParseNumber := by
    obtain ⟨f, fd, F, hf⟩ := hParseNumber.func X N
    exact ⟨f, fd, ok_parseNumber F T, hf, F.kp, fun_kb F 2 ["least", "most"] fun _ _ _ _ _ _ us ws l1 l2 => match us, l1, ws, l2 with | [_, _], _, [_, _], _ => rfl⟩
  have D_parse_words : DefK P w K mg base 1 "parse_words" pParseWords 2 ["keyword", "many"] spParseWords := by
    obtain ⟨f, fd, F, hf⟩ := hParseWords.func X N
    exact ⟨f, fd, ok_parseWords F T, hf, F.kp, fun_kb F 2 ["keyword", "many"] fun _ _ _ _ _ _ us ws l1 l2 => match us, l1, ws, l2 with | [_, _], _, [_, _], _ => rfl⟩
  have D_parse_table : Def P w K mg base 2 "parse_table" pParseTable spParseTable := by
    obtain ⟨f, fd, F, hf⟩ := hParseTable.func X N
    exact ⟨f, fd, ok_parseTable F T D_parse_number, hf, F.kp, F.binds fun _ _ _ _ _ _ us hl => match us, hl with | [_], _ => rfl⟩
  have D_parse_kind : Def P w K mg base 2 "parse_kind" pParseKind spParseKind := by
    obtain ⟨f, fd, F, hf⟩ := hParseKind.func X N
    exact ⟨f, fd, ok_parseKind F T D_is_name D_parse_words D_parse_number, hf, F.kp, F.binds fun _ _ _ _ _ _ us hl => match us, hl with | [_, _, _], _ => rfl⟩
  have D_parse_way : Def P w K mg base 2 "parse_way" pParseWay spParseWay := by
    obtain ⟨f, fd, F, hf⟩ := hParseWay.func X N
    exact ⟨f, fd, ok_parseWay F T D_parse_words D_parse_number, hf, F.kp, F.binds fun _ _ _ _ _ _ us hl => match us, hl with | [_, _, _, _], _ => rfl⟩
  have D_starts : Def P w K mg base 1 "starts" pStarts spStarts := by
    obtain ⟨f, fd, F, hf⟩ := hStarts.func X N
    exact ⟨f, fd, ok_starts F T, hf, F.kp, F.binds fun _ _ _ _ _ _ us hl => match us, hl with | [_, _, _], _ => rfl⟩
  have D_parse_task : Def P w K mg base 5 "parse_task" pParseTask (spParseTask CT) := by
    obtain ⟨f, fd, F, hf⟩ := hParseTask.func X N
    exact ⟨f, fd, ok_parseTask F T D_is_name D_parse_words D_starts D_parse_kind D_parse_way D_Task, hf, F.kp, F.binds fun _ _ _ _ _ _ us hl => match us, hl with | [_, _, _], _ => rfl⟩
  have D_parse_system : Def P w K mg base 6 "parse_system" pParseSystem (spParseSystem CS CT) := by
    obtain ⟨f, fd, F, hf⟩ := hParseSystem.func X N
    exact ⟨f, fd, ok_parseSystem F T D_parse_table D_parse_task D_System, hf, F.kp, F.binds fun _ _ _ _ _ _ us hl => match us, hl with | [_], _ => rfl⟩
  have D__law_row : Def P w K mg base 1 "_law_row" pLawRow spLawRow := by
    obtain ⟨f, fd, F, hf⟩ := hLawRow.func X N
    exact ⟨f, fd, ok_lawRow F T, hf, F.kp, F.binds fun _ _ _ _ _ _ us hl => match us, hl with | [_, _], _ => rfl⟩
  have D__law_numbers : Def P w K mg base 2 "_law_numbers" pLawNumbers (spLawNumbers K) := by
    obtain ⟨f, fd, F, hf⟩ := hLawNumbers.func X N
    exact ⟨f, fd, ok_lawNumbers F T D__law_row, hf, F.kp, F.binds fun _ _ _ _ _ _ us hl => match us, hl with | [_, _], _ => rfl⟩
  have D__law_names : Def P w K mg base 1 "_law_names" pLawNames spLawNames := by
    obtain ⟨f, fd, F, hf⟩ := hLawNames.func X N
    exact ⟨f, fd, ok_lawNames F T, hf, F.kp, F.binds fun _ _ _ _ _ _ us hl => match us, hl with | [_, _, _], _ => rfl⟩
  have D__law_size : Def P w K mg base 1 "_law_size" pLawSize spLawSize := by
    obtain ⟨f, fd, F, hf⟩ := hLawSize.func X N
    exact ⟨f, fd, ok_lawSize F T, hf, F.kp, F.binds fun _ _ _ _ _ _ us hl => match us, hl with | [_, _], _ => rfl⟩
  have D__law_kinds : Def P w K mg base 2 "_law_kinds" pLawKinds spLawKinds := by
    obtain ⟨f, fd, F, hf⟩ := hLawKinds.func X N
    exact ⟨f, fd, ok_lawKinds F T D__law_size, hf, F.kp, F.binds fun _ _ _ _ _ _ us hl => match us, hl with | [_, _, _], _ => rfl⟩
  have D__law_ways : Def P w K mg base 2 "_law_ways" pLawWays spLawWays := by
    obtain ⟨f, fd, F, hf⟩ := hLawWays.func X N
    exact ⟨f, fd, ok_lawWays F T D__law_size, hf, F.kp, F.binds fun _ _ _ _ _ _ us hl => match us, hl with | [_, _, _, _], _ => rfl⟩
  have D__law_task : Def P w K mg base 3 "_law_task" pLawTask (spLawTask 27) := by
    obtain ⟨f, fd, F, hf⟩ := hLawTask.func X N
    exact ⟨f, fd, ok_lawTask F T D__law_names D__law_kinds D__law_ways, hf, F.kp, F.binds fun _ _ _ _ _ _ us hl => match us, hl with | [_, _, _], _ => rfl⟩
  have D__law_large : Def P w K mg base 2 "_law_large" pLawLarge (spLawTask 27) := by
    obtain ⟨f, fd, F, hf⟩ := hLawLarge.func X N
    exact ⟨f, fd, ok_lawLarge F T D__law_names, hf, F.kp, F.binds fun _ _ _ _ _ _ us hl => match us, hl with | [_, _, _], _ => rfl⟩
  have D__law_made : Def P w K mg base 5 "_law_made" pLawMade (spLawMade CT) := by
    obtain ⟨f, fd, F, hf⟩ := hLawMade.func X N
    exact ⟨f, fd, ok_lawMade F T D_Task, hf, F.kp, F.binds fun _ _ _ _ _ _ us hl => match us, hl with | [_], _ => rfl⟩
  have D__law_same_task : Def P w K mg base 1 "_law_same_task" pLawSameTask (spLawSameTask CT) := by
    obtain ⟨f, fd, F, hf⟩ := hLawSameTask.func X N
    exact ⟨f, fd, ok_lawSameTask F T, hf, F.kp, F.binds fun _ _ _ _ _ _ us hl => match us, hl with | [_, _], _ => rfl⟩
  have D__law_same_system : Def P w K mg base 2 "_law_same_system" pLawSameSystem (spLawSameSystem CS CT) := by
    obtain ⟨f, fd, F, hf⟩ := hLawSameSystem.func X N
    exact ⟨f, fd, ok_lawSameSystem F T D__law_same_task, hf, F.kp, F.binds fun _ _ _ _ _ _ us hl => match us, hl with | [_, _, _], _ => rfl⟩
  have D__law_table : Def P w K mg base 1 "_law_table" pLawTable spLawTable := by
    obtain ⟨f, fd, F, hf⟩ := hLawTable.func X N
    exact ⟨f, fd, ok_lawTable F T, hf, F.kp, F.binds fun _ _ _ _ _ _ us hl => match us, hl with | [_, _], _ => rfl⟩
  have D__law_lines : Def P w K mg base 1 "_law_lines" pLawLines spLawLines := by
    obtain ⟨f, fd, F, hf⟩ := hLawLines.func X N
    exact ⟨f, fd, ok_lawLines F T, hf, F.kp, F.binds fun _ _ _ _ _ _ us hl => match us, hl with | [_, _], _ => rfl⟩
  exact ok_law FL T D__law_numbers D__law_names D__law_task D__law_large D__law_table D__law_lines D_parse_system D__law_same_system D__law_made D_format_system M_task_number M_ways_from M_cost
end
theorem all_mk {l : PySem.W.OpenLaw} {w : World} {K : PySem.W.Frag} {h : Heap} {mg : Str → Option Value} {fa CT CS : Addr} {t0 t1 t2 t3 t4 t5 t6 t7 t8 t9 t10 : Tok} (X : K.In h) (G : h.Ns mainGlobals mg) (hfa : mg "law" = some (.ref fa))
    (cn : CN K t0 t1 t2 t3 t4 t5 t6 t7 t8 t9 t10) (c1 : CF K "Task" CT) (c2 : CF K "System" CS) (a1 : NoAttr K CT "name") (a2 : NoAttr K CT "kinds") (a3 : NoAttr K CT "ways") (a4 : NoAttr K CS "tasks") (a5 : NoAttr K CS "table") (hne : CS ≠ CT)
    (hIsName : GF K "is_name" sIsName)
    (hAreKinds : GF K "are_kinds" sAreKinds)
    (hAreWays : GF K "are_ways" sAreWays)
    (hIsTable : GF K "is_table" sIsTable)
    (hTaskInit : MF K CT "__init__" "Task.__init__" sTaskInit)
    (hTaskKindNumber : MF K CT "kind_number" "Task.kind_number" sTaskKindNumber)
    (hTaskCost : MF K CT "cost" "Task.cost" sTaskCost)
    (hTaskWaysFrom : MF K CT "ways_from" "Task.ways_from" sTaskWaysFrom)
    (hSystemInit : MF K CS "__init__" "System.__init__" sSystemInit)
    (hSystemTaskNumber : MF K CS "task_number" "System.task_number" sSystemTaskNumber)
    (hFormatTask : GF K "format_task" sFormatTask)
    (hFormatSystem : GF K "format_system" sFormatSystem)
    (hParseNumber : GF K "parse_number" sParseNumber)
    (hParseWords : GF K "parse_words" sParseWords)
    (hParseTable : GF K "parse_table" sParseTable)
    (hParseKind : GF K "parse_kind" sParseKind)
    (hParseWay : GF K "parse_way" sParseWay)
    (hStarts : GF K "starts" sStarts)
    (hParseTask : GF K "parse_task" sParseTask)
    (hParseSystem : GF K "parse_system" sParseSystem)
    (hLawRow : GF K "_law_row" sLawRow)
    (hLawNumbers : GF K "_law_numbers" sLawNumbers)
    (hLawNames : GF K "_law_names" sLawNames)
    (hLawSize : GF K "_law_size" sLawSize)
    (hLawKinds : GF K "_law_kinds" sLawKinds)
    (hLawWays : GF K "_law_ways" sLawWays)
    (hLawTask : GF K "_law_task" sLawTask)
    (hLawLarge : GF K "_law_large" sLawLarge)
    (hLawMade : GF K "_law_made" sLawMade)
    (hLawSameTask : GF K "_law_same_task" sLawSameTask)
    (hLawSameSystem : GF K "_law_same_system" sLawSameSystem)
    (hLawTable : GF K "_law_table" sLawTable)
    (hLawLines : GF K "_law_lines" sLawLines)
    (hLaw : GF K "law" sLaw) :
    ∃ fd : FuncData, (∀ (s : Shared) (v : Value), BindsTo s fd ⟨[v], []⟩ [("_law_script", v)]) ∧ ∀ base : Heap, K.In base → base.Ns mainGlobals mg → FnOk l.prog w K mg base CX0 7 fa fd pLaw (spLaw K) := by
  obtain ⟨f, oc, od, an, sl, kV, dc, pm, cd, ct, e1, e2, e3, e4⟩ := hLaw
  have e := hfa.symm.trans (PySem.W.mg_of X G e1)
  cases e
  exact ⟨_, fun s v => .of_eq rfl, fun base X N => all_ok l.prog X N (tx_mk X N cn c1 c2 a1 a2 a3 a4 a5) hne c1 c2 hIsName hAreKinds hAreWays hIsTable hTaskInit hTaskKindNumber hTaskCost hTaskWaysFrom hSystemInit hSystemTaskNumber hFormatTask hFormatSystem hParseNumber hParseWords hParseTable hParseKind hParseWay hStarts hParseTask hParseSystem hLawRow hLawNumbers hLawNames hLawSize hLawKinds hLawWays hLawTask hLawLarge hLawMade hLawSameTask hLawSameSystem hLawTable hLawLines (fun_mk (st := sLaw) e2 e3 e4)⟩
end Nv
open PySem PySem.W PyProof.Rows
set_option maxRecDepth 100000 in
set_option maxHeartbeats 0 in
theorem PySem.Challenge.cw_neverlate_k09_whole_text_and_back_holds : PySem.Challenge.rw_neverlate_k09_whole_text_and_back.Holds := by
  w_on; o_law; k_head; (case hw => w_witness2)
  k_fill
  refine L2.walk_of (l := PySem.Challenge.rw_neverlate_k09_whole_text_and_back) (n := 63) (k := 7) (x := "_law_script") (CX := fun _ => L2.CX0) (sp := fun w => Nv.spLaw _) rfl (by decide) rfl ⟨rfl, by decide, by decide⟩ (fun w h Y => PySem.W.kIn_of Y) ?F (fun _ _ a ns hl _ hS => ⟨a, ns, rfl, hS, hl, fun _ => rfl⟩) (fun _ _ _ _ _ h => h)
  case F =>
    intro w mg fa h KX G hmg
    refine' Nv.all_mk KX G hmg ?cn ?c1 ?c2 ?a1 ?a2 ?a3 ?a4 ?a5 ?hne ?hIsName ?hAreKinds ?hAreWays ?hIsTable ?hTaskInit ?hTaskKindNumber ?hTaskCost ?hTaskWaysFrom ?hSystemInit ?hSystemTaskNumber ?hFormatTask ?hFormatSystem ?hParseNumber ?hParseWords ?hParseTable ?hParseKind ?hParseWay ?hStarts ?hParseTask ?hParseSystem ?hLawRow ?hLawNumbers ?hLawNames ?hLawSize ?hLawKinds ?hLawWays ?hLawTask ?hLawLarge ?hLawMade ?hLawSameTask ?hLawSameSystem ?hLawTable ?hLawLines ?hLaw
    (case c1 => (refine' ⟨?q1, ?q2, ?q3, ?q4, ?q5, ?q6, ?q7⟩; (case q1 => k_is); (case q2 => k_is); (case q3 => k_is); (case q4 => k_is); (case q5 => k_is); (case q6 => k_is); (case q7 => k_is)))
    (case c2 => (refine' ⟨?q1, ?q2, ?q3, ?q4, ?q5, ?q6, ?q7⟩; (case q1 => k_is); (case q2 => k_is); (case q3 => k_is); (case q4 => k_is); (case q5 => k_is); (case q6 => k_is); (case q7 => k_is)))
    (case a1 => unfold L2.NoAttr; k_is); (case a2 => unfold L2.NoAttr; k_is); (case a3 => unfold L2.NoAttr; k_is); (case a4 => unfold L2.NoAttr; k_is); (case a5 => unfold L2.NoAttr; k_is)
    (case hne => decide)
    (case cn => (refine' ⟨?b0, ?b1, ?b2, ?b3, ?b4, ?b5, ?b6, ?b7, ?b8, ?b9, ?b10, ?d0, ?d1, ?d2, ?d3, ?d4, ?d5, ?d6, ?d7, ?d8, ?d9, ?d10⟩; (case b0 => k_is); (case b1 => k_is); (case b2 => k_is); (case b3 => k_is); (case b4 => k_is); (case b5 => k_is); (case b6 => k_is); (case b7 => k_is); (case b8 => k_is); (case b9 => k_is); (case b10 => k_is); (case d0 => k_is); (case d1 => k_is); (case d2 => k_is); (case d3 => k_is); (case d4 => k_is); (case d5 => k_is); (case d6 => k_is); (case d7 => k_is); (case d8 => k_is); (case d9 => k_is); (case d10 => k_is)))
    (case hIsName => (refine' Nv.gf_mk ?q1 ?q2 ?q3 ?q4; (case q1 => k_is); (case q2 => k_is); (case q3 => k_is); (case q4 => k_is)))
    (case hAreKinds => (refine' Nv.gf_mk ?q1 ?q2 ?q3 ?q4; (case q1 => k_is); (case q2 => k_is); (case q3 => k_is); (case q4 => k_is)))
    (case hAreWays => (refine' Nv.gf_mk ?q1 ?q2 ?q3 ?q4; (case q1 => k_is); (case q2 => k_is); (case q3 => k_is); (case q4 => k_is)))
    (case hIsTable => (refine' Nv.gf_mk ?q1 ?q2 ?q3 ?q4; (case q1 => k_is); (case q2 => k_is); (case q3 => k_is); (case q4 => k_is)))
    (case hTaskInit => (refine' Nv.mf_mk ?q1 ?q2 ?q3 ?q4 ?q5; (case q1 => k_is); (case q2 => k_is); (case q3 => k_is); (case q4 => k_is); (case q5 => k_is)))
    (case hTaskKindNumber => (refine' Nv.mf_mk ?q1 ?q2 ?q3 ?q4 ?q5; (case q1 => k_is); (case q2 => k_is); (case q3 => k_is); (case q4 => k_is); (case q5 => k_is)))
    (case hTaskCost => (refine' Nv.mf_mk ?q1 ?q2 ?q3 ?q4 ?q5; (case q1 => k_is); (case q2 => k_is); (case q3 => k_is); (case q4 => k_is); (case q5 => k_is)))
    (case hTaskWaysFrom => (refine' Nv.mf_mk ?q1 ?q2 ?q3 ?q4 ?q5; (case q1 => k_is); (case q2 => k_is); (case q3 => k_is); (case q4 => k_is); (case q5 => k_is)))
    (case hSystemInit => (refine' Nv.mf_mk ?q1 ?q2 ?q3 ?q4 ?q5; (case q1 => k_is); (case q2 => k_is); (case q3 => k_is); (case q4 => k_is); (case q5 => k_is)))
    (case hSystemTaskNumber => (refine' Nv.mf_mk ?q1 ?q2 ?q3 ?q4 ?q5; (case q1 => k_is); (case q2 => k_is); (case q3 => k_is); (case q4 => k_is); (case q5 => k_is)))
    (case hFormatTask => (refine' Nv.gf_mk ?q1 ?q2 ?q3 ?q4; (case q1 => k_is); (case q2 => k_is); (case q3 => k_is); (case q4 => k_is)))
    (case hFormatSystem => (refine' Nv.gf_mk ?q1 ?q2 ?q3 ?q4; (case q1 => k_is); (case q2 => k_is); (case q3 => k_is); (case q4 => k_is)))
    (case hParseNumber => (refine' Nv.gf_mk ?q1 ?q2 ?q3 ?q4; (case q1 => k_is); (case q2 => k_is); (case q3 => k_is); (case q4 => k_is)))
    (case hParseWords => (refine' Nv.gf_mk ?q1 ?q2 ?q3 ?q4; (case q1 => k_is); (case q2 => k_is); (case q3 => k_is); (case q4 => k_is)))
    (case hParseTable => (refine' Nv.gf_mk ?q1 ?q2 ?q3 ?q4; (case q1 => k_is); (case q2 => k_is); (case q3 => k_is); (case q4 => k_is)))
    (case hParseKind => (refine' Nv.gf_mk ?q1 ?q2 ?q3 ?q4; (case q1 => k_is); (case q2 => k_is); (case q3 => k_is); (case q4 => k_is)))
    (case hParseWay => (refine' Nv.gf_mk ?q1 ?q2 ?q3 ?q4; (case q1 => k_is); (case q2 => k_is); (case q3 => k_is); (case q4 => k_is)))
    (case hStarts => (refine' Nv.gf_mk ?q1 ?q2 ?q3 ?q4; (case q1 => k_is); (case q2 => k_is); (case q3 => k_is); (case q4 => k_is)))
    (case hParseTask => (refine' Nv.gf_mk ?q1 ?q2 ?q3 ?q4; (case q1 => k_is); (case q2 => k_is); (case q3 => k_is); (case q4 => k_is)))
    (case hParseSystem => (refine' Nv.gf_mk ?q1 ?q2 ?q3 ?q4; (case q1 => k_is); (case q2 => k_is); (case q3 => k_is); (case q4 => k_is)))
    (case hLawRow => (refine' Nv.gf_mk ?q1 ?q2 ?q3 ?q4; (case q1 => k_is); (case q2 => k_is); (case q3 => k_is); (case q4 => k_is)))
    (case hLawNumbers => (refine' Nv.gf_mk ?q1 ?q2 ?q3 ?q4; (case q1 => k_is); (case q2 => k_is); (case q3 => k_is); (case q4 => k_is)))
    (case hLawNames => (refine' Nv.gf_mk ?q1 ?q2 ?q3 ?q4; (case q1 => k_is); (case q2 => k_is); (case q3 => k_is); (case q4 => k_is)))
    (case hLawSize => (refine' Nv.gf_mk ?q1 ?q2 ?q3 ?q4; (case q1 => k_is); (case q2 => k_is); (case q3 => k_is); (case q4 => k_is)))
    (case hLawKinds => (refine' Nv.gf_mk ?q1 ?q2 ?q3 ?q4; (case q1 => k_is); (case q2 => k_is); (case q3 => k_is); (case q4 => k_is)))
    (case hLawWays => (refine' Nv.gf_mk ?q1 ?q2 ?q3 ?q4; (case q1 => k_is); (case q2 => k_is); (case q3 => k_is); (case q4 => k_is)))
    (case hLawTask => (refine' Nv.gf_mk ?q1 ?q2 ?q3 ?q4; (case q1 => k_is); (case q2 => k_is); (case q3 => k_is); (case q4 => k_is)))
    (case hLawLarge => (refine' Nv.gf_mk ?q1 ?q2 ?q3 ?q4; (case q1 => k_is); (case q2 => k_is); (case q3 => k_is); (case q4 => k_is)))
    (case hLawMade => (refine' Nv.gf_mk ?q1 ?q2 ?q3 ?q4; (case q1 => k_is); (case q2 => k_is); (case q3 => k_is); (case q4 => k_is)))
    (case hLawSameTask => (refine' Nv.gf_mk ?q1 ?q2 ?q3 ?q4; (case q1 => k_is); (case q2 => k_is); (case q3 => k_is); (case q4 => k_is)))
    (case hLawSameSystem => (refine' Nv.gf_mk ?q1 ?q2 ?q3 ?q4; (case q1 => k_is); (case q2 => k_is); (case q3 => k_is); (case q4 => k_is)))
    (case hLawTable => (refine' Nv.gf_mk ?q1 ?q2 ?q3 ?q4; (case q1 => k_is); (case q2 => k_is); (case q3 => k_is); (case q4 => k_is)))
    (case hLawLines => (refine' Nv.gf_mk ?q1 ?q2 ?q3 ?q4; (case q1 => k_is); (case q2 => k_is); (case q3 => k_is); (case q4 => k_is)))
    (case hLaw => (refine' Nv.gf_mk ?q1 ?q2 ?q3 ?q4; (case q1 => k_is); (case q2 => k_is); (case q3 => k_is); (case q4 => k_is)))
