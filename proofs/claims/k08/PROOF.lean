import PyProof.Rows.All
import Wide.All
import OpenK.AllK
import Wide.FinOn
import HandS.ForMost
import HandS.More
import HandS.Codes
import HandS.Walk
import KE.DataEq
import PySem.Challenge.RW_bearfaults_k08_whole_names_otherwise
set_option Elab.async false
set_option linter.all false
set_option maxRecDepth 100000
set_option maxHeartbeats 4000000
/-! BFa: names, wires' words, rows as texts. Plain Lean. -/
namespace BF
open PySem

def barred : List Str := ["in", "gate", "sure", "out", "not", "and", "or", "xor", "vote"]
/-- a good name -/
structure GN (x : Str) : Prop where
  l1 : 1 ≤ x.length
  l8 : x.length ≤ 8
  lt : ∀ c ∈ TL.tl x, 97 ≤ c ∧ c ≤ 122
  nb : x ∉ barred
def kinds : List Str := ["not", "and", "or", "xor", "vote"]
def legs (k : Str) : Nat := if k = ("not" : Str) then 1 else if k = ("vote" : Str) then 3 else 2
structure Gate where
  kind : Str
  wires : List Nat
  sure : Bool
structure Net where
  ins : List (Str × Nat)
  gates : List Gate
  outs : List (Str × List Nat)
/-- the digit's text -/
def dig (k : Nat) : Str := ⟨#[48 + k]⟩
def sub (n : Str) (k : Nat) : Str := n ++ (":" : Str) ++ dig k
/-- the words of an in's wires -/
def wIn (p : Str × Nat) : List Str := if p.2 = 1 then [p.1] else (List.range p.2).map (sub p.1)
def wIns (ins : List (Str × Nat)) : List Str := ins.flatMap wIn
def first (ins : List (Str × Nat)) : Nat := (ins.map (·.2)).sum
/-- a word of a wire -/
def WW (x : Str) : Prop := GN x ∨ ∃ n k, GN n ∧ k ≤ 9 ∧ x = sub n k

/-! ### texts -/
theorem tl_lit (s : String) : TL.tl (s : Str) = s.toList.map Char.toNat := TL.tl_ofString s
theorem tl_colon : TL.tl (":" : Str) = [58] := by rw [tl_lit]; rfl
theorem tl_blank : TL.tl (" " : Str) = [32] := by rw [tl_lit]; rfl
theorem tl_feed : TL.tl ("\n" : Str) = [10] := by rw [tl_lit]; rfl
theorem tl_dig (k : Nat) : TL.tl (dig k) = [48 + k] := rfl
theorem tl_sub (n : Str) (k : Nat) : TL.tl (sub n k) = TL.tl n ++ [58, 48 + k] := by
  unfold sub
  rw [TL.tl_append, TL.tl_append, tl_colon, tl_dig, List.append_assoc]
  rfl
theorem len_app (x y : Str) : (x ++ y).length = x.length + y.length := by
  rw [TL.len_tl, TL.tl_append, List.length_append, ← TL.len_tl, ← TL.len_tl]
theorem sub_len (n : Str) (k : Nat) : (sub n k).length = n.length + 2 := by
  rw [TL.len_tl, tl_sub, List.length_append, ← TL.len_tl]
  rfl
theorem GN.free {x : Str} (h : GN x) {c : Nat} (hc : c < 97 ∨ 122 < c) : c ∉ TL.tl x := fun m => by
  have := h.lt c m
  omega
theorem sub_ne_GN {n x : Str} {k : Nat} (h : GN x) : sub n k ≠ x := fun e => by
  have q : (58 : Nat) ∈ TL.tl x := by
    rw [← e, tl_sub]
    simp
  exact h.free (by omega) q
theorem sub_inj {n m : Str} {k j : Nat} (e : sub n k = sub m j) : n = m ∧ k = j := by
  have q : TL.tl n ++ [58, 48 + k] = TL.tl m ++ [58, 48 + j] := by rw [← tl_sub, ← tl_sub, e]
  have h := List.append_inj' q rfl
  refine ⟨TL.ext_tl h.1, ?_⟩
  have h2 := h.2
  injection h2 with a b
  injection b with c d
  omega
theorem WW.free {x : Str} (h : WW x) {c : Nat} (hc : c < 48) : c ∉ TL.tl x := by
  rcases h with h | ⟨n, k, h, hk, rfl⟩
  · exact h.free (by omega)
  · intro m
    rw [tl_sub] at m
    rcases List.mem_append.mp m with m | m
    · exact h.free (by omega) m
    · simp at m
      omega
theorem WW.len {x : Str} (h : WW x) : x.length ≤ 10 := by
  rcases h with h | ⟨n, k, h, hk, rfl⟩
  · have := h.l8
    omega
  · have := h.l8
    rw [sub_len]
    omega
theorem wIn_WW {p : Str × Nat} (h : GN p.1) (h3 : p.2 ≤ 3) : ∀ x ∈ wIn p, WW x := by
  intro x hx
  unfold wIn at hx
  split at hx
  · rw [List.mem_singleton] at hx
    subst hx
    exact .inl h
  · obtain ⟨k, hk, rfl⟩ := List.mem_map.mp hx
    rw [List.mem_range] at hk
    exact .inr ⟨p.1, k, h, by omega, rfl⟩
theorem wIn_len {p : Str × Nat} (h1 : 1 ≤ p.2) : (wIn p).length = p.2 := by
  unfold wIn
  split
  · rename_i e
    rw [e]
    rfl
  · rw [List.length_map, List.length_range]
theorem wIn_nd (p : Str × Nat) : (wIn p).Nodup := by
  unfold wIn
  split
  · simp
  · refine List.Pairwise.map _ (fun a b hab e => hab (sub_inj e).2) List.nodup_range
/-- the name that a word of an in's wire begins with -/
theorem wIn_name {p q : Str × Nat} {x : Str} (hp : GN p.1) (hq : GN q.1) (h1 : x ∈ wIn p) (h2 : x ∈ wIn q) : p.1 = q.1 := by
  unfold wIn at h1 h2
  split at h1 <;> split at h2
  · rw [List.mem_singleton] at h1 h2
    exact h1.symm.trans h2
  · rw [List.mem_singleton] at h1
    obtain ⟨k, _, e⟩ := List.mem_map.mp h2
    subst h1
    exact absurd e (sub_ne_GN hp)
  · rw [List.mem_singleton] at h2
    obtain ⟨k, _, e⟩ := List.mem_map.mp h1
    subst h2
    exact absurd e (sub_ne_GN hq)
  · obtain ⟨k, _, e⟩ := List.mem_map.mp h1
    obtain ⟨j, _, e2⟩ := List.mem_map.mp h2
    exact (sub_inj (e.trans e2.symm)).1
theorem wIn_mem_GN {p : Str × Nat} {x : Str} (hx : GN x) (h : x ∈ wIn p) : x = p.1 := by
  unfold wIn at h
  split at h
  · exact List.mem_singleton.mp h
  · obtain ⟨k, _, e⟩ := List.mem_map.mp h
    exact absurd e (sub_ne_GN hx)
theorem wIns_len : ∀ {ins : List (Str × Nat)}, (∀ p ∈ ins, 1 ≤ p.2) → (wIns ins).length = first ins
  | [], _ => rfl
  | p :: r, h => by
    show (wIn p ++ wIns r).length = _
    rw [List.length_append, wIn_len (h p List.mem_cons_self), wIns_len fun q hq => h q (List.mem_cons_of_mem _ hq)]
    show _ = ((p :: r).map (·.2)).sum
    rw [List.map_cons, List.sum_cons]
    rfl
theorem wIns_nd : ∀ {ins : List (Str × Nat)}, (∀ p ∈ ins, GN p.1) → (ins.map (·.1)).Nodup → (wIns ins).Nodup
  | [], _, _ => List.nodup_nil
  | p :: r, h, hn => by
    rw [List.map_cons, List.nodup_cons] at hn
    show (wIn p ++ wIns r).Nodup
    refine List.nodup_append.mpr ⟨wIn_nd p, wIns_nd (fun q hq => h q (List.mem_cons_of_mem _ hq)) hn.2, fun x hx y hy e => ?_⟩
    subst e
    obtain ⟨q, hq, hxq⟩ := List.mem_flatMap.mp hy
    refine hn.1 (List.mem_map.mpr ⟨q, hq, (wIn_name (h p List.mem_cons_self) (h q (List.mem_cons_of_mem _ hq)) hx hxq).symm⟩)
theorem wIns_WW {ins : List (Str × Nat)} (h : ∀ p ∈ ins, GN p.1) (h3 : ∀ p ∈ ins, p.2 ≤ 3) : ∀ x ∈ wIns ins, WW x := fun x hx => by
  obtain ⟨q, hq, hxq⟩ := List.mem_flatMap.mp hx
  exact wIn_WW (h q hq) (h3 q hq) x hxq
theorem wIns_GN {ins : List (Str × Nat)} {x : Str} (hx : GN x) (h : x ∈ wIns ins) : x ∈ ins.map (·.1) := by
  obtain ⟨q, hq, hxq⟩ := List.mem_flatMap.mp h
  exact List.mem_map.mpr ⟨q, hq, (wIn_mem_GN hx hxq).symm⟩
theorem wIns_snoc (ins : List (Str × Nat)) (p : Str × Nat) : wIns (ins ++ [p]) = wIns ins ++ wIn p := by
  unfold wIns
  rw [List.flatMap_append]
  simp

/-! ### rows -/
inductive Row
  | inn (p : Str × Nat)
  | gate (g : Gate) (name : Str) (ws : List Str)
  | out (name : Str) (is : List Nat) (ws : List Str)
def gw (s : Bool) : Str := if s then ("sure" : Str) else ("gate" : Str)
def Row.words : Row → List Str
  | .inn p => [("in" : Str), p.1, dig p.2]
  | .gate g name ws => [gw g.sure, name, g.kind] ++ ws
  | .out name _ ws => [("out" : Str), name] ++ ws
def Row.text (r : Row) : Str := Txt.join (" " : Str) r.words
def Row.Ok : Row → Prop
  | .inn p => GN p.1 ∧ 1 ≤ p.2 ∧ p.2 ≤ 3
  | .gate g name ws => GN name ∧ g.kind ∈ kinds ∧ ws.length = legs g.kind ∧ ∀ x ∈ ws, WW x
  | .out name _ ws => GN name ∧ 1 ≤ ws.length ∧ ws.length ≤ 3 ∧ ∀ x ∈ ws, WW x
theorem kinds_cases {k : Str} (h : k ∈ kinds) : k = "not" ∨ k = "and" ∨ k = "or" ∨ k = "xor" ∨ k = "vote" := by
  simpa [kinds] using h
/-- a word without blanks and line feeds, short -/
def Plain (x : Str) : Prop := (∀ c ∈ TL.tl x, 48 ≤ c) ∧ x.length ≤ 10
theorem plainB {x : Str} (h : ((TL.tl x).all (fun c => decide (48 ≤ c)) && decide (x.length ≤ 10)) = true) : Plain x := by
  simp only [Bool.and_eq_true, List.all_eq_true, decide_eq_true_eq] at h
  exact h
theorem GN.plain {x : Str} (h : GN x) : Plain x := ⟨fun c hc => by have := h.lt c hc; omega, by have := h.l8; omega⟩
theorem WW.plain {x : Str} (h : WW x) : Plain x := ⟨fun c hc => by
  by_cases q : 48 ≤ c
  · exact q
  · exact absurd hc (h.free (by omega)), h.len⟩
theorem gw_plain (s : Bool) : Plain (gw s) := by
  cases s
  · exact plainB (by decide +kernel)
  · exact plainB (by decide +kernel)
theorem kind_plain {k : Str} (h : k ∈ kinds) : Plain k := by
  rcases kinds_cases h with rfl | rfl | rfl | rfl | rfl <;> exact plainB (by decide +kernel)
theorem kind_legs {k : Str} (h : k ∈ kinds) : 1 ≤ legs k ∧ legs k ≤ 3 := by
  unfold legs
  split
  · omega
  · split <;> omega
theorem words_plain {r : Row} (h : r.Ok) : ∀ x ∈ r.words, Plain x := by
  intro x hx
  cases r with
  | inn p =>
    obtain ⟨h1, h2, h3⟩ := h
    simp only [Row.words, List.mem_cons, List.not_mem_nil, or_false] at hx
    rcases hx with rfl | rfl | rfl
    · exact plainB (by decide +kernel)
    · exact h1.plain
    · refine ⟨fun c hc => ?_, ?_⟩
      · rw [tl_dig, List.mem_singleton] at hc
        omega
      · rw [TL.len_tl, tl_dig]
        show 1 ≤ 10
        decide
  | gate g name ws =>
    obtain ⟨h1, h2, h3, h4⟩ := h
    simp only [Row.words, List.cons_append, List.nil_append, List.mem_cons] at hx
    rcases hx with rfl | rfl | rfl | hx
    · exact gw_plain _
    · exact h1.plain
    · exact kind_plain h2
    · exact (h4 x hx).plain
  | out name is ws =>
    obtain ⟨h1, h2, h3, h4⟩ := h
    simp only [Row.words, List.cons_append, List.nil_append, List.mem_cons] at hx
    rcases hx with rfl | rfl | hx
    · exact plainB (by decide +kernel)
    · exact h1.plain
    · exact (h4 x hx).plain
theorem words_len {r : Row} (h : r.Ok) : r.words.length ≤ 6 ∧ 3 ≤ r.words.length := by
  cases r with
  | inn p => exact ⟨by show 3 ≤ 6; decide, by show 3 ≤ 3; decide⟩
  | gate g name ws =>
    obtain ⟨h1, h2, h3, h4⟩ := h
    have := kind_legs h2
    simp only [Row.words, List.cons_append, List.nil_append, List.length_cons]
    omega
  | out name is ws =>
    obtain ⟨h1, h2, h3, h4⟩ := h
    simp only [Row.words, List.cons_append, List.nil_append, List.length_cons]
    omega
theorem sum_le {xs : List Str} {b : Nat} (h : ∀ x ∈ xs, x.length ≤ b) : (xs.map (·.length)).sum ≤ xs.length * b := StrLaws.sumLen_le xs h
theorem join_len {s : Str} {xs : List Str} {b : Nat} (h : ∀ x ∈ xs, x.length ≤ b) : (Txt.join s xs).length ≤ xs.length * b + xs.length * s.length := by
  have e : Txt.join s xs = Str.join s xs := TL.join_eq s xs
  rw [e]
  exact Nat.le_trans (StrLaws.join_length_le s xs) (Nat.add_le_add_right (sum_le h) _)
theorem blank_len : (" " : Str).length = 1 := by rw [TL.len_tl, tl_blank]; rfl
theorem feed_len : ("\n" : Str).length = 1 := by rw [TL.len_tl, tl_feed]; rfl
theorem text_len {r : Row} (h : r.Ok) : r.text.length ≤ 66 := by
  have := join_len (s := " ") fun x hx => (words_plain h x hx).2
  have q := words_len h
  rw [blank_len] at this
  unfold Row.text
  omega
theorem mem_joinL {S : List Nat} {c : Nat} : ∀ {ps : List (List Nat)}, c ∈ TL.joinL S ps → c ∈ S ∨ ∃ p ∈ ps, c ∈ p
  | [], h => by simp [TL.joinL] at h
  | [p], h => .inr ⟨p, List.mem_singleton.mpr rfl, h⟩
  | p :: q :: r, h => by
    have h : c ∈ p ++ (S ++ TL.joinL S (q :: r)) := h
    rcases List.mem_append.mp h with h | h
    · exact .inr ⟨p, List.mem_cons_self, h⟩
    · rcases List.mem_append.mp h with h | h
      · exact .inl h
      · rcases mem_joinL h with h | ⟨z, hz, h⟩
        · exact .inl h
        · exact .inr ⟨z, List.mem_cons_of_mem _ hz, h⟩
theorem mem_join {s : Str} {xs : List Str} {c : Nat} (h : c ∈ TL.tl (Txt.join s xs)) : c ∈ TL.tl s ∨ ∃ x ∈ xs, c ∈ TL.tl x := by
  rw [TL.join_eq, TL.tl_join] at h
  rcases mem_joinL h with h | ⟨z, hz, h⟩
  · exact .inl h
  · obtain ⟨x, hx, rfl⟩ := List.mem_map.mp hz
    exact .inr ⟨x, hx, h⟩
theorem text_feed {r : Row} (h : r.Ok) : 10 ∉ TL.tl r.text := fun m => by
  rcases mem_join m with m | ⟨x, hx, m⟩
  · rw [tl_blank] at m
    simp at m
  · have := (words_plain h x hx).1 10 m
    omega
theorem text_split {r : Row} (h : r.Ok) : Txt.split r.text (" " : Str) = r.words := by
  refine TL.split_join (s := 32) (S := []) tl_blank (by decide +kernel) ?_ fun p hp m => ?_
  · intro e
    have := (words_len h).2
    rw [e] at this
    simp at this
  · have := (words_plain h p hp).1 32 m
    omega
theorem texts_split {rs : List Row} (h0 : rs ≠ []) (h : ∀ r ∈ rs, r.Ok) : Txt.split (Txt.join ("\n" : Str) (rs.map Row.text)) ("\n" : Str) = rs.map Row.text := by
  refine TL.split_join (s := 10) (S := []) tl_feed (by decide +kernel) (by simpa using h0) fun p hp => ?_
  obtain ⟨r, hr, rfl⟩ := List.mem_map.mp hp
  exact text_feed (h r hr)
theorem texts_len {rs : List Row} (h : ∀ r ∈ rs, r.Ok) : (Txt.join ("\n" : Str) (rs.map Row.text)).length ≤ rs.length * 67 := by
  have := join_len (s := "\n") (xs := rs.map Row.text) (b := 66) fun x hx => by
    obtain ⟨r, hr, rfl⟩ := List.mem_map.mp hx
    exact text_len (h r hr)
  rw [feed_len, List.length_map] at this
  omega
/-! ### a wire's word, cut at the colon -/
theorem part_GN {x : Str} (h : GN x) : Txt.partition x (":" : Str) = (x, Str.empty, Str.empty) := TL.partition_none (s := 58) (S := []) tl_colon (h.free (by omega))
theorem part_sub {n : Str} {k : Nat} (h : GN n) : Txt.partition (sub n k) (":" : Str) = (n, (":" : Str), dig k) := TL.partition_app (s := 58) (S := []) tl_colon (h.free (by omega))
end BF

/-! BFb: nets, their rows, the reader's states; names that are made. Plain Lean. -/
namespace BF
open PySem

structure GG (n : Nat) (g : Gate) : Prop where
  kd : g.kind ∈ kinds
  ln : g.wires.length = legs g.kind
  lt : ∀ w ∈ g.wires, w < n
structure GoodNet (N : Net) : Prop where
  i1 : 1 ≤ N.ins.length
  i6 : N.ins.length ≤ 6
  iw : ∀ p ∈ N.ins, 1 ≤ p.2 ∧ p.2 ≤ 3
  inm : ∀ p ∈ N.ins, GN p.1
  ind : (N.ins.map (·.1)).Nodup
  g60 : N.gates.length ≤ 60
  gok : ∀ (i : Nat) g, N.gates[i]? = some g → GG (first N.ins + i) g
  o1 : 1 ≤ N.outs.length
  o6 : N.outs.length ≤ 6
  onm : ∀ o ∈ N.outs, GN o.1
  ond : (N.outs.map (·.1)).Nodup
  ook : ∀ o ∈ N.outs, 1 ≤ o.2.length ∧ o.2.length ≤ 3 ∧ ∀ w ∈ o.2, w < first N.ins + N.gates.length
structure GoodGN (N : Net) (gn : List Str) : Prop where
  len : gn.length = N.gates.length
  ok : ∀ x ∈ gn, GN x
  nd : (N.ins.map (·.1) ++ gn).Nodup
def wAll (N : Net) (gn : List Str) : List Str := wIns N.ins ++ gn
def pick (W : List Str) (is : List Nat) : List Str := is.map fun i => W.getD i Str.empty
def rowG (W : List Str) (g : Gate) (n : Str) : Row := .gate g n (pick W g.wires)
def rowO (W : List Str) (o : Str × List Nat) : Row := .out o.1 o.2 (pick W o.2)
def rowsR (N : Net) (gn : List Str) : List Row := N.ins.map .inn ++ (List.zipWith (rowG (wAll N gn)) N.gates gn ++ N.outs.map (rowO (wAll N gn)))

theorem wAll_len {N : Net} {gn : List Str} (G : GoodNet N) (H : GoodGN N gn) : (wAll N gn).length = first N.ins + N.gates.length := by
  unfold wAll
  rw [List.length_append, wIns_len fun p hp => (G.iw p hp).1, H.len]
theorem wAll_WW {N : Net} {gn : List Str} (G : GoodNet N) (H : GoodGN N gn) : ∀ x ∈ wAll N gn, WW x := fun x hx => by
  rcases List.mem_append.mp hx with h | h
  · exact wIns_WW G.inm (fun p hp => (G.iw p hp).2) x h
  · exact .inl (H.ok x h)
theorem pick_WW {W : List Str} {is : List Nat} (h : ∀ x ∈ W, WW x) (hi : ∀ i ∈ is, i < W.length) : ∀ x ∈ pick W is, WW x := fun x hx => by
  obtain ⟨i, hi', rfl⟩ := List.mem_map.mp hx
  have hl := hi i hi'
  refine h _ ?_
  rw [List.getD_eq_getElem?_getD, List.getElem?_eq_getElem hl]
  exact List.getElem_mem hl
theorem rows_len (N : Net) (gn : List Str) (hl : gn.length = N.gates.length) : (rowsR N gn).length = N.ins.length + N.gates.length + N.outs.length := by
  unfold rowsR
  rw [List.length_append, List.length_append, List.length_map, List.length_map, List.length_zipWith, hl]
  omega
/-- the i-th row is an in's, a gate's, an out's -/
theorem rows_at {N : Net} {gn : List Str} (hl : gn.length = N.gates.length) {i : Nat} {r : Row} (h : (rowsR N gn)[i]? = some r) :
    (∃ p, N.ins[i]? = some p ∧ r = .inn p) ∨
    (∃ j g n, i = N.ins.length + j ∧ N.gates[j]? = some g ∧ gn[j]? = some n ∧ r = rowG (wAll N gn) g n) ∨
    (∃ j o, i = N.ins.length + N.gates.length + j ∧ N.outs[j]? = some o ∧ r = rowO (wAll N gn) o) := by
  unfold rowsR at h
  by_cases h1 : i < N.ins.length
  · rw [List.getElem?_append_left (by rw [List.length_map]; exact h1), List.getElem?_map] at h
    obtain ⟨p, hp, e⟩ := Option.map_eq_some_iff.mp h
    exact .inl ⟨p, hp, e.symm⟩
  · rw [List.getElem?_append_right (by rw [List.length_map]; omega), List.length_map] at h
    by_cases h2 : i < N.ins.length + N.gates.length
    · rw [List.getElem?_append_left (by rw [List.length_zipWith]; omega)] at h
      obtain ⟨g, n, hg, hn, e⟩ := List.getElem?_zipWith_eq_some.mp h
      exact .inr (.inl ⟨i - N.ins.length, g, n, by omega, hg, hn, e.symm⟩)
    · rw [List.getElem?_append_right (by rw [List.length_zipWith]; omega), List.length_zipWith, List.getElem?_map] at h
      obtain ⟨o, ho, e⟩ := Option.map_eq_some_iff.mp h
      refine .inr (.inr ⟨i - N.ins.length - N.gates.length, o, by omega, ?_, e.symm⟩)
      rw [← ho]
      congr 1
      omega
theorem rows_ok {N : Net} {gn : List Str} (G : GoodNet N) (H : GoodGN N gn) : ∀ r ∈ rowsR N gn, r.Ok := fun r hr => by
  obtain ⟨i, hi⟩ := List.getElem?_of_mem hr
  have hW := wAll_len G H
  rcases rows_at H.len hi with ⟨p, hp, rfl⟩ | ⟨j, g, n, e, hg, hn, rfl⟩ | ⟨j, o, e, ho, rfl⟩
  · have m := List.mem_of_getElem? hp
    exact ⟨G.inm p m, G.iw p m⟩
  · have k := G.gok j g hg
    have hj : j < N.gates.length := (List.getElem?_eq_some_iff.mp hg).1
    refine ⟨H.ok n (List.mem_of_getElem? hn), k.kd, ?_, pick_WW (wAll_WW G H) fun w hw => ?_⟩
    · unfold pick
      rw [List.length_map]
      exact k.ln
    · have := k.lt w hw
      omega
  · have m := List.mem_of_getElem? ho
    obtain ⟨h1, h2, h3⟩ := G.ook o m
    refine ⟨G.onm o m, ?_, ?_, pick_WW (wAll_WW G H) fun w hw => ?_⟩
    · unfold pick
      rw [List.length_map]
      exact h1
    · unfold pick
      rw [List.length_map]
      exact h2
    · have := h3 w hw
      omega

/-! ### the reader's states -/
structure RS where
  ins : List (Str × Nat)
  gates : List Gate
  outs : List (Str × List Nat)
  wires : List Str
  names : List Str
def RS.nil : RS := ⟨[], [], [], [], []⟩
def RS.put (s : RS) : Row → RS
  | .inn p => ⟨s.ins ++ [p], s.gates, s.outs, s.wires ++ wIn p, s.names ++ [p.1]⟩
  | .gate g n _ => ⟨s.ins, s.gates ++ [g], s.outs, s.wires ++ [n], s.names ++ [n]⟩
  | .out n is _ => ⟨s.ins, s.gates, s.outs ++ [(n, is)], s.wires, s.names⟩
def Fits (W : List Str) (is : List Nat) (ws : List Str) : Prop := is.map (fun i => W[i]?) = ws.map some
structure Small (s : RS) : Prop where
  w : s.wires.length ≤ 100
  n : s.names.length ≤ 100
  nd : s.wires.Nodup
def Pre (s : RS) : Row → Prop
  | .inn p => s.gates = [] ∧ s.outs = [] ∧ p.1 ∉ s.names ∧ s.ins.length < 6 ∧ (s.wires ++ wIn p).Nodup
  | .gate g n ws => s.outs = [] ∧ n ∉ s.names ∧ s.gates.length < 60 ∧ Fits s.wires g.wires ws ∧ n ∉ s.wires
  | .out n is ws => n ∉ s.outs.map (·.1) ∧ s.outs.length < 6 ∧ Fits s.wires is ws
def stAt (N : Net) (gn : List Str) (i : Nat) : RS :=
  ⟨N.ins.take i, N.gates.take (i - N.ins.length), N.outs.take (i - N.ins.length - N.gates.length), wIns (N.ins.take i) ++ gn.take (i - N.ins.length), (N.ins.take i).map (·.1) ++ gn.take (i - N.ins.length)⟩
theorem take_snoc {α : Type} {l : List α} {i : Nat} {x : α} (h : l[i]? = some x) : l.take (i + 1) = l.take i ++ [x] := by
  rw [List.take_add_one, h]
  rfl
theorem fits_pick {V R : List Str} {is : List Nat} (h : ∀ i ∈ is, i < V.length) : Fits V is (pick (V ++ R) is) := by
  unfold Fits pick
  rw [List.map_map]
  refine List.map_congr_left fun i hi => ?_
  have hl := h i hi
  show V[i]? = some ((V ++ R).getD i Str.empty)
  rw [List.getD_eq_getElem?_getD, List.getElem?_append_left hl, List.getElem?_eq_getElem hl]
  rfl
theorem stAt_small {N : Net} {gn : List Str} (G : GoodNet N) (H : GoodGN N gn) (i : Nat) : Small (stAt N gn i) := by
  have hsub : List.Sublist ((N.ins.take i).map (·.1)) (N.ins.map (·.1)) := (List.take_sublist i N.ins).map _
  have hin : ∀ p ∈ N.ins.take i, p ∈ N.ins := fun p hp => List.mem_of_mem_take hp
  have hnd := List.nodup_append.mp H.nd
  have f18 : first (N.ins.take i) ≤ 18 := by
    have : ∀ l : List (Str × Nat), (∀ p ∈ l, p.2 ≤ 3) → first l ≤ l.length * 3 := by
      intro l
      induction l with
      | nil => intro _; exact Nat.le_refl _
      | cons p r ih =>
        intro h
        have h1 := h p List.mem_cons_self
        have h2 := ih fun q hq => h q (List.mem_cons_of_mem _ hq)
        have e : first (p :: r) = p.2 + first r := by
          unfold first
          rw [List.map_cons, List.sum_cons]
        rw [e, List.length_cons]
        omega
    have q := this (N.ins.take i) fun p hp => (G.iw p (hin p hp)).2
    have l6 := G.i6
    rw [List.length_take] at q
    omega
  have hg : (gn.take (i - N.ins.length)).length ≤ 60 := by
    have := H.len
    have := G.g60
    rw [List.length_take]
    omega
  refine ⟨?_, ?_, ?_⟩
  · show (wIns (N.ins.take i) ++ gn.take (i - N.ins.length)).length ≤ 100
    rw [List.length_append, wIns_len fun p hp => (G.iw p (hin p hp)).1]
    omega
  · show ((N.ins.take i).map (·.1) ++ gn.take (i - N.ins.length)).length ≤ 100
    have := G.i6
    rw [List.length_append, List.length_map, List.length_take]
    omega
  · show (wIns (N.ins.take i) ++ gn.take (i - N.ins.length)).Nodup
    refine List.nodup_append.mpr ⟨wIns_nd (fun p hp => G.inm p (hin p hp)) (hnd.1.sublist hsub), hnd.2.1.sublist (List.take_sublist _ _), fun x hx y hy e => ?_⟩
    subst e
    have hy' : x ∈ gn := List.mem_of_mem_take hy
    have hx' := wIns_GN (H.ok x hy') hx
    exact hnd.2.2 x (hsub.subset hx') x hy' rfl
theorem step_ok {N : Net} {gn : List Str} (G : GoodNet N) (H : GoodGN N gn) {i : Nat} {r : Row} (h : (rowsR N gn)[i]? = some r) : Pre (stAt N gn i) r ∧ (stAt N gn i).put r = stAt N gn (i + 1) := by
  have hnd := List.nodup_append.mp H.nd
  rcases rows_at H.len h with ⟨p, hp, rfl⟩ | ⟨j, g, n, e, hg, hn, rfl⟩ | ⟨j, o, e, ho, rfl⟩
  · have hi : i < N.ins.length := (List.getElem?_eq_some_iff.mp hp).1
    have e1 : i - N.ins.length = 0 := by omega
    have e2 : i + 1 - N.ins.length = 0 := by omega
    have et := take_snoc hp
    have hS := stAt_small G H (i + 1)
    have hmap : (N.ins.map (·.1)).take (i + 1) = (N.ins.take i).map (·.1) ++ [p.1] := by
      rw [← List.map_take, et, List.map_append]
      rfl
    have hno : p.1 ∉ (N.ins.take i).map (·.1) := fun m => by
      have q : ((N.ins.map (·.1)).take (i + 1)).Nodup := hnd.1.sublist (List.take_sublist _ _)
      rw [hmap] at q
      exact (List.nodup_append.mp q).2.2 p.1 m p.1 (List.mem_singleton.mpr rfl) rfl
    refine ⟨⟨?_, ?_, ?_, ?_, ?_⟩, ?_⟩
    · show N.gates.take (i - N.ins.length) = []
      rw [e1, List.take_zero]
    · show N.outs.take (i - N.ins.length - N.gates.length) = []
      rw [e1, Nat.zero_sub, List.take_zero]
    · show p.1 ∉ (N.ins.take i).map (·.1) ++ gn.take (i - N.ins.length)
      rw [e1, List.take_zero, List.append_nil]
      exact hno
    · show (N.ins.take i).length < 6
      have := G.i6
      rw [List.length_take]
      omega
    · have q := hS.nd
      have q : (wIns (N.ins.take (i + 1)) ++ gn.take (i + 1 - N.ins.length)).Nodup := q
      rw [e2, List.take_zero, List.append_nil, et, wIns_snoc] at q
      show (wIns (N.ins.take i) ++ gn.take (i - N.ins.length) ++ wIn p).Nodup
      rw [e1, List.take_zero, List.append_nil]
      exact q
    · unfold stAt RS.put
      simp only [e1, e2, Nat.zero_sub, List.take_zero, List.append_nil, et, wIns_snoc, List.map_append, List.map_cons, List.map_nil]
  · have hj : j < N.gates.length := (List.getElem?_eq_some_iff.mp hg).1
    have ei : N.ins.take i = N.ins := List.take_of_length_le (by omega)
    have ei' : N.ins.take (i + 1) = N.ins := List.take_of_length_le (by omega)
    have e1 : i - N.ins.length = j := by omega
    have e2 : i + 1 - N.ins.length = j + 1 := by omega
    have e3 : j - N.gates.length = 0 := by omega
    have e4 : j + 1 - N.gates.length = 0 := by omega
    have etg := take_snoc hg
    have etn := take_snoc hn
    have hgn : (gn.take (j + 1)).Nodup := hnd.2.1.sublist (List.take_sublist _ _)
    have hGN : GN n := H.ok n (List.mem_of_getElem? hn)
    have hno : n ∉ gn.take j := fun m => by
      rw [etn] at hgn
      exact (List.nodup_append.mp hgn).2.2 n m n (List.mem_singleton.mpr rfl) rfl
    have hni : n ∉ N.ins.map (·.1) := fun m => hnd.2.2 n m n (List.mem_of_getElem? hn) rfl
    refine ⟨⟨?_, ?_, ?_, ?_, ?_⟩, ?_⟩
    · show N.outs.take (i - N.ins.length - N.gates.length) = []
      rw [e1, e3, List.take_zero]
    · show n ∉ (N.ins.take i).map (·.1) ++ gn.take (i - N.ins.length)
      rw [ei, e1]
      exact fun m => (List.mem_append.mp m).elim hni hno
    · show (N.gates.take (i - N.ins.length)).length < 60
      have := G.g60
      rw [List.length_take]
      omega
    · show Fits (wIns (N.ins.take i) ++ gn.take (i - N.ins.length)) g.wires (pick (wIns N.ins ++ gn) g.wires)
      rw [ei, e1]
      have es : wIns N.ins ++ gn = (wIns N.ins ++ gn.take j) ++ gn.drop j := by rw [List.append_assoc, List.take_append_drop]
      rw [es]
      refine fits_pick fun w hw => ?_
      have q := (G.gok j g hg).lt w hw
      have := H.len
      rw [List.length_append, wIns_len (fun p hp => (G.iw p hp).1), List.length_take]
      omega
    · show n ∉ wIns (N.ins.take i) ++ gn.take (i - N.ins.length)
      rw [ei, e1]
      exact fun m => (List.mem_append.mp m).elim (fun m => hni (wIns_GN hGN m)) hno
    · unfold stAt RS.put rowG
      simp only [ei, ei', e1, e2, e3, e4, List.take_zero, etg, etn, List.append_assoc]
  · have hj : j < N.outs.length := (List.getElem?_eq_some_iff.mp ho).1
    have ei : N.ins.take i = N.ins := List.take_of_length_le (by omega)
    have ei' : N.ins.take (i + 1) = N.ins := List.take_of_length_le (by omega)
    have hl := H.len
    have eg : N.gates.take (i - N.ins.length) = N.gates := List.take_of_length_le (by omega)
    have eg' : N.gates.take (i + 1 - N.ins.length) = N.gates := List.take_of_length_le (by omega)
    have en : gn.take (i - N.ins.length) = gn := List.take_of_length_le (by omega)
    have en' : gn.take (i + 1 - N.ins.length) = gn := List.take_of_length_le (by omega)
    have e1 : i - N.ins.length - N.gates.length = j := by omega
    have e2 : i + 1 - N.ins.length - N.gates.length = j + 1 := by omega
    have eto := take_snoc ho
    have hno : o.1 ∉ (N.outs.take j).map (·.1) := fun m => by
      have q : ((N.outs.map (·.1)).take (j + 1)).Nodup := G.ond.sublist (List.take_sublist _ _)
      rw [← List.map_take, eto, List.map_append] at q
      exact (List.nodup_append.mp q).2.2 o.1 m o.1 (List.mem_singleton.mpr rfl) rfl
    refine ⟨⟨?_, ?_, ?_⟩, ?_⟩
    · show o.1 ∉ (N.outs.take (i - N.ins.length - N.gates.length)).map (·.1)
      rw [e1]
      exact hno
    · show (N.outs.take (i - N.ins.length - N.gates.length)).length < 6
      have := G.o6
      rw [List.length_take]
      omega
    · show Fits (wIns (N.ins.take i) ++ gn.take (i - N.ins.length)) o.2 (pick (wIns N.ins ++ gn) o.2)
      rw [ei, en]
      have q := fits_pick (V := wIns N.ins ++ gn) (R := []) (is := o.2) fun w hw => ?_
      · rw [List.append_nil] at q
        exact q
      · have q := (G.ook o (List.mem_of_getElem? ho)).2.2 w hw
        have := wAll_len G H
        unfold wAll at this
        omega
    · unfold stAt RS.put rowO
      simp only [ei, ei', eg, eg', en, en', e1, e2, eto]
theorem stAt_zero (N : Net) (gn : List Str) : stAt N gn 0 = RS.nil := by
  unfold stAt RS.nil
  simp [wIns]
theorem stAt_end {N : Net} {gn : List Str} (hl : gn.length = N.gates.length) : (stAt N gn (rowsR N gn).length).ins = N.ins ∧ (stAt N gn (rowsR N gn).length).gates = N.gates ∧ (stAt N gn (rowsR N gn).length).outs = N.outs := by
  rw [rows_len N gn hl]
  refine ⟨List.take_of_length_le (by omega), List.take_of_length_le (by omega), List.take_of_length_le (by omega)⟩

/-! ### names that are made -/
def gnB (x : Str) : Bool := decide (1 ≤ x.length) && decide (x.length ≤ 8) && (TL.tl x).all (fun c => decide (97 ≤ c) && decide (c ≤ 122)) && !decide (x ∈ barred)
theorem gnB_ok {x : Str} (h : gnB x = true) : GN x := by
  unfold gnB at h
  simp only [Bool.and_eq_true, List.all_eq_true, decide_eq_true_eq, Bool.not_eq_true', decide_eq_false_iff_not] at h
  obtain ⟨⟨⟨h1, h2⟩, h3⟩, h4⟩ := h
  exact ⟨h1, h2, h3, h4⟩
/-- a short word of letters, or none -/
structure Lw (x : Str) : Prop where
  l8 : x.length ≤ 8
  lt : ∀ c ∈ TL.tl x, 97 ≤ c ∧ c ≤ 122
theorem Lw.gn {x : Str} (h : Lw x) (h0 : x ≠ Str.empty) (hb : x ∉ barred) : GN x := by
  refine ⟨?_, h.l8, h.lt, hb⟩
  cases e : x.length with
  | zero => exact absurd (TL.ext_tl ((TL.len0_tl x).mp e)) h0
  | succ k => omega
def lett (i : Nat) : Str := ⟨#[97 + i]⟩
def zz (n : Nat) : Str := ("zz" : Str) ++ lett (n / 26) ++ lett (n % 26)
def spareZ : List Str := (List.range 80).map zz
def yy (n : Nat) : Str := ("y" : Str) ++ lett (n / 12) ++ lett (12 + n % 12)
def spareY : List Str := (List.range 144).map yy
theorem spareZ_nd : spareZ.Nodup := by decide +kernel
theorem spareY_nd : spareY.Nodup := by decide +kernel
theorem spareZ_gn : ∀ x ∈ spareZ, GN x := by
  have h : spareZ.all gnB = true := by decide +kernel
  exact fun x hx => gnB_ok (List.all_eq_true.mp h x hx)
theorem spareY_gn : ∀ x ∈ spareY, GN x := by
  have h : spareY.all gnB = true := by decide +kernel
  exact fun x hx => gnB_ok (List.all_eq_true.mp h x hx)
theorem spare_has {sp fs : List Str} (hn : sp.Nodup) (hl : fs.length < sp.length) : ∃ x r, sp.filter (fun x => !decide (x ∈ fs)) = x :: r ∧ x ∈ sp ∧ x ∉ fs := by
  cases e : sp.filter (fun x => !decide (x ∈ fs)) with
  | nil =>
    have hs : sp ⊆ fs := fun x hx => by
      by_cases q : x ∈ fs
      · exact q
      · have m : x ∈ sp.filter (fun x => !decide (x ∈ fs)) := List.mem_filter.mpr ⟨hx, by simp [q]⟩
        rw [e] at m
        cases m
    have := List.Nodup.length_le_of_subset hn hs
    omega
  | cons x r =>
    have m : x ∈ sp.filter (fun x => !decide (x ∈ fs)) := by
      rw [e]
      exact List.mem_cons_self
    obtain ⟨h1, h2⟩ := List.mem_filter.mp m
    exact ⟨x, r, rfl, h1, by simpa using h2⟩
end BF

/-! BFc: the text by places, what the top has written, rules of our own, data in the heap. -/
namespace BF
open PySem PySem.Spec PyProof.Rows L2
open C8 (Cal Met Mak pe_c pe_mk pe_mt pe_mt0 pe_gc tCut pss_cut cal0 met0 mak0 fnScope_by)

def topS (i : Nat) : Stmt := PySem.Challenge.pw_bearfaults_k08_whole_names_otherwise.main.body.getD i (.Pass ⟨0, 0, 0, 0⟩)
abbrev sIsName : Stmt := topS 21
abbrev sNamed : Stmt := topS 22
abbrev sWireTold : Stmt := topS 23
abbrev sRowTold : Stmt := topS 24
abbrev sInit : Stmt := inClass (topS 25) 0
abbrev sInRead : Stmt := inClass (topS 25) 1
abbrev sNumbers : Stmt := inClass (topS 25) 2
abbrev sGateRead : Stmt := inClass (topS 25) 3
abbrev sOutRead : Stmt := inClass (topS 25) 4
abbrev sRowRead : Stmt := inClass (topS 25) 5
abbrev sRead : Stmt := topS 26
abbrev sCell : Stmt := topS 28
abbrev sStir : Stmt := topS 29
abbrev sNames : Stmt := topS 30
abbrev sWires : Stmt := topS 31
abbrev sGate : Stmt := topS 32
abbrev sNet : Stmt := topS 33
abbrev sWords : Stmt := topS 34
abbrev sRows : Stmt := topS 35
abbrev sGateNames : Stmt := topS 36
abbrev sLaw : Stmt := topS 37

def letters : Str := "abcdefghijklmnopqrstuvwxyz"
def figures : Str := "0123456789"
def widths : List Str := ["1", "2", "3"]
/-- the module's name x holds v -/
def Gv (mg : Str → Option Value) (x : Str) (v : V) : Prop := ∃ u, mg x = some u ∧ RelV v u
/-- what the top has written: constants, built-ins that are not hidden, the class -/
structure Txt (K : PySem.W.Frag) (mg : Str → Option Value) (w : World) (C aB aW aL : Addr) : Prop where
  cBar : Gv mg "BARRED" (.ref aB)
  barAt : ∀ H, SqT K H aB (barred.map V.str)
  cLet : Gv mg "LETTERS" (.str letters)
  cLegs : Gv mg "LEGS" (.ref aL)
  legsAt : ∀ k ∈ kinds, KDct K w aL k (.int (legs k))
  legsLow : (aL == sysModules) = false
  cFig : Gv mg "FIGURES" (.str figures)
  cWid : Gv mg "WIDTHS" (.ref aW)
  widAt : ∀ H, SqT K H aW (widths.map V.str)
  n8 : Gv mg "LONGEST_NAME" (.int 8)
  n80 : Gv mg "MOST_ROWS" (.int 80)
  ni : Gv mg "MOST_INS" (.int 6)
  ng : Gv mg "MOST_GATES" (.int 60)
  no : Gv mg "MOST_OUTS" (.int 6)
  nw : Gv mg "MOST_WIRES" (.int 3)
  len : mg "len" = none
  int : mg "int" = none
  range : mg "range" = none
  tuple : mg "tuple" = none
  min : mg "min" = none
  sum : mg "sum" = none
  str : mg "str" = none
  enum : mg "enumerate" = none
  cl : Cls K C
  nI : NoAttr K C "ins"
  nG : NoAttr K C "gates"
  nO : NoAttr K C "outs"
  nW : NoAttr K C "wires"
  nN : NoAttr K C "names"

/-! ### rules of our own -/
section
variable {X : Cx}
theorem op_mul_str : OpR X (binaryOp .Mult) (fun x y H Q => ∃ (z : Str) (i : Int), x = .str z ∧ y = .int i ∧ z.length ≤ 16 ∧ -(2 ^ 63) ≤ i ∧ i ≤ 1048576 ∧ Q (.str (PySem.Txt.mul z i)) H) := by
  intro pins s σ H x y v u Q I rx ry h
  obtain ⟨z, i, rfl, rfl, h1, h2, h3, q⟩ := h
  obtain ⟨t, rfl⟩ := rx
  obtain ⟨t', rfl⟩ := ry
  exact SB.mul (mulOk_of 16 1048576 h1 h3 h2 (by decide) (by decide)) fun t' k => ⟨.str _, H, I.tok _, ⟨_, rfl⟩, q⟩
/-- d.get(k, e), d written in the module, k one of its keys -/
def tKGet (K : PySem.W.Frag) (w : World) (td ty tx : TE) : TE := fun σ H Q => td σ H fun x H1 => ∃ a z v, x = .ref a ∧ KDct K w a z v ∧ (a == sysModules) = false ∧ ty σ H1 fun y H2 => y = .str z ∧ tx σ H2 fun _ H3 => Q v H3
theorem pe_kget {o e f : Expr} {apos cpos : Pos} {td ty tx : TE} (ho : PE X o td) (he : PE X e ty) (hf : PE X f tx) (m : M2 X o "get" apos e f cpos) : PE X (.Call (.Attribute o "get" apos) [e, f] [] cpos) (tKGet X.K X.w td ty tx) := by
  refine ⟨fun pins s σ H Q I h => ?_⟩
  refine wpAny_Call_method m.base m.few m.line PySem.F.plainAttrs_dict PySem.F.slot_dict_get PySem.F.type_dict_get (thn (ho.run pins s σ H _ I h) fun u s1 ⟨x, H1, I1, rx, a, z, v, ex, ⟨es, n, u0, hl, hk, e0, ru⟩, low, q1⟩ => ?_)
  subst ex
  obtain rfl : u = Value.ref a := rx
  have hm1 := PySem.W.mapOf_K (prog := X.prog) (w := X.w) I1.kIn hl hk
  refine ⟨hm1.typeIs, fun b q => ?_, ?_⟩
  · cases q
    exact ⟨_, I1.kIn _ _ hl, rfl⟩
  rw [m.trees]
  refine Calls.callWith_builtin rfl (Calls.evalArgs_plain (Calls.spliced_cons (thn (he.run pins s1 σ H1 _ I1 q1) fun iv s2 ⟨y, H2, I2, ry, ey, q2⟩ =>
    Calls.spliced_cons (thn (hf.run pins s2 σ H2 _ I2 q2) fun fv s3 ⟨z', H3, I3, rz, q3⟩ => Calls.spliced_nil ?_))))
  subst ey
  obtain ⟨t, rfl⟩ := (show ∃ t, iv = Value.str z t from ry)
  have hm3 := PySem.W.mapOf_K (prog := X.prog) (w := X.w) I3.kIn hl hk
  refine call_meetsIn PySem.F.slot_dict_get hm3.typeIs PySem.F.entry_dict_get (PySem.F.args_dict_get_3 _ _ _) (meets_dict_get_default (strKind X.prog X.w) (d := a) (strKind_is X.prog X.w z t) low fv) ⟨_, hm3, ?_⟩
  rw [PySem.W.find_K hl e0]
  exact ⟨v, H3, I3.tok _, ru, q3⟩
end

/-! ### texts in lists -/
theorem inV_str (x : Str) : ∀ xs : List Str, inV (.str x) (xs.map V.str) = decide (x ∈ xs)
  | [] => by simp [inV]
  | y :: r => by
    have ih := inV_str x r
    unfold inV at ih ⊢
    rw [List.map_cons, List.any_cons, ih]
    show (y == x || decide (x ∈ r)) = decide (x ∈ y :: r)
    by_cases e : x = y
    · subst e
      simp
    · have e' : (y == x) = false := by simpa using fun z => e z.symm
      rw [e', Bool.false_or]
      simp [e]
theorem flat_strs (xs : List Str) : (xs.map V.str).all flatV = true := by
  rw [List.all_eq_true]
  intro v hv
  obtain ⟨x, _, rfl⟩ := List.mem_map.mp hv
  rfl

/-! ### heaps -/
theorem same_upd {H : Hp} {p : Addr} {o : HO} (h : H p = none) : Same H (upd H p o) := fun b x e => by
  rw [upd_ne (ne_of_none e h)]
  exact e
theorem Same.none {H H' : Hp} (e : Same H H') {l : Addr} (h : H' l = Option.none) : H l = Option.none := L2.Same.free e h
theorem Same.sqt {K : PySem.W.Frag} {H H' : Hp} {a : Addr} {xs : List V} (e : Same H H') (h : SqT K H a xs) : SqT K H' a xs := by
  rcases h with (h | ⟨o, h⟩) | h
  · exact .inl (.inl (e _ _ h))
  · exact .inl (.inr ⟨o, e _ _ h⟩)
  · exact .inr h
/-- all tuples stand -/
def Tups (H H' : Hp) : Prop := ∀ b xs, H b = some (.tup xs) → H' b = some (.tup xs)
theorem Same.tups {H H' : Hp} (e : Same H H') : Tups H H' := fun b xs h => e b _ h
theorem tups_upd {H : Hp} {p : Addr} {o : HO} (h : ∀ xs, H p ≠ some (.tup xs)) : Tups H (upd H p o) := fun b xs e => by
  have ne : b ≠ p := fun z => by
    subst z
    exact h xs e
  rw [upd_ne ne]
  exact e
theorem Tups.trans {H H1 H2 : Hp} (a : Tups H H1) (b : Tups H1 H2) : Tups H H2 := fun c xs h => b c xs (a c xs h)

/-- item by item -/
def All2 {α : Type} (R : V → α → Prop) (xs : List V) (ys : List α) : Prop := xs.length = ys.length ∧ ∀ (i : Nat) x y, xs[i]? = some x → ys[i]? = some y → R x y
theorem All2.nil {α : Type} {R : V → α → Prop} : All2 R [] [] := ⟨rfl, fun i x y h => by simp at h⟩
theorem All2.snoc {α : Type} {R : V → α → Prop} {xs : List V} {ys : List α} (h : All2 R xs ys) {x : V} {y : α} (r : R x y) : All2 R (xs ++ [x]) (ys ++ [y]) := by
  refine ⟨by rw [List.length_append, List.length_append, h.1]; rfl, fun i a b ha hb => ?_⟩
  by_cases hi : i < xs.length
  · rw [List.getElem?_append_left hi] at ha
    rw [List.getElem?_append_left (by rw [← h.1]; exact hi)] at hb
    exact h.2 i a b ha hb
  · rw [List.getElem?_append_right (by omega)] at ha
    rw [List.getElem?_append_right (by rw [← h.1]; omega), ← h.1] at hb
    have e : i - xs.length = 0 := by
      obtain ⟨q, _⟩ := List.getElem?_eq_some_iff.mp ha
      simp at q
      omega
    rw [e] at ha hb
    cases ha
    cases hb
    exact r
theorem All2.mono {α : Type} {R S : V → α → Prop} {xs : List V} {ys : List α} (h : All2 R xs ys) (f : ∀ x y, R x y → S x y) : All2 S xs ys := ⟨h.1, fun i x y a b => f x y (h.2 i x y a b)⟩
theorem All2.at {α : Type} {R : V → α → Prop} {xs : List V} {ys : List α} (h : All2 R xs ys) {i : Nat} {x : V} (e : xs[i]? = some x) : ∃ y, ys[i]? = some y ∧ R x y := by
  obtain ⟨q, _⟩ := List.getElem?_eq_some_iff.mp e
  have hy : i < ys.length := by rw [← h.1]; exact q
  exact ⟨ys[i], List.getElem?_eq_getElem hy, h.2 i x _ e (List.getElem?_eq_getElem hy)⟩
theorem All2.at' {α : Type} {R : V → α → Prop} {xs : List V} {ys : List α} (h : All2 R xs ys) {i : Nat} {y : α} (e : ys[i]? = some y) : ∃ x, xs[i]? = some x ∧ R x y := by
  obtain ⟨q, _⟩ := List.getElem?_eq_some_iff.mp e
  have hx : i < xs.length := by rw [h.1]; exact q
  exact ⟨xs[i], List.getElem?_eq_getElem hx, h.2 i _ y (List.getElem?_eq_getElem hx) e⟩
def nums (is : List Nat) : List V := is.map fun (i : Nat) => V.int (i : Int)
/-- an in, a gate, an out as the law and the reader hold them -/
def InAt (H : Hp) (v : V) (p : Str × Nat) : Prop := ∃ t, v = .ref t ∧ H t = some (.tup [.str p.1, .int (p.2 : Int)])
def GateAt (H : Hp) (v : V) (g : Gate) : Prop := ∃ t u, v = .ref t ∧ H t = some (.tup [.str g.kind, .ref u, .bl g.sure]) ∧ H u = some (.tup (nums g.wires))
def OutAt (H : Hp) (v : V) (o : Str × List Nat) : Prop := ∃ t u, v = .ref t ∧ H t = some (.tup [.str o.1, .ref u]) ∧ H u = some (.tup (nums o.2))
theorem InAt.keep {H H' : Hp} (e : Tups H H') {v : V} {p : Str × Nat} (h : InAt H v p) : InAt H' v p := by
  obtain ⟨t, h1, h2⟩ := h
  exact ⟨t, h1, e _ _ h2⟩
theorem GateAt.keep {H H' : Hp} (e : Tups H H') {v : V} {g : Gate} (h : GateAt H v g) : GateAt H' v g := by
  obtain ⟨t, u, h1, h2, h3⟩ := h
  exact ⟨t, u, h1, e _ _ h2, e _ _ h3⟩
theorem OutAt.keep {H H' : Hp} (e : Tups H H') {v : V} {o : Str × List Nat} (h : OutAt H v o) : OutAt H' v o := by
  obtain ⟨t, u, h1, h2, h3⟩ := h
  exact ⟨t, u, h1, e _ _ h2, e _ _ h3⟩
/-- a list of them -/
def InsAt (H : Hp) (a : Addr) (l : List (Str × Nat)) : Prop := ∃ xs, H a = some (.lst xs) ∧ All2 (InAt H) xs l
def GatesAt (H : Hp) (a : Addr) (l : List Gate) : Prop := ∃ xs, H a = some (.lst xs) ∧ All2 (GateAt H) xs l
def OutsAt (H : Hp) (a : Addr) (l : List (Str × List Nat)) : Prop := ∃ xs, H a = some (.lst xs) ∧ All2 (OutAt H) xs l
theorem InsAt.keep {H H' : Hp} (e : Tups H H') {a : Addr} {l : List (Str × Nat)} (h : InsAt H a l) (k : ∀ o, H a = some o → H' a = some o) : InsAt H' a l := by
  obtain ⟨xs, h1, h2⟩ := h
  exact ⟨xs, k _ h1, h2.mono fun x y r => r.keep e⟩
theorem GatesAt.keep {H H' : Hp} (e : Tups H H') {a : Addr} {l : List Gate} (h : GatesAt H a l) (k : ∀ o, H a = some o → H' a = some o) : GatesAt H' a l := by
  obtain ⟨xs, h1, h2⟩ := h
  exact ⟨xs, k _ h1, h2.mono fun x y r => r.keep e⟩
theorem OutsAt.keep {H H' : Hp} (e : Tups H H') {a : Addr} {l : List (Str × List Nat)} (h : OutsAt H a l) (k : ∀ o, H a = some o → H' a = some o) : OutsAt H' a l := by
  obtain ⟨xs, h1, h2⟩ := h
  exact ⟨xs, k _ h1, h2.mono fun x y r => r.keep e⟩
theorem InsAt.same {H H' : Hp} (e : Same H H') {a : Addr} {l : List (Str × Nat)} (h : InsAt H a l) : InsAt H' a l := h.keep (Same.tups e) (fun o q => e _ _ q)
theorem GatesAt.same {H H' : Hp} (e : Same H H') {a : Addr} {l : List Gate} (h : GatesAt H a l) : GatesAt H' a l := h.keep (Same.tups e) (fun o q => e _ _ q)
theorem OutsAt.same {H H' : Hp} (e : Same H H') {a : Addr} {l : List (Str × List Nat)} (h : OutsAt H a l) : OutsAt H' a l := h.keep (Same.tups e) (fun o q => e _ _ q)
/-- a net at t -/
structure NetAt (H : Hp) (t a b c : Addr) (N : Net) : Prop where
  tp : H t = some (.tup [.ref a, .ref b, .ref c])
  ins : InsAt H a N.ins
  gates : GatesAt H b N.gates
  outs : OutsAt H c N.outs
theorem NetAt.same {H H' : Hp} (e : Same H H') {t a b c : Addr} {N : Net} (h : NetAt H t a b c N) : NetAt H' t a b c N := ⟨e _ _ h.tp, h.ins.same e, h.gates.same e, h.outs.same e⟩

/-! ### the data for == -/
def dNums (is : List Nat) : List PyData := is.map fun (i : Nat) => PyData.int (i : Int)
def dIn (p : Str × Nat) : PyData := .tuple [.str p.1, .int (p.2 : Int)]
def dGate (g : Gate) : PyData := .tuple [.str g.kind, .tuple (dNums g.wires), .bool g.sure]
def dOut (o : Str × List Nat) : PyData := .tuple [.str o.1, .tuple (dNums o.2)]
def dNet (N : Net) : PyData := .tuple [.list (N.ins.map dIn), .list (N.gates.map dGate), .list (N.outs.map dOut)]
section
variable {K : PySem.W.Frag} {H : Hp}
theorem dp_nums : ∀ is : List Nat, DpAll K H (nums is) (dNums is)
  | [] => .nil
  | i :: r => .cons (.int _) (dp_nums r)
theorem dp_all2 {α : Type} {R : V → α → Prop} {f : α → PyData} (h : ∀ x y, R x y → Dp K H x (f y)) : ∀ {xs : List V} {ys : List α}, All2 R xs ys → DpAll K H xs (ys.map f)
  | [], [], _ => .nil
  | [], _ :: _, q => by have := q.1; simp at this
  | _ :: _, [], q => by have := q.1; simp at this
  | x :: xs, y :: ys, q => by
    refine .cons (h x y (q.2 0 x y rfl rfl)) (dp_all2 h ⟨?_, fun i a b e1 e2 => q.2 (i + 1) a b e1 e2⟩)
    have := q.1
    simpa using this
theorem InAt.dp {v : V} {p : Str × Nat} (h : InAt H v p) : Dp K H v (dIn p) := by
  obtain ⟨t, rfl, h2⟩ := h
  exact .tup (.of h2) (.cons (.str _) (.cons (.int _) .nil))
theorem GateAt.dp {v : V} {g : Gate} (h : GateAt H v g) : Dp K H v (dGate g) := by
  obtain ⟨t, u, rfl, h2, h3⟩ := h
  exact .tup (.of h2) (.cons (.str _) (.cons (.tup (.of h3) (dp_nums _)) (.cons (.bl _) .nil)))
theorem OutAt.dp {v : V} {o : Str × List Nat} (h : OutAt H v o) : Dp K H v (dOut o) := by
  obtain ⟨t, u, rfl, h2, h3⟩ := h
  exact .tup (.of h2) (.cons (.str _) (.cons (.tup (.of h3) (dp_nums _)) .nil))
theorem InsAt.dp {a : Addr} {l : List (Str × Nat)} (h : InsAt H a l) : Dp K H (.ref a) (.list (l.map dIn)) := by
  obtain ⟨xs, h1, h2⟩ := h
  exact .lst (.of h1) (dp_all2 (fun x y r => r.dp) h2)
theorem GatesAt.dp {a : Addr} {l : List Gate} (h : GatesAt H a l) : Dp K H (.ref a) (.list (l.map dGate)) := by
  obtain ⟨xs, h1, h2⟩ := h
  exact .lst (.of h1) (dp_all2 (fun x y r => r.dp) h2)
theorem OutsAt.dp {a : Addr} {l : List (Str × List Nat)} (h : OutsAt H a l) : Dp K H (.ref a) (.list (l.map dOut)) := by
  obtain ⟨xs, h1, h2⟩ := h
  exact .lst (.of h1) (dp_all2 (fun x y r => r.dp) h2)
theorem net_dp {t a b c : Addr} {i : List (Str × Nat)} {g : List Gate} {o : List (Str × List Nat)} (h : H t = some (.tup [.ref a, .ref b, .ref c])) (h1 : InsAt H a i) (h2 : GatesAt H b g) (h3 : OutsAt H c o) : Dp K H (.ref t) (dNet ⟨i, g, o⟩) :=
  .tup (.of h) (.cons h1.dp (.cons h2.dp (.cons h3.dp .nil)))
end
end BF

/-! BFd: is_name, named, wire_told, row_told. -/
namespace BF
open PySem PySem.Spec PyProof.Rows L2
open C8 (Cal Met Mak pe_c pe_mk pe_mt pe_mt0 pe_gc tCut pss_cut cal0 met0 mak0 fnScope_by)

theorem size_ok {n : Nat} (h : n ≤ 100000) : n ≤ sizeLine := Nat.le_trans h (by decide)
theorem size_lt {n : Nat} (h : n ≤ 100000) : n < sizeLine := Nat.lt_of_le_of_lt h (by decide)
theorem tl_letters : TL.tl letters = List.range' 97 26 := by decide +kernel
theorem mem_letters {c : Nat} (h : 97 ≤ c ∧ c ≤ 122) : c ∈ letters.cps.toList := by
  show c ∈ TL.tl letters
  rw [tl_letters, List.mem_range'_1]
  omega

section
variable {P : Program} {w : World} {K : PySem.W.Frag} {mg : Str → Option Value} {base : Heap} {C aB aW aL : Addr}

def spIsName : Sp := fun vs H Q _ => ∃ x, vs = [.str x] ∧ GN x ∧ ∀ H', Same H H' → Q (.bl true) H'
theorem ok_is_name {f : Addr} {fd : FuncData} (T : Txt K mg w C aB aW aL) (F : C8.Def K mg "is_name" sIsName f fd) (b : Binds K fd ["word"] []) : Cal P w K mg base 1 "is_name" spIsName [] := by
  have sc : FnScope ["word", "sign"] ["word"] (C8.fnScope sIsName) := fnScope_by (by decide +kernel)
  refine cal0 F b .nil sc (fun vs H Q E h => ?_) (fun cdv A outer s H vs Q E hr h => ?_)
  · obtain ⟨x, rfl, _⟩ := h
    rfl
  · obtain ⟨x, rfl, hx, q⟩ := h
    refine ⟨_, pss_cons (ps_if (PW.pt (pw_or (pt_not (pt_chain op_le op_le pe_int (pe_callB call_len_str (by rfl) T.len PySem.boot_len (pa_cons (pv 0) pa_nil)) (pe_gc rfl T.n8)))
        (pw_or1 (pt_cmpR op_in_seq (pv 0) (pe_gc rfl T.cBar) (by rfl))))) (pss_one (ps_ret pe_bl)) pss_nil)
      (pss_one (ps_ret (pe_cmpR (op_eqD hr.units) (pe_lc (own := [("sign", 1)]) (g := gName 1) rfl sc.nd (pi_str (pv 0)) (blkOk_by (own := [("sign", 1)]) (N := ["word", "sign"]) (sc := C8.fnScope sIsName) (by decide +kernel))
        (fun _ _ _ _ _ => pg_name (i := 1) sc.nd rfl (Or.inl rfl)) (fun _ _ _ _ _ => pts_one (pt_cmpR op_notIn_sign (pv 1) (pe_gc rfl T.cLet) (by rfl))) (fun _ _ _ _ _ => pv 1)) (pe_lst pa_nil) (nomark _)))), ?_⟩
    have l1 := hx.l1
    have l8 := hx.l8
    refine ⟨_, rfl, _, rfl, size_ok (by omega), 1, (x.length : Int), rfl, rfl, true, congrArg V.bl (decide_eq_true (by omega)), iteT ?_⟩
    refine ⟨(x.length : Int), 8, rfl, rfl, true, congrArg V.bl (decide_eq_true (by omega)), iteF ?_⟩
    refine ⟨_, rfl, aB, _, rfl, .inr (T.barAt _), rfl, flat_strs _, false, ?_, iteF ?_⟩
    · show V.bl (inV (.str x) (barred.map V.str)) = _
      rw [inV_str, decide_eq_false hx.nb]
    refine ⟨.str x, rfl, x, rfl, fun D nD => ?_⟩
    refine lc_it (walk_str (z := x)) (fun i H2 => H2 = upd H D (.lst [])) rfl (fun _ _ _ _ => trivial) (fun i v H2 H3 hi e2 ⟨e3, c, hc, ev⟩ => ?_) (fun H2 e2 => ?_)
    · subst e3 e2 ev
      refine ⟨rfl, _, rfl, c, letters, rfl, rfl, false, ?_, iteF rfl⟩
      have hm : c ∈ TL.tl x := by
        show c ∈ x.cps.toList
        rw [Array.mem_toList_iff]
        exact Array.mem_of_getElem? hc
      show V.bl (!decide (c ∈ letters.cps.toList)) = _
      rw [decide_eq_true (mem_letters (hx.lt c hm))]
      rfl
    · subst e2
      refine ⟨Nat.zero_le _, fun p np => ?_⟩
      have nDp : D ≠ p := fun e => by
        rw [e] at np
        rw [upd_same] at np
        cases np
      refine ⟨.list [], .list [], .lst (.of (by rw [upd_ne nDp]; exact upd_same)) .nil, .lst (.of upd_same) .nil, by decide, by decide, ?_⟩
      exact q _ (Same.trans (same_upd nD) (same_upd np))

def spName : Sp := fun vs H Q _ => ∃ x, vs = [.str x] ∧ GN x ∧ ∀ H', Same H H' → Q (.str x) H'
theorem ok_named {f : Addr} {fd : FuncData} (c1 : Cal P w K mg base 1 "is_name" spIsName []) (F : C8.Def K mg "named" sNamed f fd) (b : Binds K fd ["word"] []) : Cal P w K mg base 2 "named" spName [] := by
  have sc : FnScope ["word"] ["word"] (C8.fnScope sNamed) := fnScope_by (by decide +kernel)
  refine cal0 F b .nil sc (fun vs H Q E h => ?_) (fun cdv A outer s H vs Q E hr h => ?_)
  · obtain ⟨x, rfl, _⟩ := h
    rfl
  · obtain ⟨x, rfl, hx, q⟩ := h
    refine ⟨_, pss_cons (ps_if (pt_not (pt_val (pe_c c1 hr (by decide) rfl (pa_cons (pv 0) pa_nil)))) (pss_one ps_never) pss_nil) (pss_one (ps_ret (pv 0))), ?_⟩
    refine ⟨_, rfl, x, rfl, hx, fun H1 s1 => ⟨true, rfl, iteF ?_⟩⟩
    exact ⟨_, rfl, q H1 s1⟩
theorem tl_figures : TL.tl figures = List.range' 48 10 := by decide +kernel
theorem mem_figures {k : Nat} (h : k ≤ 9) : (48 + k) ∈ figures.cps.toList := by
  show (48 + k) ∈ TL.tl figures
  rw [tl_figures, List.mem_range'_1]
  omega
theorem ne_empty : (V.bl !decide (V.str Str.empty = V.str (Str.ofString ""))) = V.bl false := by decide +kernel
theorem ne_colon : (V.bl !decide (V.str (Str.ofString ":") = V.str (Str.ofString ""))) = V.bl true := by decide +kernel
def spWire : Sp := fun vs H Q _ => ∃ x, vs = [.str x] ∧ WW x ∧ ∀ H', Same H H' → Q (.str x) H'
theorem ok_wire {f : Addr} {fd : FuncData} (T : Txt K mg w C aB aW aL) (c1 : Cal P w K mg base 1 "is_name" spIsName []) (F : C8.Def K mg "wire_told" sWireTold f fd) (b : Binds K fd ["word"] []) : Cal P w K mg base 2 "wire_told" spWire [] := by
  have sc : FnScope ["word", "name", "colon", "place"] ["word"] (C8.fnScope sWireTold) := fnScope_by (by decide +kernel)
  refine cal0 F b .nil sc (fun vs H Q E h => ?_) (fun cdv A outer s H vs Q E hr h => ?_)
  · obtain ⟨x, rfl, _⟩ := h
    rfl
  · obtain ⟨x, rfl, hx, q⟩ := h
    refine ⟨_, pss_cons (ps_asg (pe_partition (pv 0) pe_str) (pg_tup rfl (pgs_cons (pg_name (i := 1) sc.nd rfl (.inl rfl)) (pgs_cons (pg_name (i := 2) sc.nd rfl (.inl rfl)) (pgs_cons (pg_name (i := 3) sc.nd rfl (.inl rfl)) pgs_nil)))))
      (pss_cons (ps_if (PW.pt (pw_or (pt_not (pt_val (pe_c c1 hr (by decide) rfl (pa_cons (pv 1) pa_nil))))
        (pw_or1 (PW.pt (pw_and (pt_cmpR op_ne (pv 2) pe_str (nomark _)) (pw_and1 (PW.pt (pw_or (pt_cmpR op_ne (pe_callB call_len_str (by rfl) T.len PySem.boot_len (pa_cons (pv 3) pa_nil)) pe_int (nomark _))
          (pw_or1 (pt_cmpR op_notIn_sign (pv 3) (pe_gc rfl T.cFig) (by rfl)))))))))))
        (pss_one ps_never) pss_nil)
      (pss_one (ps_ret (pv 0)))), ?_⟩
    have hl := hx.len
    have hc : ((":" : Str).length == 0) = false := by decide +kernel
    refine ⟨.str x, rfl, ⟨_, rfl⟩, x, (":" : Str), rfl, rfl, hc, size_ok (by omega), fun p np => ?_⟩
    refine ⟨p, _, rfl, .of upd_same, rfl, _, _, rfl, _, _, rfl, _, _, rfl, rfl, ?_⟩
    have s1 : Same H (upd H p (.tup [.str (Txt.partition x (":" : Str)).1, .str (Txt.partition x (":" : Str)).2.1, .str (Txt.partition x (":" : Str)).2.2])) := same_upd np
    rcases hx with hx | ⟨n, k, hn, hk, rfl⟩
    · rw [part_GN hx] at s1 ⊢
      refine ⟨_, rfl, x, rfl, hx, fun H1 s2 => ⟨true, rfl, iteF ?_⟩⟩
      refine ⟨_, rfl, rfl, false, ne_empty, iteF (iteF ?_)⟩
      exact ⟨_, rfl, q H1 (Same.trans s1 s2)⟩
    · rw [part_sub hn] at s1 ⊢
      refine ⟨_, rfl, n, rfl, hn, fun H1 s2 => ⟨true, rfl, iteF ?_⟩⟩
      refine ⟨_, rfl, rfl, true, ne_colon, iteT ?_⟩
      refine ⟨_, rfl, _, rfl, (by show 1 ≤ sizeLine; decide), rfl, false, rfl, iteF ?_⟩
      refine ⟨_, rfl, 48 + k, figures, rfl, rfl, false, ?_, iteF ?_⟩
      · rw [decide_eq_true (mem_figures hk)]
        rfl
      · exact ⟨_, rfl, q H1 (Same.trans s1 s2)⟩
end
end BF

/-! BFe: row_told. -/
namespace BF
open PySem PySem.Spec PyProof.Rows L2
open C8 (Cal Met Mak pe_c pe_mk pe_mt pe_mt0 pe_gc tCut pss_cut cal0 met0 mak0 fnScope_by)

/-- what row_told tells -/
def RowAt (H : Hp) (t : Addr) : Row → Prop
  | .inn p => H t = some (.tup [.str ("in" : Str), .str p.1, .int (p.2 : Int)])
  | .gate g name ws => ∃ l, H t = some (.tup [.str (gw g.sure), .str name, .str g.kind, .ref l]) ∧ H l = some (.lst (ws.map V.str))
  | .out name _ ws => ∃ l, H t = some (.tup [.str ("out" : Str), .str name, .ref l]) ∧ H l = some (.lst (ws.map V.str))
theorem at_str {W : List Str} {i : Nat} {x : Str} (h : W[i]? = some x) : (W.map V.str)[i]? = some (.str x) := by
  rw [List.getElem?_map, h]
  rfl
theorem gw_ne_in (s : Bool) : (V.bl (decide (V.str (gw s) = V.str ("in" : Str)))) = .bl false := by cases s <;> decide +kernel
theorem in_in : (V.bl (decide (V.str ("in" : Str) = V.str ("in" : Str)))) = .bl true := by decide +kernel
theorem out_ne_in : (V.bl (decide (V.str ("out" : Str) = V.str ("in" : Str)))) = .bl false := by decide +kernel
theorem out_out : (V.bl (decide (V.str ("out" : Str) = V.str ("out" : Str)))) = .bl true := by decide +kernel
theorem gw_in (s : Bool) : inV (.str (gw s)) [.str ("gate" : Str), .str ("sure" : Str)] = true := by cases s <;> decide +kernel
theorem out_notin : inV (.str ("out" : Str)) [.str ("gate" : Str), .str ("sure" : Str)] = false := by decide +kernel
theorem dig_width {w : Nat} (h1 : 1 ≤ w) (h3 : w ≤ 3) : dig w ∈ widths := by
  have h : w = 1 ∨ w = 2 ∨ w = 3 := by omega
  rcases h with rfl | rfl | rfl <;> decide +kernel
theorem dig_int {w : Nat} (h1 : 1 ≤ w) (h3 : w ≤ 3) : PySem.intText? (dig w) = some (w : Int) := by
  have h : w = 1 ∨ w = 2 ∨ w = 3 := by omega
  rcases h with rfl | rfl | rfl <;> decide +kernel
theorem cut_drop (xs : List V) (k : Nat) : cutV xs (some (k : Int)) none = xs.drop k := by
  unfold cutV
  rw [HT.sIx_nat, HT.sIx_none]
  by_cases h : k ≤ xs.length
  · rw [Nat.min_eq_left h]
    exact List.take_of_length_le (by rw [List.length_drop]; omega)
  · rw [Nat.min_eq_right (by omega), List.drop_length, List.drop_eq_nil_of_le (by omega), List.take_nil]

section
variable {P : Program} {w : World} {K : PySem.W.Frag} {mg : Str → Option Value} {base : Heap} {C aB aW aL : Addr}
def spRowTold : Sp := fun vs H Q _ => ∃ r : Row, vs = [.str r.text] ∧ r.Ok ∧ ∀ t H', Same H H' → H t = none → RowAt H' t r → Q (.ref t) H'

/-- the turns of the comprehension over the words of wires -/
theorem wires_loop {a : Addr} {ws : List Str} {σ : L2.St} {H1 : Hp} {D : Addr} {i : Nat} {Qd : Hp → Prop} (hi : i < σ.length) (hw : ∀ x ∈ ws, WW x) (hl : ws.length ≤ 1000) (ha : H1 a = some (.lst (ws.map V.str))) (nD : H1 D = none)
    (hd : ∀ H, Same H1 H → H D = some (.lst (ws.map V.str)) → Qd H) :
    ∃ W : Nat → Nat → Hp → Prop, (∃ m, W 0 m (upd H1 D (.lst []))) ∧ ∀ j m H, W j m H →
      ((Itl K a).stop j H ∧ Qd H) ∨ ((Itl K a).go j H ∧ ∃ Nx : Hp → Prop, (∀ H', Nx H' → ∃ m', m' < m ∧ W (j + 1) m' H') ∧ ∀ x H', (Itl K a).yld j H x H' → gName i x (wipe σ [i]) H' fun σ2 H2 => wipe σ2 [i] = wipe σ [i] ∧ tYes σ2 H2 fun b H3 =>
        if b = true then tCall spWire [] C8.E0 (tCons (tVar i) tNil) σ2 H3 fun y H4 => ∃ acc, H4 D = some (.lst acc) ∧ acc.length < sizeLine ∧ Nx (upd H4 D (.lst (acc ++ [y]))) else Nx H3) := by
  refine lc_list (K := K) (a := a) (xs := ws.map V.str) (fun j H2 => Same H1 H2 ∧ H2 D = some (.lst ((ws.take j).map V.str))) ⟨same_upd nD, upd_same⟩ (fun j H2 _ h => .of (h.1 _ _ ha)) ?_ ?_
  · rintro j v H2 hv ⟨s1, eD⟩
    rw [List.getElem?_map] at hv
    obtain ⟨x, hx, rfl⟩ := Option.map_eq_some_iff.mp hv
    refine ⟨?_, .str x, ?_, x, rfl, hw x (List.mem_of_getElem? hx), fun H3 s2 => ?_⟩
    · simp [wipe]
    · rw [List.getElem?_set_self]
      simp [wipe, hi]
    · refine ⟨_, s2 _ _ eD, ?_, fun b o e => ?_, ?_⟩
      · rw [List.length_map, List.length_take]
        exact size_lt (by omega)
      · rw [upd_ne (ne_of_none e nD)]
        exact s2 _ _ (s1 _ _ e)
      · rw [upd_same, take_snoc hx, List.map_append]
        rfl
  · rintro H2 ⟨s1, eD⟩
    rw [List.length_map, List.take_length] at eD
    exact hd H2 s1 eD
theorem ok_row_told {f : Addr} {fd : FuncData} (T : Txt K mg w C aB aW aL) (c2 : Cal P w K mg base 2 "named" spName []) (c3 : Cal P w K mg base 2 "wire_told" spWire []) (F : C8.Def K mg "row_told" sRowTold f fd) (b : Binds K fd ["row"] []) :
    Cal P w K mg base 3 "row_told" spRowTold [] := by
  have sc : FnScope ["row", "words", "word"] ["row"] (C8.fnScope sRowTold) := fnScope_by (by decide +kernel)
  refine cal0 F b .nil sc (fun vs H Q E h => ?_) (fun cdv A outer s H vs Q E hr h => ?_)
  · obtain ⟨x, rfl, _⟩ := h
    rfl
  · obtain ⟨r, rfl, ho, q⟩ := h
    refine ⟨_, pss_cons (ps_set (i := 1) sc.nd rfl (.inl rfl) (pe_split (pv 0) pe_str))
      (pss_cons (ps_if (PW.pt (pw_and (pt_cmpR op_eq (pe_ix ix_list (pv 1) pe_int (fun _ _ => rfl)) pe_str (nomark _))
          (pw_and (pt_cmpR op_eq (pe_callB call_len_seq (by rfl) T.len PySem.boot_len (pa_cons (pv 1) pa_nil)) pe_int (nomark _))
          (pw_and1 (pt_cmpR op_in_seq (pe_ix ix_list (pv 1) pe_int (fun _ _ => rfl)) (pe_gc rfl T.cWid) (by rfl))))))
        (pss_one (ps_ret (pe_tup (pa_cons pe_str (pa_cons (pe_c c2 hr (by decide) rfl (pa_cons (pe_ix ix_list (pv 1) pe_int (fun _ _ => rfl)) pa_nil))
          (pa_cons (pe_callTy call_int_str (by rfl) T.int (by decide +kernel) (pa_cons (pe_ix ix_list (pv 1) pe_int (fun _ _ => rfl)) pa_nil)) pa_nil)))))) pss_nil)
      (pss_cons (ps_if (PW.pt (pw_and (pt_cmpR op_in_seq (pe_ix ix_list (pv 1) pe_int (fun _ _ => rfl)) (pe_tup (pa_cons pe_str (pa_cons pe_str pa_nil))) (by rfl))
          (pw_and (pt_cmpR op_gt (pe_callB call_len_seq (by rfl) T.len PySem.boot_len (pa_cons (pv 1) pa_nil)) pe_int (nomark _))
          (pw_and1 (pt_cmpR op_eq (pe_kget (pe_gc rfl T.cLegs) (pe_ix ix_list (pv 1) pe_int (fun _ _ => rfl)) pe_int ⟨rfl, rfl, rfl, rfl⟩)
            (pe_op op_sub (pe_callB call_len_seq (by rfl) T.len PySem.boot_len (pa_cons (pv 1) pa_nil)) pe_int) (nomark _))))))
        (pss_one (ps_ret (pe_tup (pa_cons (pe_ix ix_list (pv 1) pe_int (fun _ _ => rfl)) (pa_cons (pe_c c2 hr (by decide) rfl (pa_cons (pe_ix ix_list (pv 1) pe_int (fun _ _ => rfl)) pa_nil))
          (pa_cons (pe_ix ix_list (pv 1) pe_int (fun _ _ => rfl))
          (pa_cons (pe_lc (own := [("word", 2)]) (g := gName 2) (tt := tYes) rfl sc.nd (pi_list (pe_slice sl_list (pv 1) (po_some pe_int) po_none)) (blkOk_by (own := [("word", 2)]) (N := ["row", "words", "word"]) (sc := C8.fnScope sRowTold) (by decide +kernel))
            (fun _ _ _ _ _ => pg_name (i := 2) sc.nd rfl (Or.inl rfl)) (fun _ _ _ _ _ => pts_nil) (fun _ _ _ _ _ => pe_c c3 hr (by decide) rfl (pa_cons (pv 2) pa_nil))) pa_nil))))))) pss_nil)
      (pss_cons (ps_if (PW.pt (pw_and (pt_cmpR op_eq (pe_ix ix_list (pv 1) pe_int (fun _ _ => rfl)) pe_str (nomark _))
          (pw_and1 (pt_chain op_le op_le pe_int (pe_callB call_len_seq (by rfl) T.len PySem.boot_len (pa_cons (pv 1) pa_nil)) (pe_op op_add pe_int (pe_gc rfl T.nw))))))
        (pss_one (ps_ret (pe_tup (pa_cons pe_str (pa_cons (pe_c c2 hr (by decide) rfl (pa_cons (pe_ix ix_list (pv 1) pe_int (fun _ _ => rfl)) pa_nil))
          (pa_cons (pe_lc (own := [("word", 2)]) (g := gName 2) (tt := tYes) rfl sc.nd (pi_list (pe_slice sl_list (pv 1) (po_some pe_int) po_none)) (blkOk_by (own := [("word", 2)]) (N := ["row", "words", "word"]) (sc := C8.fnScope sRowTold) (by decide +kernel))
            (fun _ _ _ _ _ => pg_name (i := 2) sc.nd rfl (Or.inl rfl)) (fun _ _ _ _ _ => pts_nil) (fun _ _ _ _ _ => pe_c c3 hr (by decide) rfl (pa_cons (pv 2) pa_nil))) pa_nil)))))) pss_nil)
      (pss_one ps_never)))), ?_⟩
    have tl := text_len ho
    have wl := words_len ho
    refine ⟨.str r.text, rfl, ⟨_, rfl⟩, r.text, (" " : Str), rfl, rfl, (by decide +kernel), size_ok (by omega), fun p np => ?_⟩
    rw [text_split ho]
    have s1 : Same H (upd H p (.lst (r.words.map V.str))) := same_upd np
    have hp : (upd H p (.lst (r.words.map V.str))) p = some (.lst (r.words.map V.str)) := upd_same
    generalize (upd H p (.lst (r.words.map V.str))) = H1 at s1 hp ⊢
    cases r with
    | inn z =>
      obtain ⟨h1, h2, h3⟩ := ho
      refine ⟨.ref p, rfl, p, _, 0, _, rfl, rfl, .of hp, atI_nat (j := 0) rfl, rfl, true, in_in, iteT ?_⟩
      refine ⟨.ref p, rfl, p, _, rfl, .inl (.of hp), rfl, true, rfl, iteT ?_⟩
      refine ⟨.ref p, rfl, p, _, 2, _, rfl, rfl, .of hp, atI_nat (j := 2) rfl, aW, _, rfl, .inr (T.widAt _), rfl, flat_strs _, true, ?_, iteT ?_⟩
      · show V.bl (inV (.str (dig z.2)) (widths.map V.str)) = _
        rw [inV_str, decide_eq_true (dig_width h2 h3)]
      refine ⟨.ref p, rfl, p, _, 1, _, rfl, rfl, .of hp, atI_nat (j := 1) rfl, z.1, rfl, h1, fun H2 s2 => ?_⟩
      have hp2 := s2 _ _ hp
      refine ⟨.ref p, rfl, p, _, 2, _, rfl, rfl, .of hp2, atI_nat (j := 2) rfl, dig z.2, z.2, rfl, dig_int h2 h3, (by show 1 ≤ 640; decide), ?_⟩
      refine ⟨(by show 3 ≤ sizeLine; decide), fun t nt => ?_⟩
      exact q t _ (Same.trans (Same.trans s1 s2) (same_upd nt)) (Same.none (Same.trans s1 s2) nt) upd_same
    | gate g name ws =>
      obtain ⟨h1, h2, h3, h4⟩ := ho
      have k3 := kind_legs h2
      refine ⟨.ref p, rfl, p, _, 0, _, rfl, rfl, .of hp, atI_nat (j := 0) rfl, rfl, false, gw_ne_in _, iteF (iteF ?_)⟩
      refine ⟨.ref p, rfl, p, _, 0, _, rfl, rfl, .of hp, atI_nat (j := 0) rfl, (by show 2 ≤ sizeLine; decide), fun u nu => ?_⟩
      refine ⟨u, _, rfl, .inr (.of upd_same), rfl, rfl, true, congrArg V.bl (gw_in _), iteT ?_⟩
      have s2 := same_upd (o := .tup [.str ("gate" : Str), .str ("sure" : Str)]) nu
      have hp2 := s2 _ _ hp
      refine ⟨.ref p, rfl, p, _, rfl, .inl (.of hp2), _, _, rfl, rfl, true, ?_, iteT ?_⟩
      · refine congrArg V.bl (decide_eq_true ?_)
        rw [List.length_map]
        simp only [Row.words, List.cons_append, List.nil_append, List.length_cons]
        omega
      refine ⟨aL, g.kind, _, rfl, T.legsAt _ h2, T.legsLow, .ref p, rfl, p, _, 2, _, rfl, rfl, .of hp2, atI_nat (j := 2) rfl, rfl, .ref p, rfl, p, _, rfl, .inl (.of hp2), _, _, rfl, rfl, rfl, true, ?_, iteT ?_⟩
      · refine congrArg V.bl (decide_eq_true (congrArg V.int ?_))
        rw [List.length_map]
        simp only [Row.words, List.cons_append, List.nil_append, List.length_cons]
        omega
      refine ⟨.ref p, rfl, p, _, 0, _, rfl, rfl, .of hp2, atI_nat (j := 0) rfl, ?_⟩
      refine ⟨.ref p, rfl, p, _, 1, _, rfl, rfl, .of hp2, atI_nat (j := 1) rfl, name, rfl, h1, fun H3 s3 => ?_⟩
      have hp3 := s3 _ _ hp2
      refine ⟨.ref p, rfl, p, _, 2, _, rfl, rfl, .of hp3, atI_nat (j := 2) rfl, ?_⟩
      refine ⟨.ref p, rfl, 3, rfl, p, _, rfl, .of hp3, fun l nl => ?_⟩
      have ec : cutV ((Row.gate g name ws).words.map V.str) (some 3) none = ws.map V.str := cut_drop _ 3
      rw [ec]
      have s4 := same_upd (o := .lst (ws.map V.str)) nl
      refine ⟨l, rfl, ⟨_, .of upd_same⟩, fun D nD => ?_⟩
      refine wires_loop (by show 2 < 3; decide) h4 (by omega) upd_same nD fun H5 s5 eD => ?_
      refine ⟨(by show 4 ≤ sizeLine; decide), fun t nt => ?_⟩
      have sA := Same.trans (Same.trans (Same.trans (Same.trans s1 s2) s3) s4) s5
      refine q t _ (Same.trans sA (same_upd nt)) (Same.none sA nt) ⟨D, upd_same, ?_⟩
      rw [upd_ne (ne_of_none eD nt)]
      exact eD
    | out name is ws =>
      obtain ⟨h1, h2, h3, h4⟩ := ho
      refine ⟨.ref p, rfl, p, _, 0, _, rfl, rfl, .of hp, atI_nat (j := 0) rfl, rfl, false, out_ne_in, iteF (iteF ?_)⟩
      refine ⟨.ref p, rfl, p, _, 0, _, rfl, rfl, .of hp, atI_nat (j := 0) rfl, (by show 2 ≤ sizeLine; decide), fun u nu => ?_⟩
      refine ⟨u, _, rfl, .inr (.of upd_same), rfl, rfl, false, congrArg V.bl out_notin, iteF (iteF ?_)⟩
      have s2 := same_upd (o := .tup [.str ("gate" : Str), .str ("sure" : Str)]) nu
      have hp2 := s2 _ _ hp
      refine ⟨.ref p, rfl, p, _, 0, _, rfl, rfl, .of hp2, atI_nat (j := 0) rfl, rfl, true, out_out, iteT ?_⟩
      have el : (((Row.out name is ws).words.map V.str).length : Int) = ws.length + 2 := by
        rw [List.length_map]
        simp only [Row.words, List.cons_append, List.nil_append, List.length_cons]
        omega
      refine ⟨.ref p, rfl, p, _, rfl, .inl (.of hp2), 3, _, rfl, rfl, true, congrArg V.bl (decide_eq_true (by omega)), iteT ?_⟩
      refine ⟨2, 3, rfl, rfl, _, _, rfl, rfl, true, congrArg V.bl (decide_eq_true (by omega)), iteT ?_⟩
      refine ⟨.ref p, rfl, p, _, 1, _, rfl, rfl, .of hp2, atI_nat (j := 1) rfl, name, rfl, h1, fun H3 s3 => ?_⟩
      have hp3 := s3 _ _ hp2
      refine ⟨.ref p, rfl, 2, rfl, p, _, rfl, .of hp3, fun l nl => ?_⟩
      have ec : cutV ((Row.out name is ws).words.map V.str) (some 2) none = ws.map V.str := cut_drop _ 2
      rw [ec]
      have s4 := same_upd (o := .lst (ws.map V.str)) nl
      refine ⟨l, rfl, ⟨_, .of upd_same⟩, fun D nD => ?_⟩
      refine wires_loop (by show 2 < 3; decide) h4 (by omega) upd_same nD fun H5 s5 eD => ?_
      refine ⟨(by show 3 ≤ sizeLine; decide), fun t nt => ?_⟩
      have sA := Same.trans (Same.trans (Same.trans (Same.trans s1 s2) s3) s4) s5
      refine q t _ (Same.trans sA (same_upd nt)) (Same.none sA nt) ⟨D, upd_same, ?_⟩
      rw [upd_ne (ne_of_none eD nt)]
      exact eD
end
end BF

/-! BFf: a Reading in the heap; __init__, in_read. -/
namespace BF
open PySem PySem.Spec PyProof.Rows L2
open C8 (Cal Met Mak pe_c pe_mk pe_mt pe_mt0 pe_gc tCut pss_cut cal0 met0 mak0 fnScope_by)

/-! ### the dict of wires -/
def kvsF : Nat → List Str → List (Key × V)
  | _, [] => []
  | k, x :: r => (Sum.inr x, V.int (k : Int)) :: kvsF (k + 1) r
def kvs (ws : List Str) : List (Key × V) := kvsF 0 ws
theorem kvsF_len : ∀ (ws : List Str) (k : Nat), (kvsF k ws).length = ws.length
  | [], _ => rfl
  | x :: r, k => by
    show (kvsF (k + 1) r).length + 1 = _
    rw [kvsF_len r, List.length_cons]
theorem kvsF_snoc (x : Str) : ∀ (ws : List Str) (k : Nat), kvsF k (ws ++ [x]) = kvsF k ws ++ [(Sum.inr x, V.int ((k + ws.length : Nat) : Int))]
  | [], k => rfl
  | y :: r, k => by
    show (Sum.inr y, V.int (k : Int)) :: kvsF (k + 1) (r ++ [x]) = (Sum.inr y, V.int (k : Int)) :: (kvsF (k + 1) r ++ _)
    rw [kvsF_snoc x r (k + 1), List.length_cons]
    have e : k + 1 + r.length = k + (r.length + 1) := by omega
    rw [e]
theorem valF_no {x : Str} : ∀ {ws : List Str} (k : Nat), x ∉ ws → valV (kvsF k ws) (Sum.inr x : Key) = none
  | [], _, _ => rfl
  | y :: r, k, h => by
    have h1 : ¬ ((Sum.inr y : Key) = Sum.inr x) := fun e => h (by injection e with e; rw [e]; exact List.mem_cons_self)
    show valV ((Sum.inr y, V.int (k : Int)) :: kvsF (k + 1) r) (Sum.inr x : Key) = none
    rw [valV_neg h1]
    exact valF_no (k + 1) fun m => h (List.mem_cons_of_mem _ m)
theorem valF_at {x : Str} : ∀ {ws : List Str} (k : Nat) {i : Nat}, ws.Nodup → ws[i]? = some x → valV (kvsF k ws) (Sum.inr x : Key) = some (V.int ((k + i : Nat) : Int))
  | [], _, _, _, h => by simp at h
  | y :: r, k, 0, _, h => by
    have e : y = x := Option.some.inj h
    subst e
    exact valV_pos (p := ((Sum.inr y : Key), V.int (k : Int))) rfl
  | y :: r, k, i + 1, hn, h => by
    have h : r[i]? = some x := h
    have hn := List.nodup_cons.mp hn
    have h1 : ¬ ((Sum.inr y : Key) = Sum.inr x) := fun e => hn.1 (by injection e with e; rw [e]; exact List.mem_of_getElem? h)
    show valV ((Sum.inr y, V.int (k : Int)) :: kvsF (k + 1) r) (Sum.inr x : Key) = _
    rw [valV_neg h1, valF_at (k + 1) hn.2 h]
    have e : k + 1 + i = k + (i + 1) := by omega
    rw [e]
theorem kvs_put {ws : List Str} {x : Str} (h : x ∉ ws) : putK (kvs ws) (Sum.inr x : Key) (V.int (ws.length : Int)) = kvs (ws ++ [x]) := by
  unfold kvs
  rw [putK_new _ (valF_no 0 h), kvsF_snoc, Nat.zero_add]
theorem kvs_len (ws : List Str) : (kvs ws).length = ws.length := kvsF_len ws 0

/-! ### a Reading -/
def flds (a1 a2 a3 a4 a5 : Addr) : List (Str × V) := [(("ins" : Str), V.ref a1), (("gates" : Str), V.ref a2), (("outs" : Str), V.ref a3), (("wires" : Str), V.ref a4), (("names" : Str), V.ref a5)]
theorem sne {a b : Str} (h : (a == b) = false) {v : V} {r : List (Str × V)} : ((b, v) :: r).lookup a = r.lookup a := by rw [List.lookup_cons, h]
theorem seq {a : Str} {v : V} {r : List (Str × V)} : ((a, v) :: r).lookup a = some v := by rw [List.lookup_cons, beq_self_eq_true]
section
variable (a1 a2 a3 a4 a5 : Addr)
theorem fl_ins : (flds a1 a2 a3 a4 a5).lookup ("ins" : Str) = some (.ref a1) := seq
theorem fl_gates : (flds a1 a2 a3 a4 a5).lookup ("gates" : Str) = some (.ref a2) := by
  unfold flds
  rw [sne (by decide +kernel)]
  exact seq
theorem fl_outs : (flds a1 a2 a3 a4 a5).lookup ("outs" : Str) = some (.ref a3) := by
  unfold flds
  rw [sne (by decide +kernel), sne (by decide +kernel)]
  exact seq
theorem fl_wires : (flds a1 a2 a3 a4 a5).lookup ("wires" : Str) = some (.ref a4) := by
  unfold flds
  rw [sne (by decide +kernel), sne (by decide +kernel), sne (by decide +kernel)]
  exact seq
theorem fl_names : (flds a1 a2 a3 a4 a5).lookup ("names" : Str) = some (.ref a5) := by
  unfold flds
  rw [sne (by decide +kernel), sne (by decide +kernel), sne (by decide +kernel), sne (by decide +kernel)]
  exact seq
theorem fl_no {m : Str} (h : (m == ("ins" : Str)) = false ∧ (m == ("gates" : Str)) = false ∧ (m == ("outs" : Str)) = false ∧ (m == ("wires" : Str)) = false ∧ (m == ("names" : Str)) = false) : (flds a1 a2 a3 a4 a5).lookup m = none := by
  unfold flds
  rw [sne h.1, sne h.2.1, sne h.2.2.1, sne h.2.2.2.1, sne h.2.2.2.2]
  rfl
end
theorem sn {a b : Str} (h : (a == b) = false) : ¬ a = b := fun e => by
  rw [e, beq_self_eq_true] at h
  cases h
theorem flds_put (a1 a2 a3 a4 a5 : Addr) : putF "names" (V.ref a5) (putF "wires" (V.ref a4) (putF "outs" (V.ref a3) (putF "gates" (V.ref a2) (putF "ins" (V.ref a1) [])))) = flds a1 a2 a3 a4 a5 := by
  have e1 : ¬ (("ins" : Str) = "gates") := sn (by decide +kernel)
  have e2 : ¬ (("ins" : Str) = "outs") := sn (by decide +kernel)
  have e3 : ¬ (("ins" : Str) = "wires") := sn (by decide +kernel)
  have e4 : ¬ (("ins" : Str) = "names") := sn (by decide +kernel)
  have e5 : ¬ (("gates" : Str) = "outs") := sn (by decide +kernel)
  have e6 : ¬ (("gates" : Str) = "wires") := sn (by decide +kernel)
  have e7 : ¬ (("gates" : Str) = "names") := sn (by decide +kernel)
  have e8 : ¬ (("outs" : Str) = "wires") := sn (by decide +kernel)
  have e9 : ¬ (("outs" : Str) = "names") := sn (by decide +kernel)
  have e0 : ¬ (("wires" : Str) = "names") := sn (by decide +kernel)
  simp only [putF, if_neg e1, if_neg e2, if_neg e3, if_neg e4, if_neg e5, if_neg e6, if_neg e7, if_neg e8, if_neg e9, if_neg e0]
  rfl
theorem un {H : Hp} {a b : Addr} {o : HO} (e : upd H a o b = none) : b ≠ a ∧ H b = none := by
  by_cases h : b = a
  · rw [h, upd_same] at e
    cases e
  · rw [upd_ne h] at e
    exact ⟨h, e⟩
structure RdAt (C : Addr) (H : Hp) (p a1 a2 a3 a4 a5 : Addr) (S : RS) : Prop where
  ob : ∃ dx, H p = some (.ins C dx (flds a1 a2 a3 a4 a5))
  i : InsAt H a1 S.ins
  g : GatesAt H a2 S.gates
  o : OutsAt H a3 S.outs
  w : H a4 = some (.dK (kvs S.wires))
  n : H a5 = some (.lst (S.names.map V.str))
  d : a1 ≠ a2 ∧ a1 ≠ a3 ∧ a1 ≠ a5 ∧ a2 ≠ a3 ∧ a2 ≠ a5 ∧ a3 ≠ a5
/-- all but the reading's own lists stand -/
def Oth (a1 a2 a3 a4 a5 : Addr) (H H' : Hp) : Prop := ∀ b o, H b = some o → b ≠ a1 → b ≠ a2 → b ≠ a3 → b ≠ a4 → b ≠ a5 → H' b = some o
section
variable {C p a1 a2 a3 a4 a5 : Addr} {H H' : Hp} {S : RS}
theorem Same.oth (e : Same H H') : Oth a1 a2 a3 a4 a5 H H' := fun b o h _ _ _ _ _ => e b o h
theorem Oth.trans {H1 : Hp} (a : Oth a1 a2 a3 a4 a5 H H1) (b : Oth a1 a2 a3 a4 a5 H1 H') : Oth a1 a2 a3 a4 a5 H H' := fun c o h h1 h2 h3 h4 h5 => b c o (a c o h h1 h2 h3 h4 h5) h1 h2 h3 h4 h5
theorem RdAt.same (R : RdAt C H p a1 a2 a3 a4 a5 S) (e : Same H H') : RdAt C H' p a1 a2 a3 a4 a5 S :=
  ⟨let ⟨dx, h⟩ := R.ob; ⟨dx, e _ _ h⟩, R.i.same e, R.g.same e, R.o.same e, e _ _ R.w, e _ _ R.n, R.d⟩
theorem RdAt.pne (R : RdAt C H p a1 a2 a3 a4 a5 S) : p ≠ a1 ∧ p ≠ a2 ∧ p ≠ a3 ∧ p ≠ a4 ∧ p ≠ a5 := by
  obtain ⟨dx, h⟩ := R.ob
  obtain ⟨x1, h1, _⟩ := R.i
  obtain ⟨x2, h2, _⟩ := R.g
  obtain ⟨x3, h3, _⟩ := R.o
  exact ⟨ne_of h h1 (by intro z; cases z), ne_of h h2 (by intro z; cases z), ne_of h h3 (by intro z; cases z), ne_of h R.w (by intro z; cases z), ne_of h R.n (by intro z; cases z)⟩
theorem RdAt.wne (R : RdAt C H p a1 a2 a3 a4 a5 S) : a1 ≠ a4 ∧ a2 ≠ a4 ∧ a3 ≠ a4 ∧ a5 ≠ a4 := by
  obtain ⟨x1, h1, _⟩ := R.i
  obtain ⟨x2, h2, _⟩ := R.g
  obtain ⟨x3, h3, _⟩ := R.o
  exact ⟨ne_of h1 R.w (by intro z; cases z), ne_of h2 R.w (by intro z; cases z), ne_of h3 R.w (by intro z; cases z), ne_of R.n R.w (by intro z; cases z)⟩
theorem notup_lst {a : Addr} {xs : List V} (h : H a = some (.lst xs)) : ∀ ys, H a ≠ some (.tup ys) := fun ys e => by
  rw [h] at e
  cases e
theorem notup_dict {a : Addr} {xs : List (Key × V)} (h : H a = some (.dK xs)) : ∀ ys, H a ≠ some (.tup ys) := fun ys e => by
  rw [h] at e
  cases e
/-- self.names grows -/
theorem RdAt.setN (R : RdAt C H p a1 a2 a3 a4 a5 S) (ns : List Str) : RdAt C (upd H a5 (.lst (ns.map V.str))) p a1 a2 a3 a4 a5 ⟨S.ins, S.gates, S.outs, S.wires, ns⟩ := by
  obtain ⟨p1, p2, p3, p4, p5⟩ := R.pne
  obtain ⟨w1, w2, w3, w5⟩ := R.wne
  obtain ⟨d12, d13, d15, d23, d25, d35⟩ := R.d
  have tp : Tups H (upd H a5 (.lst (ns.map V.str))) := tups_upd (notup_lst R.n)
  have k : ∀ b, b ≠ a5 → ∀ o, H b = some o → (upd H a5 (.lst (ns.map V.str))) b = some o := fun b hb o h => by
    rw [upd_ne hb]
    exact h
  exact ⟨let ⟨dx, h⟩ := R.ob; ⟨dx, k p p5 _ h⟩, R.i.keep tp (k _ d15), R.g.keep tp (k _ d25), R.o.keep tp (k _ d35), k _ w5.symm _ R.w, upd_same, R.d⟩
theorem RdAt.setW (R : RdAt C H p a1 a2 a3 a4 a5 S) (ws : List Str) : RdAt C (upd H a4 (.dK (kvs ws))) p a1 a2 a3 a4 a5 ⟨S.ins, S.gates, S.outs, ws, S.names⟩ := by
  obtain ⟨p1, p2, p3, p4, p5⟩ := R.pne
  obtain ⟨w1, w2, w3, w5⟩ := R.wne
  have tp : Tups H (upd H a4 (.dK (kvs ws))) := tups_upd (notup_dict R.w)
  have k : ∀ b, b ≠ a4 → ∀ o, H b = some o → (upd H a4 (.dK (kvs ws))) b = some o := fun b hb o h => by
    rw [upd_ne hb]
    exact h
  exact ⟨let ⟨dx, h⟩ := R.ob; ⟨dx, k p p4 _ h⟩, R.i.keep tp (k _ w1), R.g.keep tp (k _ w2), R.o.keep tp (k _ w3), upd_same, k _ w5 _ R.n, R.d⟩
theorem RdAt.putI (R : RdAt C H p a1 a2 a3 a4 a5 S) {xs : List V} (h : H a1 = some (.lst xs)) {v : V} {z : Str × Nat} (hv : InAt H v z) :
    RdAt C (upd H a1 (.lst (xs ++ [v]))) p a1 a2 a3 a4 a5 ⟨S.ins ++ [z], S.gates, S.outs, S.wires, S.names⟩ := by
  obtain ⟨p1, p2, p3, p4, p5⟩ := R.pne
  obtain ⟨w1, w2, w3, w5⟩ := R.wne
  obtain ⟨d12, d13, d15, d23, d25, d35⟩ := R.d
  have tp : Tups H (upd H a1 (.lst (xs ++ [v]))) := tups_upd (notup_lst h)
  have k : ∀ b, b ≠ a1 → ∀ o, H b = some o → (upd H a1 (.lst (xs ++ [v]))) b = some o := fun b hb o h => by
    rw [upd_ne hb]
    exact h
  have hx : All2 (InAt H) xs S.ins := by
    obtain ⟨ys, h1, h2⟩ := R.i
    rw [h] at h1
    cases h1
    exact h2
  exact ⟨let ⟨dx, h⟩ := R.ob; ⟨dx, k p p1 _ h⟩, ⟨_, upd_same, (hx.mono fun x y r => r.keep tp).snoc (hv.keep tp)⟩, R.g.keep tp (k _ d12.symm), R.o.keep tp (k _ d13.symm), k _ w1.symm _ R.w, k _ d15.symm _ R.n, R.d⟩
theorem RdAt.putG (R : RdAt C H p a1 a2 a3 a4 a5 S) {xs : List V} (h : H a2 = some (.lst xs)) {v : V} {z : Gate} (hv : GateAt H v z) :
    RdAt C (upd H a2 (.lst (xs ++ [v]))) p a1 a2 a3 a4 a5 ⟨S.ins, S.gates ++ [z], S.outs, S.wires, S.names⟩ := by
  obtain ⟨p1, p2, p3, p4, p5⟩ := R.pne
  obtain ⟨w1, w2, w3, w5⟩ := R.wne
  obtain ⟨d12, d13, d15, d23, d25, d35⟩ := R.d
  have tp : Tups H (upd H a2 (.lst (xs ++ [v]))) := tups_upd (notup_lst h)
  have k : ∀ b, b ≠ a2 → ∀ o, H b = some o → (upd H a2 (.lst (xs ++ [v]))) b = some o := fun b hb o h => by
    rw [upd_ne hb]
    exact h
  have hx : All2 (GateAt H) xs S.gates := by
    obtain ⟨ys, h1, h2⟩ := R.g
    rw [h] at h1
    cases h1
    exact h2
  exact ⟨let ⟨dx, h⟩ := R.ob; ⟨dx, k p p2 _ h⟩, R.i.keep tp (k _ d12), ⟨_, upd_same, (hx.mono fun x y r => r.keep tp).snoc (hv.keep tp)⟩, R.o.keep tp (k _ d23.symm), k _ w2.symm _ R.w, k _ d25.symm _ R.n, R.d⟩
theorem RdAt.putO (R : RdAt C H p a1 a2 a3 a4 a5 S) {xs : List V} (h : H a3 = some (.lst xs)) {v : V} {z : Str × List Nat} (hv : OutAt H v z) :
    RdAt C (upd H a3 (.lst (xs ++ [v]))) p a1 a2 a3 a4 a5 ⟨S.ins, S.gates, S.outs ++ [z], S.wires, S.names⟩ := by
  obtain ⟨p1, p2, p3, p4, p5⟩ := R.pne
  obtain ⟨w1, w2, w3, w5⟩ := R.wne
  obtain ⟨d12, d13, d15, d23, d25, d35⟩ := R.d
  have tp : Tups H (upd H a3 (.lst (xs ++ [v]))) := tups_upd (notup_lst h)
  have k : ∀ b, b ≠ a3 → ∀ o, H b = some o → (upd H a3 (.lst (xs ++ [v]))) b = some o := fun b hb o h => by
    rw [upd_ne hb]
    exact h
  have hx : All2 (OutAt H) xs S.outs := by
    obtain ⟨ys, h1, h2⟩ := R.o
    rw [h] at h1
    cases h1
    exact h2
  exact ⟨let ⟨dx, h⟩ := R.ob; ⟨dx, k p p3 _ h⟩, R.i.keep tp (k _ d13), R.g.keep tp (k _ d23), ⟨_, upd_same, (hx.mono fun x y r => r.keep tp).snoc (hv.keep tp)⟩, k _ w3.symm _ R.w, k _ d35.symm _ R.n, R.d⟩
theorem oth_upd {b : Addr} {o : HO} (h : b = a1 ∨ b = a2 ∨ b = a3 ∨ b = a4 ∨ b = a5) : Oth a1 a2 a3 a4 a5 H (upd H b o) := fun c u e h1 h2 h3 h4 h5 => by
  have ne : c ≠ b := by
    rcases h with h | h | h | h | h <;> rw [h] <;> assumption
  rw [upd_ne ne]
  exact e
end
section
variable {P : Program} {w : World} {K : PySem.W.Frag} {mg : Str → Option Value} {base : Heap} {C aB aW aL : Addr}
def spInit (C : Addr) : Sp := fun vs H Q _ => ∃ (p dx : Addr), vs = [.ref p] ∧ H p = some (.ins C dx []) ∧ ∀ (a1 a2 a3 a4 a5 : Addr) (H' : Hp), H a1 = none → H a2 = none → H a3 = none → H a4 = none → H a5 = none → RdAt C H' p a1 a2 a3 a4 a5 RS.nil →
  (∀ b o, H b = some o → b ≠ p → H' b = some o) → Q .non H'
theorem ok_init {f : Addr} {fd : FuncData} (T : Txt K mg w C aB aW aL) (M : Mk K C f) (gC : mg "Reading" = some (.ref C)) (F : C8.Fun K "__init__" "Reading.__init__" sInit f fd) (b : Binds K fd ["self"] []) : Mak P w K mg base 1 "Reading" C (spInit C) [] := by
  have sc : FnScope ["self"] ["self"] (C8.fnScope sInit) := fnScope_by (by decide +kernel)
  refine mak0 M gC F b .nil sc (fun vs H Q E h => ?_) (fun cdv A outer s H vs Q E hr h => ?_)
  · obtain ⟨p, dx, rfl, _⟩ := h
    rfl
  · obtain ⟨p, dx, rfl, hp, q⟩ := h
    refine ⟨_, pss_cons (ps_fld (pv 0) (pe_lst pa_nil) rfl) (pss_cons (ps_fld (pv 0) (pe_lst pa_nil) rfl) (pss_cons (ps_fld (pv 0) (pe_lst pa_nil) rfl) (pss_cons (ps_fld (pv 0) pe_dnewK rfl) (pss_one (ps_fld (pv 0) (pe_lst pa_nil) rfl))))), ?_⟩
    have up : ∀ {H1 : Hp} {a : Addr} {o : HO} {fs : List (Str × V)}, H1 p = some (.ins C dx fs) → H1 a = none → (upd H1 a o) p = some (.ins C dx fs) := fun e n => by
      rw [upd_ne (ne_of_none e n)]
      exact e
    refine ⟨Nat.zero_le _, fun a1 n1 => ⟨.ref p, rfl, p, C, dx, _, rfl, up hp n1, T.cl, T.nI, (by show 0 < 1000; decide), ?_⟩⟩
    refine ⟨Nat.zero_le _, fun a2 n2 => ⟨.ref p, rfl, p, C, dx, _, rfl, up upd_same n2, T.cl, T.nG, (by show 1 < 1000; decide), ?_⟩⟩
    refine ⟨Nat.zero_le _, fun a3 n3 => ⟨.ref p, rfl, p, C, dx, _, rfl, up upd_same n3, T.cl, T.nO, ?_, ?_⟩⟩
    · show 2 < 1000
      decide
    refine fun a4 n4 => ⟨.ref p, rfl, p, C, dx, _, rfl, up upd_same n4, T.cl, T.nW, ?_, ?_⟩
    · show 3 < 1000
      decide
    refine ⟨Nat.zero_le _, fun a5 n5 => ⟨.ref p, rfl, p, C, dx, _, rfl, up upd_same n5, T.cl, T.nN, ?_, ?_⟩⟩
    · show 4 < 1000
      decide
    obtain ⟨_, n2⟩ := un n2
    obtain ⟨d21, n2⟩ := un n2
    obtain ⟨_, n3⟩ := un n3
    obtain ⟨d32, n3⟩ := un n3
    obtain ⟨_, n3⟩ := un n3
    obtain ⟨d31, n3⟩ := un n3
    obtain ⟨_, n4⟩ := un n4
    obtain ⟨d43, n4⟩ := un n4
    obtain ⟨_, n4⟩ := un n4
    obtain ⟨d42, n4⟩ := un n4
    obtain ⟨_, n4⟩ := un n4
    obtain ⟨d41, n4⟩ := un n4
    obtain ⟨_, n5⟩ := un n5
    obtain ⟨d54, n5⟩ := un n5
    obtain ⟨_, n5⟩ := un n5
    obtain ⟨d53, n5⟩ := un n5
    obtain ⟨_, n5⟩ := un n5
    obtain ⟨d52, n5⟩ := un n5
    obtain ⟨_, n5⟩ := un n5
    obtain ⟨d51, n5⟩ := un n5
    have p1 : p ≠ a1 := ne_of_none hp n1
    have p2 : p ≠ a2 := ne_of_none hp n2
    have p3 : p ≠ a3 := ne_of_none hp n3
    have p4 : p ≠ a4 := ne_of_none hp n4
    have p5 : p ≠ a5 := ne_of_none hp n5
    refine q a1 a2 a3 a4 a5 _ n1 n2 n3 n4 n5 ⟨⟨dx, ?_⟩, ⟨[], ?_, .nil⟩, ⟨[], ?_, .nil⟩, ⟨[], ?_, .nil⟩, ?_, ?_, d21.symm, d31.symm, d51.symm, d32.symm, d52.symm, d53.symm⟩ fun b o e hb => ?_
    · rw [upd_same, flds_put]
    · rw [upd_ne p1.symm, upd_ne d51.symm, upd_ne p1.symm, upd_ne d41.symm, upd_ne p1.symm, upd_ne d31.symm, upd_ne p1.symm, upd_ne d21.symm, upd_ne p1.symm, upd_same]
    · rw [upd_ne p2.symm, upd_ne d52.symm, upd_ne p2.symm, upd_ne d42.symm, upd_ne p2.symm, upd_ne d32.symm, upd_ne p2.symm, upd_same]
    · rw [upd_ne p3.symm, upd_ne d53.symm, upd_ne p3.symm, upd_ne d43.symm, upd_ne p3.symm, upd_same]
    · rw [upd_ne p4.symm, upd_ne d54.symm, upd_ne p4.symm, upd_same]
      rfl
    · rw [upd_ne p5.symm, upd_same]
      rfl
    · rw [upd_ne hb, upd_ne (ne_of_none e n5), upd_ne hb, upd_ne (ne_of_none e n4), upd_ne hb, upd_ne (ne_of_none e n3), upd_ne hb, upd_ne (ne_of_none e n2), upd_ne hb, upd_ne (ne_of_none e n1)]
      exact e
end
end BF

/-! BFg: in_read, numbers_of. -/
namespace BF
open PySem PySem.Spec PyProof.Rows L2
open C8 (Cal Met Mak pe_c pe_mk pe_mt pe_mt0 pe_gc tCut pss_cut cal0 met0 mak0 fnScope_by)

theorem cut_fig {w : Nat} (h1 : 1 ≤ w) (h3 : w ≤ 3) : cutS figures none (some (w : Int)) = ⟨(List.range' 48 w).toArray⟩ := by
  have h : w = 1 ∨ w = 2 ∨ w = 3 := by omega
  rcases h with rfl | rfl | rfl <;> decide +kernel
theorem fig_len : figures.length = 10 := by decide +kernel
/-- list != [] is false where the list is empty -/
theorem ne_nil {K : PySem.W.Frag} {H : Hp} {a b : Addr} {Q : VK} (h1 : H a = some (.lst [])) (h2 : H b = some (.lst [])) (q : Q (.bl false) H) : rNeD K (.ref a) (.ref b) H Q :=
  ⟨.list [], .list [], .lst (.of h1) .nil, .lst (.of h2) .nil, by decide, by decide, q⟩
theorem All2.nil_of {α : Type} {R : V → α → Prop} {xs : List V} (h : All2 R xs ([] : List α)) : xs = [] := by
  have := h.1
  cases xs with
  | nil => rfl
  | cons x r => simp at this
theorem sub_word (n : Str) (k : Nat) : n ++ (":" : Str) ++ (⟨#[48 + k]⟩ : Str) = sub n k := rfl
section
variable {P : Program} {w : World} {K : PySem.W.Frag} {mg : Str → Option Value} {base : Heap} {C aB aW aL : Addr}
def spInRead (C : Addr) : Sp := fun vs H Q _ => ∃ (p a1 a2 a3 a4 a5 : Addr) (S : RS) (z : Str × Nat), vs = [.ref p, .str z.1, .int (z.2 : Int)] ∧ RdAt C H p a1 a2 a3 a4 a5 S ∧ Pre S (.inn z) ∧ Small S ∧ z.1.length ≤ 8 ∧ 1 ≤ z.2 ∧ z.2 ≤ 3 ∧
  ∀ H', RdAt C H' p a1 a2 a3 a4 a5 (S.put (.inn z)) → Oth a1 a2 a3 a4 a5 H H' → Q .non H'
theorem ok_in_read {f : Addr} {fd : FuncData} (T : Txt K mg w C aB aW aL) (me : Meth K C "in_read" f) (F : C8.Fun K "in_read" "Reading.in_read" sInRead f fd) (b : Binds K fd ["self", "name", "width"] []) : Met P w K mg base 1 C "in_read" (spInRead C) [] := by
  have sc : FnScope ["self", "name", "width", "place"] ["self", "name", "width"] (C8.fnScope sInRead) := fnScope_by (by decide +kernel)
  refine met0 T.cl me F b sc (fun vs H Q E h => ?_) (fun cdv A outer s H vs Q E hr h => ?_)
  · obtain ⟨p, a1, a2, a3, a4, a5, S, z, rfl, _⟩ := h
    rfl
  · obtain ⟨p, a1, a2, a3, a4, a5, S, z, rfl, R, ⟨eg, eo, hn, hi, hnd⟩, hs, hz8, hz1, hz3, q⟩ := h
    have hu := hu_of hr
    refine ⟨_, pss_cons (ps_if (PW.pt (pw_or (pt_cmpR (op_neD hr.units) (pe_fld (pv 0) rfl) (pe_lst pa_nil) (nomark _)) (pw_or1 (pt_cmpR (op_neD hr.units) (pe_fld (pv 0) rfl) (pe_lst pa_nil) (nomark _))))) (pss_one ps_never) pss_nil)
      (pss_cons (ps_if (pt_cmpR op_in_seq (pv 1) (pe_fld (pv 0) rfl) (by rfl)) (pss_one ps_never) pss_nil)
      (pss_cons (ps_if (pt_cmpR op_eq (pe_callB call_len_seq (by rfl) T.len PySem.boot_len (pa_cons (pe_fld (pv 0) rfl) pa_nil)) (pe_gc rfl T.ni) (nomark _)) (pss_one ps_never) pss_nil)
      (pss_cons (ps_expr (pe_bm PySem.F.plainAttrs_list PySem.F.slot_list_append PySem.F.type_list_append mt_append (pe_fld (pv 0) rfl) (pa_cons (pv 1) pa_nil)))
      (pss_cons (ps_expr (pe_bm PySem.F.plainAttrs_list PySem.F.slot_list_append PySem.F.type_list_append mt_append (pe_fld (pv 0) rfl) (pa_cons (pe_tup (pa_cons (pv 1) (pa_cons (pv 2) pa_nil))) pa_nil)))
      (pss_one (ps_if (pt_cmpR op_eq (pv 2) pe_int (nomark _))
        (pss_one (ps_dput hu (pe_fld (pv 0) rfl) (pv 1) (pe_callB call_lenD (by rfl) T.len PySem.boot_len (pa_cons (pe_fld (pv 0) rfl) pa_nil)) rfl))
        (pss_one (ps_for PassesOwn.never rfl (pi_str (pe_slice sl_str (pe_gc rfl T.cFig) po_none (po_some (pv 2)))) (pg_name (i := 3) sc.nd rfl (.inl rfl))
          (pss_one (ps_dput hu (pe_fld (pv 0) rfl) (pe_op op_add_str (pe_op op_add_str (pv 1) pe_str) (pv 3)) (pe_callB call_lenD (by rfl) T.len PySem.boot_len (pa_cons (pe_fld (pv 0) rfl) pa_nil)) rfl)))))))))), ?_⟩
    have fld : ∀ {H1 : Hp} {S1 : RS}, RdAt C H1 p a1 a2 a3 a4 a5 S1 → ∃ dx, H1 p = some (.ins C dx (flds a1 a2 a3 a4 a5)) := fun R1 => R1.ob
    obtain ⟨dx, hp⟩ := R.ob
    obtain ⟨xg, hg, rg⟩ := R.g
    rw [eg] at rg
    obtain rfl := rg.nil_of
    refine ⟨.ref p, rfl, p, C, dx, _, _, rfl, hp, T.cl, T.nG, fl_gates .., Nat.zero_le _, fun u1 n1 => ?_⟩
    have s1 := same_upd (o := .lst []) n1
    have R1 := R.same s1
    refine ne_nil (s1 _ _ hg) upd_same ⟨false, rfl, iteF ?_⟩
    obtain ⟨dx1, hp1⟩ := R1.ob
    obtain ⟨xo, hO, ro⟩ := R1.o
    rw [eo] at ro
    obtain rfl := ro.nil_of
    refine ⟨.ref p, rfl, p, C, dx1, _, _, rfl, hp1, T.cl, T.nO, fl_outs .., Nat.zero_le _, fun u2 n2 => ?_⟩
    have s2 := Same.trans s1 (same_upd (o := .lst []) n2)
    have R2 := R.same s2
    refine ne_nil (same_upd (o := .lst []) n2 _ _ hO) upd_same ⟨false, rfl, iteF ?_⟩
    generalize upd (upd H u1 (.lst [])) u2 (.lst []) = H2 at s2 R2 ⊢
    obtain ⟨dx2, hp2⟩ := R2.ob
    refine ⟨_, rfl, .ref p, rfl, p, C, dx2, _, _, rfl, hp2, T.cl, T.nN, fl_names .., a5, _, rfl, .inl (.of R2.n), rfl, flat_strs _, false, ?_, iteF ?_⟩
    · show V.bl (inV (.str z.1) (S.names.map V.str)) = _
      rw [inV_str, decide_eq_false hn]
    obtain ⟨xi, hI, ri⟩ := R2.i
    refine ⟨.ref p, rfl, p, C, dx2, _, _, rfl, hp2, T.cl, T.nI, fl_ins .., a1, _, rfl, .inl (.of hI), rfl, false, ?_, iteF ?_⟩
    · refine congrArg V.bl (decide_eq_false fun e => ?_)
      have e := V.int.inj e
      have := ri.1
      omega
    refine ⟨.ref p, rfl, p, C, dx2, _, _, rfl, hp2, T.cl, T.nN, fl_names .., .inl ⟨rfl, _, .of R2.n⟩, _, rfl, a5, _, _, rfl, rfl, R2.n, ?_, ?_⟩
    · rw [List.length_map]
      have := hs.n
      exact size_lt (by omega)
    have R3 := R2.setN (S.names ++ [z.1])
    rw [List.map_append] at R3
    have o3 : Oth a1 a2 a3 a4 a5 H2 (upd H2 a5 (.lst (S.names.map V.str ++ [z.1].map V.str))) := oth_upd (.inr (.inr (.inr (.inr rfl))))
    have o3 := (Same.oth s2).trans o3
    have hI3 : (upd H2 a5 (.lst (S.names.map V.str ++ [z.1].map V.str))) a1 = some (.lst xi) := by
      rw [upd_ne R.d.2.2.1]
      exact hI
    show tSeq _ _ _ _ (upd H2 a5 (.lst (S.names.map V.str ++ [z.1].map V.str)))
    generalize upd H2 a5 (.lst (S.names.map V.str ++ [z.1].map V.str)) = H3 at R3 o3 hI3 ⊢
    obtain ⟨dx3, hp3⟩ := R3.ob
    refine ⟨.ref p, rfl, p, C, dx3, _, _, rfl, hp3, T.cl, T.nI, fl_ins .., .inl ⟨rfl, _, .of hI3⟩, _, rfl, _, rfl, (by show 2 ≤ sizeLine; decide), fun t nt => ?_⟩
    have s4 := same_upd (o := .tup [.str z.1, .int (z.2 : Int)]) nt
    have R4 := R3.same s4
    refine ⟨a1, _, _, rfl, rfl, s4 _ _ hI3, ?_, ?_⟩
    · have := ri.1
      exact size_lt (by omega)
    have R5 := R4.putI (s4 _ _ hI3) (v := .ref t) (z := z) ⟨t, rfl, upd_same⟩
    have o5 : Oth a1 a2 a3 a4 a5 H (upd (upd H3 t (.tup [.str z.1, .int (z.2 : Int)])) a1 (.lst (xi ++ [.ref t]))) := (o3.trans (Same.oth s4)).trans (oth_upd (.inl rfl))
    generalize upd (upd H3 t (.tup [.str z.1, .int (z.2 : Int)])) a1 (.lst (xi ++ [.ref t])) = H5 at R5 o5 ⊢
    have R5 : RdAt C H5 p a1 a2 a3 a4 a5 ⟨S.ins ++ [z], S.gates, S.outs, S.wires, S.names ++ [z.1]⟩ := R5
    have hw := hs.w
    have hndw := List.nodup_append.mp hnd
    refine ⟨_, rfl, rfl, decide (z.2 = 1), congrArg V.bl (decide_eq_decide.mpr ⟨fun e => by have := V.int.inj e; omega, fun e => by rw [e]; rfl⟩), ite2 (fun e1 => ?_) (fun e1 => ?_)⟩
    · have e1 : z.2 = 1 := of_decide_eq_true e1
      have ew : wIn z = [z.1] := by unfold wIn; rw [if_pos e1]
      have hno : z.1 ∉ S.wires := fun m => hndw.2.2 _ m z.1 (by rw [ew]; exact List.mem_singleton.mpr rfl) rfl
      obtain ⟨dx5, hp5⟩ := R5.ob
      refine ⟨.ref p, rfl, p, C, dx5, _, _, rfl, hp5, T.cl, T.nW, fl_wires .., a4, _, rfl, R5.w, ?_⟩
      refine ⟨.ref p, rfl, p, C, dx5, _, _, rfl, hp5, T.cl, T.nW, fl_wires .., _, rfl, a4, _, rfl, DPut.k (k := Sum.inr z.1) R5.w (by rw [kvs_len]; show S.wires.length < sizeLine; exact size_lt (by omega)), ?_⟩
      have R6 := R5.setW (S.wires ++ wIn z)
      rw [ew] at R6
      have ek : putK (kvs S.wires) (Sum.inr z.1 : Key) (V.int ((kvs S.wires).length : Int)) = kvs (S.wires ++ [z.1]) := by rw [kvs_len]; exact kvs_put hno
      refine q _ ?_ (o5.trans (oth_upd (.inr (.inr (.inr (.inl rfl))))))
      rw [ek]
      show RdAt C _ p a1 a2 a3 a4 a5 ⟨S.ins ++ [z], S.gates, S.outs, S.wires ++ wIn z, S.names ++ [z.1]⟩
      rw [ew]
      exact R6
    · have e1 : z.2 ≠ 1 := fun e => e1 (decide_eq_true e)
      have ew : wIn z = (List.range z.2).map (sub z.1) := by unfold wIn; rw [if_neg e1]
      refine ⟨_, rfl, _, rfl, figures, rfl, (by rw [fig_len]; decide), cutS figures none (some (z.2 : Int)), rfl, ?_⟩
      rw [cut_fig hz1 hz3]
      refine for_it (walk_str (z := ⟨(List.range' 48 z.2).toArray⟩)) (fun i σ H6 => ∃ y, σ = [some (.ref p), some (.str z.1), some (.int (z.2 : Int)), y] ∧
        RdAt C H6 p a1 a2 a3 a4 a5 ⟨S.ins ++ [z], S.gates, S.outs, S.wires ++ (List.range i).map (sub z.1), S.names ++ [z.1]⟩ ∧ Oth a1 a2 a3 a4 a5 H H6) ⟨none, rfl, ?_, o5⟩ (fun _ _ _ _ _ => trivial) ?_ ?_
      · rw [List.range_zero, List.map_nil, List.append_nil]
        exact R5
      · rintro i v σ H6 H6' hi ⟨y, rfl, R6, o6⟩ ⟨e6, c, hc, ev⟩
        subst e6 ev
        have hi : i < (List.range' 48 z.2).toArray.size := hi
        have hi : i < z.2 := by
          have : (List.range' 48 z.2).toArray.size = z.2 := by simp
          omega
        have ec : c = 48 + i := by
          have hc : (List.range' 48 z.2).toArray[i]? = some c := hc
          rw [List.getElem?_toArray, List.getElem?_range' hi] at hc
          have := Option.some.inj hc
          omega
        subst ec
        have hsub : sub z.1 i ∉ S.wires ++ (List.range i).map (sub z.1) := fun m => by
          rcases List.mem_append.mp m with m | m
          · exact hndw.2.2 _ m (sub z.1 i) (by rw [ew]; exact List.mem_map.mpr ⟨i, List.mem_range.mpr hi, rfl⟩) rfl
          · obtain ⟨j, hj, e⟩ := List.mem_map.mp m
            have := (sub_inj e).2
            have := List.mem_range.mp hj
            omega
        have hlen : (S.wires ++ (List.range i).map (sub z.1)).length ≤ 200 := by
          rw [List.length_append, List.length_map, List.length_range]
          omega
        obtain ⟨dx6, hp6⟩ := R6.ob
        refine ⟨.ref p, rfl, p, C, dx6, _, _, rfl, hp6, T.cl, T.nW, fl_wires .., a4, _, rfl, R6.w, ?_⟩
        refine ⟨.ref p, rfl, p, C, dx6, _, _, rfl, hp6, T.cl, T.nW, fl_wires .., ?_⟩
        have l1 : (":" : Str).length = 1 := by rw [TL.len_tl, tl_colon]; rfl
        refine ⟨_, rfl, _, _, rfl, rfl, size_ok (by omega), _, rfl, _, _, rfl, rfl, size_ok (by rw [len_app, l1]; show z.1.length + 1 + 1 ≤ 100000; omega), ?_⟩
        rw [sub_word]
        refine ⟨a4, _, rfl, DPut.k (k := Sum.inr (sub z.1 i)) R6.w (by rw [kvs_len]; show (S.wires ++ (List.range i).map (sub z.1)).length < sizeLine; exact size_lt (by omega)), ?_⟩
        have R7 := R6.setW (S.wires ++ (List.range (i + 1)).map (sub z.1))
        have ek : putK (kvs (S.wires ++ (List.range i).map (sub z.1))) (Sum.inr (sub z.1 i) : Key) (V.int ((kvs (S.wires ++ (List.range i).map (sub z.1))).length : Int)) = kvs (S.wires ++ (List.range (i + 1)).map (sub z.1)) := by
          rw [kvs_len, kvs_put hsub, List.range_succ, List.map_append, List.append_assoc]
          rfl
        refine ⟨_, rfl, ?_, o6.trans (oth_upd (.inr (.inr (.inr (.inl rfl)))))⟩
        rw [ek]
        exact R7
      · rintro σ H6 ⟨y, rfl, R6, o6⟩
        have e3 : (⟨(List.range' 48 z.2).toArray⟩ : Str).cps.size = z.2 := by
          show (List.range' 48 z.2).toArray.size = z.2
          simp
        rw [e3, ← ew] at R6
        exact q H6 R6 o6
end
end BF

/-! BFi: data compared; numbers_of, gate_read, out_read, row_read. -/
namespace BF
open PySem PySem.Spec PyProof.Rows L2
open C8 (Cal Met Mak pe_c pe_mk pe_mt pe_mt0 pe_gc tCut pss_cut cal0 met0 mak0 fnScope_by)

/-! ### data -/
/-- fit to be compared, so deep at most -/
def Sh (d : PyData) (k : Nat) : Prop := d.canLay0 = true ∧ d.depth ≤ k
theorem Sh.ok {d : PyData} {k : Nat} (h : Sh d k) (hk : k ≤ 64) : SeqAt.shaped d = true := by
  unfold SeqAt.shaped
  rw [h.1, decide_eq_true (Nat.le_trans h.2 hk)]
  rfl
def ShAll (ds : List PyData) (k : Nat) : Prop := PyData.canLayAll0 ds = true ∧ PyData.depthAll ds ≤ k
theorem shAll_nil (k : Nat) : ShAll [] k := ⟨by simp [PyData.canLayAll0], by simp [PyData.depthAll]⟩
theorem shAll_cons {d : PyData} {ds : List PyData} {k : Nat} (h : Sh d k) (h' : ShAll ds k) : ShAll (d :: ds) k := by
  refine ⟨?_, ?_⟩
  · rw [PyData.canLayAll0, h.1, h'.1]
    rfl
  · rw [PyData.depthAll]
    exact Nat.max_le.mpr ⟨h.2, h'.2⟩
theorem shAll_map {α : Type} {f : α → PyData} {k : Nat} : ∀ {l : List α}, (∀ x ∈ l, Sh (f x) k) → ShAll (l.map f) k
  | [], _ => shAll_nil k
  | x :: r, h => shAll_cons (h x List.mem_cons_self) (shAll_map fun y hy => h y (List.mem_cons_of_mem _ hy))
theorem sh_list {ds : List PyData} {k : Nat} (h : ShAll ds k) : Sh (.list ds) (k + 1) := ⟨by rw [PyData.canLay0]; exact h.1, by rw [PyData.depth]; exact Nat.succ_le_succ h.2⟩
theorem sh_tuple {ds : List PyData} {k : Nat} (h : ShAll ds k) : Sh (.tuple ds) (k + 1) := ⟨by rw [PyData.canLay0]; exact h.1, by rw [PyData.depth]; exact Nat.succ_le_succ h.2⟩
theorem sh_int (i : Int) (k : Nat) : Sh (.int i) k := ⟨by rw [PyData.canLay0], by rw [PyData.depth]; exact Nat.zero_le _⟩
theorem sh_bool (b : Bool) (k : Nat) : Sh (.bool b) k := ⟨by rw [PyData.canLay0], by rw [PyData.depth]; exact Nat.zero_le _⟩
theorem sh_str {x : Str} (h : ∀ c ∈ TL.tl x, c < 1114112) (k : Nat) : Sh (.str x) k := by
  refine ⟨?_, by rw [PyData.depth]; exact Nat.zero_le _⟩
  rw [PyData.canLay0]
  show x.cps.all (· < 0x110000) = true
  rw [← Array.all_toList, List.all_eq_true]
  exact fun c hc => decide_eq_true (h c hc)
theorem Sh.mono {d : PyData} {k j : Nat} (h : Sh d k) (hj : k ≤ j) : Sh d j := ⟨h.1, Nat.le_trans h.2 hj⟩
theorem GN.sh {x : Str} (h : GN x) (k : Nat) : Sh (.str x) k := sh_str (fun c hc => by have := h.lt c hc; omega) k
theorem kind_sh {x : Str} (h : x ∈ kinds) (k : Nat) : Sh (.str x) k := by
  have q : ∀ y ∈ kinds, (TL.tl y).all (fun c => decide (c < 1114112)) = true := by
    have : kinds.all (fun y => (TL.tl y).all (fun c => decide (c < 1114112))) = true := by decide +kernel
    exact List.all_eq_true.mp this
  exact sh_str (fun c hc => of_decide_eq_true (List.all_eq_true.mp (q x h) c hc)) k
theorem sh_nums (is : List Nat) (k : Nat) : ShAll (dNums is) k := shAll_map fun i _ => sh_int _ _
theorem sh_in {p : Str × Nat} (h : GN p.1) : Sh (dIn p) 1 := sh_tuple (shAll_cons (h.sh 0) (shAll_cons (sh_int _ 0) (shAll_nil 0)))
theorem sh_gate {g : Gate} (h : g.kind ∈ kinds) : Sh (dGate g) 2 := sh_tuple (shAll_cons (kind_sh h 1) (shAll_cons (sh_tuple (sh_nums _ 0)) (shAll_cons (sh_bool _ 1) (shAll_nil 1))))
theorem sh_out {o : Str × List Nat} (h : GN o.1) : Sh (dOut o) 2 := sh_tuple (shAll_cons (h.sh 1) (shAll_cons (sh_tuple (sh_nums _ 0)) (shAll_nil 1)))
theorem sh_ins {l : List (Str × Nat)} (h : ∀ p ∈ l, GN p.1) : Sh (.list (l.map dIn)) 3 := sh_list (shAll_map fun p hp => (sh_in (h p hp)).mono (by decide))
theorem sh_gates {l : List Gate} (h : ∀ g ∈ l, g.kind ∈ kinds) : Sh (.list (l.map dGate)) 3 := sh_list (shAll_map fun p hp => (sh_gate (h p hp)))
theorem sh_outs {l : List (Str × List Nat)} (h : ∀ p ∈ l, GN p.1) : Sh (.list (l.map dOut)) 3 := sh_list (shAll_map fun p hp => (sh_out (h p hp)))
theorem GoodNet.kinds {N : Net} (G : GoodNet N) : ∀ g ∈ N.gates, g.kind ∈ kinds := fun g hg => by
  obtain ⟨i, hi⟩ := List.getElem?_of_mem hg
  exact (G.gok i g hi).kd
theorem sh_net {N : Net} (G : GoodNet N) : SeqAt.shaped (dNet N) = true :=
  Sh.ok (k := 4) (sh_tuple (shAll_cons (sh_ins G.inm) (shAll_cons (sh_gates G.kinds) (shAll_cons (sh_outs G.onm) (shAll_nil 3))))) (by decide)
theorem eqv_self {d : PyData} (h : SeqAt.shaped d = true) : PyData.eqv d d = true := SeqAt.eqv_refl_plain d (PyData.plain_of_canLay0 d (SeqAt.canLay_of_shaped h))

/-! ### what fits -/
theorem Fits.len {W : List Str} {is : List Nat} {ws : List Str} (h : Fits W is ws) : is.length = ws.length := by
  have := congrArg List.length h
  simpa using this
theorem Fits.at {W : List Str} {is : List Nat} {ws : List Str} (h : Fits W is ws) {j : Nat} {x : Str} (hx : ws[j]? = some x) : ∃ i, is[j]? = some i ∧ W[i]? = some x := by
  have e := congrArg (fun l => l[j]?) h
  simp only [List.getElem?_map, hx, Option.map_some] at e
  obtain ⟨i, h1, h2⟩ := Option.map_eq_some_iff.mp e
  exact ⟨i, h1, h2⟩
theorem nums_snoc {is : List Nat} {j i : Nat} (h : is[j]? = some i) : nums (is.take (j + 1)) = nums (is.take j) ++ [.int (i : Int)] := by
  unfold nums
  rw [take_snoc h, List.map_append]
  rfl
section
variable {P : Program} {w : World} {K : PySem.W.Frag} {mg : Str → Option Value} {base : Heap} {C aB aW aL : Addr}
def spNumbers (C : Addr) : Sp := fun vs H Q _ => ∃ (p a1 a2 a3 a4 a5 l : Addr) (S : RS) (is : List Nat) (ws : List Str), vs = [.ref p, .ref l] ∧ RdAt C H p a1 a2 a3 a4 a5 S ∧ H l = some (.lst (ws.map V.str)) ∧ Fits S.wires is ws ∧ Small S ∧ ws.length ≤ 1000 ∧
  ∀ t H', Same H H' → H t = none → H' t = some (.tup (nums is)) → Q (.ref t) H'
theorem ok_numbers {f : Addr} {fd : FuncData} (T : Txt K mg w C aB aW aL) (me : Meth K C "numbers_of" f) (F : C8.Fun K "numbers_of" "Reading.numbers_of" sNumbers f fd) (b : Binds K fd ["self", "words"] []) : Met P w K mg base 1 C "numbers_of" (spNumbers C) [] := by
  have sc : FnScope ["self", "words", "word"] ["self", "words"] (C8.fnScope sNumbers) := fnScope_by (by decide +kernel)
  refine met0 T.cl me F b sc (fun vs H Q E h => ?_) (fun cdv A outer s H vs Q E hr h => ?_)
  · obtain ⟨p, a1, a2, a3, a4, a5, l, S, is, ws, rfl, _⟩ := h
    rfl
  · obtain ⟨p, a1, a2, a3, a4, a5, l, S, is, ws, rfl, R, hl, hf, hs, hz, q⟩ := h
    have hu := hu_of hr
    refine ⟨_, pss_cons (ps_for PassesOwn.never rfl (pi_list (pv 1)) (pg_name (i := 2) sc.nd rfl (.inl rfl)) (pss_one (ps_if (pt_cmp (pc_dnotin hu (pv 2) (pe_fld (pv 0) rfl))) (pss_one ps_never) pss_nil)))
      (pss_one (ps_ret (pe_callTy call_tuple_of (by rfl) T.tuple (by decide +kernel) (pa_cons (pe_lc (own := [("word", 2)]) (g := gName 2) (tt := tYes) (te := tDGet (tFld K (tVar 0) "wires") (tVar 2)) rfl sc.nd (pi_list (pv 1)) (blkOk_by (own := [("word", 2)]) (N := ["self", "words", "word"]) (sc := C8.fnScope sNumbers) (by decide +kernel))
            (fun _ _ _ _ _ => pg_name (i := 2) sc.nd rfl (Or.inl rfl)) (fun _ _ _ _ _ => pts_nil) (fun _ _ _ _ _ => pe_dget (by exact hu) (pe_fld (pv 0) rfl) (pv 2) (fun _ _ => rfl))) pa_nil)))), ?_⟩
    obtain ⟨dx, hp⟩ := R.ob
    have look : ∀ {j : Nat} {x : Str}, ws[j]? = some x → ∃ i, is[j]? = some i ∧ valV (kvs S.wires) (Sum.inr x : Key) = some (V.int (i : Int)) := fun {j x} hx => by
      obtain ⟨i, h1, h2⟩ := hf.at hx
      refine ⟨i, h1, ?_⟩
      have := valF_at 0 hs.nd h2
      rw [Nat.zero_add] at this
      exact this
    refine ⟨.ref l, rfl, l, rfl, ⟨_, .of hl⟩, for_list (K := K) (a := l) (xs := ws.map V.str) (fun i σ H2 => ∃ y, σ = [some (.ref p), some (.ref l), y] ∧ H2 = H) ⟨none, rfl, rfl⟩ (fun i σ H2 _ ⟨_, _, e⟩ => by rw [e]; exact .of hl) ?_ ?_⟩
    · rintro j v σ H2 hv ⟨y, rfl, rfl⟩
      rw [List.getElem?_map] at hv
      obtain ⟨x, hx, rfl⟩ := Option.map_eq_some_iff.mp hv
      obtain ⟨i, _, ev⟩ := look hx
      refine ⟨.str x, rfl, .ref p, rfl, p, C, dx, _, _, rfl, hp, T.cl, T.nW, fl_wires .., a4, _, rfl, DGet.k (k := Sum.inr x) R.w, false, ?_, iteF ⟨_, rfl, rfl⟩⟩
      rw [ev]
      rfl
    · rintro σ H2 ⟨y, rfl, rfl⟩
      refine ⟨.ref l, rfl, l, rfl, ⟨_, .of hl⟩, fun D nD => ?_⟩
      refine lc_list (K := K) (a := l) (xs := ws.map V.str) (fun j H3 => Same H2 H3 ∧ H3 D = some (.lst (nums (is.take j)))) ⟨same_upd nD, upd_same⟩ (fun j H3 _ h => .of (h.1 _ _ hl)) ?_ ?_
      · rintro j v H3 hv ⟨s1, eD⟩
        rw [List.getElem?_map] at hv
        obtain ⟨x, hx, rfl⟩ := Option.map_eq_some_iff.mp hv
        obtain ⟨i, hi, ev⟩ := look hx
        refine ⟨rfl, .ref p, rfl, p, C, dx, _, _, rfl, s1 _ _ hp, T.cl, T.nW, fl_wires .., .str x, rfl, a4, .int (i : Int), rfl, ?_, ?_⟩
        · rw [← ev]
          exact DGet.k (k := Sum.inr x) (s1 _ _ R.w)
        · refine ⟨_, eD, ?_, fun b o e => ?_, ?_⟩
          · have := hf.len
            unfold nums
            rw [List.length_map, List.length_take]
            exact size_lt (by omega)
          · rw [upd_ne (ne_of_none e nD)]
            exact s1 _ _ e
          · rw [upd_same, nums_snoc hi]
      · rintro H3 ⟨s1, eD⟩
        have el : is.take (ws.map V.str).length = is := List.take_of_length_le (by rw [List.length_map, hf.len]; exact Nat.le_refl _)
        rw [el] at eD
        refine ⟨D, _, rfl, .inl ⟨.of eD, fun t nt => ?_⟩⟩
        exact q t _ (Same.trans s1 (same_upd nt)) (Same.none s1 nt) upd_same

theorem gw_sure (s : Bool) : V.bl (decide (V.str (gw s) = V.str ("sure" : Str))) = .bl s := by cases s <;> decide +kernel
def spGateRead (C : Addr) : Sp := fun vs H Q _ => ∃ (p a1 a2 a3 a4 a5 l : Addr) (S : RS) (g : Gate) (n : Str) (ws : List Str), vs = [.ref p, .str (gw g.sure), .str n, .str g.kind, .ref l] ∧ RdAt C H p a1 a2 a3 a4 a5 S ∧ H l = some (.lst (ws.map V.str)) ∧ Pre S (.gate g n ws) ∧ Small S ∧ ws.length ≤ 1000 ∧
  ∀ H', RdAt C H' p a1 a2 a3 a4 a5 (S.put (.gate g n ws)) → Oth a1 a2 a3 a4 a5 H H' → Q .non H'
theorem ok_gate_read {f : Addr} {fd : FuncData} (T : Txt K mg w C aB aW aL) (cN : Met P w K mg base 1 C "numbers_of" (spNumbers C) []) (me : Meth K C "gate_read" f) (F : C8.Fun K "gate_read" "Reading.gate_read" sGateRead f fd) (b : Binds K fd ["self", "word", "name", "kind", "wires"] []) :
    Met P w K mg base 2 C "gate_read" (spGateRead C) [] := by
  have sc : FnScope ["self", "word", "name", "kind", "wires"] ["self", "word", "name", "kind", "wires"] (C8.fnScope sGateRead) := fnScope_by (by decide +kernel)
  refine met0 T.cl me F b sc (fun vs H Q E h => ?_) (fun cdv A outer s H vs Q E hr h => ?_)
  · obtain ⟨p, a1, a2, a3, a4, a5, l, S, g, n, ws, rfl, _⟩ := h
    rfl
  · obtain ⟨p, a1, a2, a3, a4, a5, l, S, g, n, ws, rfl, R, hl, ⟨eo, hn, h60, hf, hw⟩, hs, hz, q⟩ := h
    have hu := hu_of hr
    refine ⟨_, pss_cons (ps_if (pt_cmpR (op_neD hr.units) (pe_fld (pv 0) rfl) (pe_lst pa_nil) (nomark _)) (pss_one ps_never) pss_nil)
      (pss_cons (ps_if (pt_cmpR op_in_seq (pv 2) (pe_fld (pv 0) rfl) (by rfl)) (pss_one ps_never) pss_nil)
      (pss_cons (ps_if (pt_cmpR op_eq (pe_callB call_len_seq (by rfl) T.len PySem.boot_len (pa_cons (pe_fld (pv 0) rfl) pa_nil)) (pe_gc rfl T.ng) (nomark _)) (pss_one ps_never) pss_nil)
      (pss_cons (ps_expr (pe_bm PySem.F.plainAttrs_list PySem.F.slot_list_append PySem.F.type_list_append mt_append (pe_fld (pv 0) rfl) (pa_cons (pe_tup (pa_cons (pv 3) (pa_cons (pe_mt cN hr (by decide) (pv 0) (pa_cons (pv 4) pa_nil)) (pa_cons (pe_cmpR op_eq (pv 1) pe_str (nomark _)) pa_nil)))) pa_nil)))
      (pss_cons (ps_expr (pe_bm PySem.F.plainAttrs_list PySem.F.slot_list_append PySem.F.type_list_append mt_append (pe_fld (pv 0) rfl) (pa_cons (pv 2) pa_nil)))
      (pss_one (ps_dput hu (pe_fld (pv 0) rfl) (pv 2) (pe_callB call_lenD (by rfl) T.len PySem.boot_len (pa_cons (pe_fld (pv 0) rfl) pa_nil)) rfl)))))), ?_⟩
    obtain ⟨dx, hp⟩ := R.ob
    obtain ⟨xo, hO, ro⟩ := R.o
    rw [eo] at ro
    obtain rfl := ro.nil_of
    refine ⟨.ref p, rfl, p, C, dx, _, _, rfl, hp, T.cl, T.nO, fl_outs .., Nat.zero_le _, fun u1 n1 => ?_⟩
    have s2 := same_upd (o := .lst []) n1
    have R2 := R.same s2
    refine ne_nil (s2 _ _ hO) upd_same ⟨false, rfl, iteF ?_⟩
    have hl2 := s2 _ _ hl
    generalize upd H u1 (.lst []) = H2 at s2 R2 hl2 ⊢
    obtain ⟨dx2, hp2⟩ := R2.ob
    refine ⟨_, rfl, .ref p, rfl, p, C, dx2, _, _, rfl, hp2, T.cl, T.nN, fl_names .., a5, _, rfl, .inl (.of R2.n), rfl, flat_strs _, false, ?_, iteF ?_⟩
    · show V.bl (inV (.str n) (S.names.map V.str)) = _
      rw [inV_str, decide_eq_false hn]
    obtain ⟨xg, hG, rg⟩ := R2.g
    refine ⟨.ref p, rfl, p, C, dx2, _, _, rfl, hp2, T.cl, T.nG, fl_gates .., a2, _, rfl, .inl (.of hG), rfl, false, ?_, iteF ?_⟩
    · refine congrArg V.bl (decide_eq_false fun e => ?_)
      have e := V.int.inj e
      have := rg.1
      omega
    refine ⟨.ref p, rfl, p, C, dx2, _, _, rfl, hp2, T.cl, T.nG, fl_gates .., .inl ⟨rfl, _, .of hG⟩, _, rfl, .ref p, rfl, p, dx2, _, rfl, hp2, fl_no _ _ _ _ _ (by decide +kernel), .ref l, rfl, p, a1, a2, a3, a4, a5, l, S, g.wires, ws, rfl, R2, hl2, hf, hs, hz, fun t H3 s3 nt3 ht3 => ?_⟩
    refine ⟨_, rfl, rfl, (by show 3 ≤ sizeLine; decide), fun u nu => ?_⟩
    rw [gw_sure]
    have R3 := R2.same s3
    have s4 := same_upd (o := .tup [.str g.kind, .ref t, .bl g.sure]) nu
    have R4 := R3.same s4
    have hG4 := s4 _ _ (s3 _ _ hG)
    have ht4 := s4 _ _ ht3
    refine ⟨a2, _, _, rfl, rfl, hG4, ?_, ?_⟩
    · have := rg.1
      exact size_lt (by omega)
    have R5 := R4.putG hG4 (v := .ref u) (z := g) ⟨u, t, rfl, upd_same, ht4⟩
    have o5 := ((Same.oth (a1 := a1) (a2 := a2) (a3 := a3) (a4 := a4) (a5 := a5) (Same.trans (Same.trans s2 s3) s4))).trans (oth_upd (b := a2) (o := .lst (xg ++ [.ref u])) (.inr (.inl rfl)))
    generalize upd (upd H3 u (.tup [.str g.kind, .ref t, .bl g.sure])) a2 (.lst (xg ++ [.ref u])) = H5 at R5 o5 ⊢
    have R5 : RdAt C H5 p a1 a2 a3 a4 a5 ⟨S.ins, S.gates ++ [g], S.outs, S.wires, S.names⟩ := R5
    obtain ⟨dx5, hp5⟩ := R5.ob
    refine ⟨.ref p, rfl, p, C, dx5, _, _, rfl, hp5, T.cl, T.nN, fl_names .., .inl ⟨rfl, _, .of R5.n⟩, _, rfl, a5, S.names.map V.str, .str n, rfl, rfl, R5.n, ?_, ?_⟩
    · rw [List.length_map]
      have := hs.n
      exact size_lt (by show S.names.length ≤ 100000; omega)
    have R6 := R5.setN (S.names ++ [n])
    have em : (S.names ++ [n]).map V.str = S.names.map V.str ++ [.str n] := by rw [List.map_append]; rfl
    rw [em] at R6
    have o6 := o5.trans (oth_upd (H := H5) (b := a5) (o := .lst (S.names.map V.str ++ [.str n])) (.inr (.inr (.inr (.inr rfl)))))
    generalize upd H5 a5 (.lst (S.names.map V.str ++ [.str n])) = H6 at R6 o6 ⊢
    have R6 : RdAt C H6 p a1 a2 a3 a4 a5 ⟨S.ins, S.gates ++ [g], S.outs, S.wires, S.names ++ [n]⟩ := R6
    obtain ⟨dx6, hp6⟩ := R6.ob
    refine ⟨.ref p, rfl, p, C, dx6, _, _, rfl, hp6, T.cl, T.nW, fl_wires .., a4, _, rfl, R6.w, ?_⟩
    refine ⟨.ref p, rfl, p, C, dx6, _, _, rfl, hp6, T.cl, T.nW, fl_wires .., _, rfl, a4, _, rfl, DPut.k (k := Sum.inr n) R6.w (by rw [kvs_len]; have := hs.w; show S.wires.length < sizeLine; exact size_lt (by omega)), ?_⟩
    have R7 := R6.setW (S.wires ++ [n])
    have ek : putK (kvs S.wires) (Sum.inr n : Key) (V.int ((kvs S.wires).length : Int)) = kvs (S.wires ++ [n]) := by rw [kvs_len]; exact kvs_put hw
    refine q _ ?_ (o6.trans (oth_upd (.inr (.inr (.inr (.inl rfl))))))
    rw [ek]
    exact R7
end
end BF

/-! BFj: out_read, row_read, read. -/
namespace BF
open PySem PySem.Spec PyProof.Rows L2
open C8 (Cal Met Mak pe_c pe_mk pe_mt pe_mt0 pe_gc tCut pss_cut cal0 met0 mak0 fnScope_by)

section
variable {P : Program} {w : World} {K : PySem.W.Frag} {mg : Str → Option Value} {base : Heap} {C aB aW aL : Addr}
def spOutRead (C : Addr) : Sp := fun vs H Q _ => ∃ (p a1 a2 a3 a4 a5 l : Addr) (S : RS) (n : Str) (is : List Nat) (ws : List Str), vs = [.ref p, .str n, .ref l] ∧ RdAt C H p a1 a2 a3 a4 a5 S ∧ H l = some (.lst (ws.map V.str)) ∧ Pre S (.out n is ws) ∧ Small S ∧ ws.length ≤ 1000 ∧
  ∀ H', RdAt C H' p a1 a2 a3 a4 a5 (S.put (.out n is ws)) → Oth a1 a2 a3 a4 a5 H H' → Q .non H'
theorem ok_out_read {f : Addr} {fd : FuncData} (T : Txt K mg w C aB aW aL) (cN : Met P w K mg base 1 C "numbers_of" (spNumbers C) []) (me : Meth K C "out_read" f) (F : C8.Fun K "out_read" "Reading.out_read" sOutRead f fd) (b : Binds K fd ["self", "name", "words"] []) :
    Met P w K mg base 2 C "out_read" (spOutRead C) [] := by
  have sc : FnScope ["self", "name", "words", "out"] ["self", "name", "words"] (C8.fnScope sOutRead) := fnScope_by (by decide +kernel)
  refine met0 T.cl me F b sc (fun vs H Q E h => ?_) (fun cdv A outer s H vs Q E hr h => ?_)
  · obtain ⟨p, a1, a2, a3, a4, a5, l, S, n, is, ws, rfl, _⟩ := h
    rfl
  · obtain ⟨p, a1, a2, a3, a4, a5, l, S, n, is, ws, rfl, R, hl, ⟨hn, h6, hf⟩, hs, hz, q⟩ := h
    have hu := hu_of hr
    refine ⟨_, pss_cons (ps_if (pt_cmpR op_in_seq (pv 1) (pe_lc (own := [("out", 3)]) (g := gName 3) (tt := tYes) (te := tOp (rIxT K) (tVar 3) (tC (.int 0))) rfl sc.nd (pi_list (pe_fld (pv 0) rfl)) (blkOk_by (own := [("out", 3)]) (N := ["self", "name", "words", "out"]) (sc := C8.fnScope sOutRead) (by decide +kernel))
            (fun _ _ _ _ _ => pg_name (i := 3) sc.nd rfl (Or.inl rfl)) (fun _ _ _ _ _ => pts_nil) (fun _ _ _ _ _ => pe_ix ix_tup (pv 3) pe_int (fun _ _ => rfl))) (by rfl)) (pss_one ps_never) pss_nil)
      (pss_cons (ps_if (pt_cmpR op_eq (pe_callB call_len_seq (by rfl) T.len PySem.boot_len (pa_cons (pe_fld (pv 0) rfl) pa_nil)) (pe_gc rfl T.no) (nomark _)) (pss_one ps_never) pss_nil)
      (pss_one (ps_expr (pe_bm PySem.F.plainAttrs_list PySem.F.slot_list_append PySem.F.type_list_append mt_append (pe_fld (pv 0) rfl) (pa_cons (pe_tup (pa_cons (pv 1) (pa_cons (pe_mt cN hr (by decide) (pv 0) (pa_cons (pv 2) pa_nil)) pa_nil))) pa_nil))))), ?_⟩
    obtain ⟨dx, hp⟩ := R.ob
    obtain ⟨xo, hO, ro⟩ := R.o
    refine ⟨_, rfl, .ref p, rfl, p, C, dx, _, _, rfl, hp, T.cl, T.nO, fl_outs .., a3, rfl, ⟨_, .of hO⟩, fun D nD => ?_⟩
    refine lc_list (K := K) (a := a3) (xs := xo) (fun j H3 => Same H H3 ∧ H3 D = some (.lst (((S.outs.take j).map (·.1)).map V.str))) ⟨same_upd nD, upd_same⟩ (fun j H3 _ h => .of (h.1 _ _ hO)) ?_ ?_
    · rintro j v H3 hv ⟨s1, eD⟩
      obtain ⟨o, ho, t, u, rfl, ht, _⟩ := ro.at hv
      refine ⟨rfl, .ref t, rfl, t, _, 0, .str o.1, rfl, rfl, .of (s1 _ _ ht), atI_nat (j := 0) rfl, _, eD, ?_, fun b o' e => ?_, ?_⟩
      · rw [List.length_map, List.length_map, List.length_take]
        exact size_lt (by omega)
      · rw [upd_ne (ne_of_none e nD)]
        exact s1 _ _ e
      · rw [upd_same, take_snoc ho, List.map_append, List.map_append]
        rfl
    rintro H1 ⟨s1, eD⟩
    have el : S.outs.take xo.length = S.outs := List.take_of_length_le (by rw [ro.1]; exact Nat.le_refl _)
    rw [el] at eD
    refine ⟨D, _, rfl, .inl (.of eD), rfl, flat_strs _, false, ?_, iteF ?_⟩
    · show V.bl (inV (.str n) ((S.outs.map (·.1)).map V.str)) = _
      rw [inV_str, decide_eq_false hn]
    have R1 := R.same s1
    have hl1 := s1 _ _ hl
    have hO1 := s1 _ _ hO
    obtain ⟨dx1, hp1⟩ := R1.ob
    refine ⟨.ref p, rfl, p, C, dx1, _, _, rfl, hp1, T.cl, T.nO, fl_outs .., a3, _, rfl, .inl (.of hO1), rfl, false, ?_, iteF ?_⟩
    · refine congrArg V.bl (decide_eq_false fun e => ?_)
      have e := V.int.inj e
      have := ro.1
      omega
    refine ⟨.ref p, rfl, p, C, dx1, _, _, rfl, hp1, T.cl, T.nO, fl_outs .., .inl ⟨rfl, _, .of hO1⟩, _, rfl, .ref p, rfl, p, dx1, _, rfl, hp1, fl_no _ _ _ _ _ (by decide +kernel), .ref l, rfl, p, a1, a2, a3, a4, a5, l, S, is, ws, rfl, R1, hl1, hf, hs, hz, fun t H3 s3 nt3 ht3 => ?_⟩
    refine ⟨(by show 2 ≤ sizeLine; decide), fun u nu => ?_⟩
    have R3 := R1.same s3
    have s4 := same_upd (o := .tup [.str n, .ref t]) nu
    have R4 := R3.same s4
    have hO4 := s4 _ _ (s3 _ _ hO1)
    have ht4 := s4 _ _ ht3
    refine ⟨a3, _, _, rfl, rfl, hO4, ?_, ?_⟩
    · have := ro.1
      exact size_lt (by omega)
    have R5 := R4.putO hO4 (v := .ref u) (z := (n, is)) ⟨u, t, rfl, upd_same, ht4⟩
    exact q _ R5 (((Same.oth (a1 := a1) (a2 := a2) (a3 := a3) (a4 := a4) (a5 := a5) (Same.trans (Same.trans s1 s3) s4))).trans (oth_upd (b := a3) (o := .lst (xo ++ [.ref u])) (.inr (.inr (.inl rfl)))))

def spRowRead (C : Addr) : Sp := fun vs H Q _ => ∃ (p a1 a2 a3 a4 a5 t : Addr) (S : RS) (r : Row), vs = [.ref p, .ref t] ∧ RdAt C H p a1 a2 a3 a4 a5 S ∧ RowAt H t r ∧ Pre S r ∧ Small S ∧ r.Ok ∧
  ∀ H', RdAt C H' p a1 a2 a3 a4 a5 (S.put r) → Oth a1 a2 a3 a4 a5 H H' → Q .non H'
theorem gw_ne_out (s : Bool) : V.bl (decide (V.str (gw s) = V.str ("out" : Str))) = .bl false := by cases s <;> decide +kernel
theorem ok_row_read {f : Addr} {fd : FuncData} (T : Txt K mg w C aB aW aL) (cI : Met P w K mg base 1 C "in_read" (spInRead C) []) (cG : Met P w K mg base 2 C "gate_read" (spGateRead C) []) (cO : Met P w K mg base 2 C "out_read" (spOutRead C) []) (me : Meth K C "row_read" f)
    (F : C8.Fun K "row_read" "Reading.row_read" sRowRead f fd) (b : Binds K fd ["self", "said"] []) : Met P w K mg base 3 C "row_read" (spRowRead C) [] := by
  have sc : FnScope ["self", "said"] ["self", "said"] (C8.fnScope sRowRead) := fnScope_by (by decide +kernel)
  refine met0 T.cl me F b sc (fun vs H Q E h => ?_) (fun cdv A outer s H vs Q E hr h => ?_)
  · obtain ⟨p, a1, a2, a3, a4, a5, t, S, r, rfl, _⟩ := h
    rfl
  · obtain ⟨p, a1, a2, a3, a4, a5, t, S, r, rfl, R, hr1, hp, hs, ho, q⟩ := h
    refine ⟨_, pss_one (ps_if (pt_cmpR op_eq (pe_ix ix_tup (pv 1) pe_int (fun _ _ => rfl)) pe_str (nomark _))
      (pss_one (ps_expr (pe_mt cI hr (by decide) (pv 0) (pa_cons (pe_ix ix_tup (pv 1) pe_int (fun _ _ => rfl)) (pa_cons (pe_ix ix_tup (pv 1) pe_int (fun _ _ => rfl)) pa_nil)))))
      (pss_one (ps_if (pt_cmpR op_eq (pe_ix ix_tup (pv 1) pe_int (fun _ _ => rfl)) pe_str (nomark _))
        (pss_one (ps_expr (pe_mt cO hr (by decide) (pv 0) (pa_cons (pe_ix ix_tup (pv 1) pe_int (fun _ _ => rfl)) (pa_cons (pe_ix ix_tup (pv 1) pe_int (fun _ _ => rfl)) pa_nil)))))
        (pss_one (ps_expr (pe_mt cG hr (by decide) (pv 0) (pa_cons (pe_ix ix_tup (pv 1) pe_int (fun _ _ => rfl)) (pa_cons (pe_ix ix_tup (pv 1) pe_int (fun _ _ => rfl)) (pa_cons (pe_ix ix_tup (pv 1) pe_int (fun _ _ => rfl)) (pa_cons (pe_ix ix_tup (pv 1) pe_int (fun _ _ => rfl)) pa_nil)))))))))), ?_⟩
    obtain ⟨dx, hob⟩ := R.ob
    cases r with
    | inn z =>
      have ht : H t = some (.tup [.str ("in" : Str), .str z.1, .int (z.2 : Int)]) := hr1
      obtain ⟨h1, h2, h3⟩ := ho
      refine ⟨.ref t, rfl, t, _, 0, _, rfl, rfl, .of ht, atI_nat (j := 0) rfl, rfl, true, in_in, iteT ?_⟩
      refine ⟨.ref p, rfl, p, dx, _, rfl, hob, fl_no _ _ _ _ _ (by decide +kernel), .ref t, rfl, t, _, 1, _, rfl, rfl, .of ht, atI_nat (j := 1) rfl, .ref t, rfl, t, _, 2, _, rfl, rfl, .of ht, atI_nat (j := 2) rfl, ?_⟩
      exact ⟨p, a1, a2, a3, a4, a5, S, z, rfl, R, hp, hs, h1.l8, h2, h3, fun H' R' o' => q H' R' o'⟩
    | gate g n ws =>
      obtain ⟨l, ht, hl⟩ := hr1
      obtain ⟨h1, h2, h3, h4⟩ := ho
      have k3 := kind_legs h2
      refine ⟨.ref t, rfl, t, _, 0, _, rfl, rfl, .of ht, atI_nat (j := 0) rfl, rfl, false, gw_ne_in _, iteF ?_⟩
      refine ⟨.ref t, rfl, t, _, 0, _, rfl, rfl, .of ht, atI_nat (j := 0) rfl, rfl, false, gw_ne_out _, iteF ?_⟩
      refine ⟨.ref p, rfl, p, dx, _, rfl, hob, fl_no _ _ _ _ _ (by decide +kernel), .ref t, rfl, t, _, 0, _, rfl, rfl, .of ht, atI_nat (j := 0) rfl, .ref t, rfl, t, _, 1, _, rfl, rfl, .of ht, atI_nat (j := 1) rfl,
        .ref t, rfl, t, _, 2, _, rfl, rfl, .of ht, atI_nat (j := 2) rfl, .ref t, rfl, t, _, 3, _, rfl, rfl, .of ht, atI_nat (j := 3) rfl, ?_⟩
      exact ⟨p, a1, a2, a3, a4, a5, l, S, g, n, ws, rfl, R, hl, hp, hs, by omega, fun H' R' o' => q H' R' o'⟩
    | out n is ws =>
      obtain ⟨l, ht, hl⟩ := hr1
      obtain ⟨h1, h2, h3, h4⟩ := ho
      refine ⟨.ref t, rfl, t, _, 0, _, rfl, rfl, .of ht, atI_nat (j := 0) rfl, rfl, false, out_ne_in, iteF ?_⟩
      refine ⟨.ref t, rfl, t, _, 0, _, rfl, rfl, .of ht, atI_nat (j := 0) rfl, rfl, true, out_out, iteT ?_⟩
      refine ⟨.ref p, rfl, p, dx, _, rfl, hob, fl_no _ _ _ _ _ (by decide +kernel), .ref t, rfl, t, _, 1, _, rfl, rfl, .of ht, atI_nat (j := 1) rfl, .ref t, rfl, t, _, 2, _, rfl, rfl, .of ht, atI_nat (j := 2) rfl, ?_⟩
      exact ⟨p, a1, a2, a3, a4, a5, l, S, n, is, ws, rfl, R, hl, hp, hs, by omega, fun H' R' o' => q H' R' o'⟩

/-- the text of a net -/
def textOf (N : Net) (gn : List Str) : Str := Txt.join ("\n" : Str) ((rowsR N gn).map Row.text)
def spRead : Sp := fun vs H Q _ => ∃ (N : Net) (gn : List Str), vs = [.str (textOf N gn)] ∧ GoodNet N ∧ GoodGN N gn ∧ ∀ t a b c H', Same H H' → NetAt H' t a b c N → Q (.ref t) H'
theorem eqv_cons (d : PyData) (ds : List PyData) : PyData.eqv (.list (d :: ds)) (.list []) = false := by simp [PyData.eqv, PyData.eqvAll]
theorem eqv_ne {α : Type} {l : List α} {f : α → PyData} (h : 1 ≤ l.length) : PyData.eqv (.list (l.map f)) (.list []) = false := by
  cases l with
  | nil => simp at h
  | cons x r => exact eqv_cons _ _
theorem ok_read {f : Addr} {fd : FuncData} (T : Txt K mg w C aB aW aL) (cM : Mak P w K mg base 1 "Reading" C (spInit C) []) (cT : Cal P w K mg base 3 "row_told" spRowTold []) (cR : Met P w K mg base 3 C "row_read" (spRowRead C) []) (F : C8.Def K mg "read" sRead f fd) (b : Binds K fd ["text"] []) :
    Cal P w K mg base 4 "read" spRead [] := by
  have sc : FnScope ["text", "rows", "reading", "row"] ["text"] (C8.fnScope sRead) := fnScope_by (by decide +kernel)
  refine cal0 F b .nil sc (fun vs H Q E h => ?_) (fun cdv A outer s H vs Q E hr h => ?_)
  · obtain ⟨N, gn, rfl, _⟩ := h
    rfl
  · obtain ⟨N, gn, rfl, G, GG, q⟩ := h
    obtain ⟨fI, fdI, psI, dsI, mk, FI, mgI, bI, dI⟩ := cM.ex
    refine ⟨_, pss_cons (ps_set (i := 1) sc.nd rfl (.inl rfl) (pe_split (pv 0) pe_str))
      (pss_cons (ps_if (pt_cmpR op_gt (pe_callB call_len_seq (by rfl) T.len PySem.boot_len (pa_cons (pv 1) pa_nil)) (pe_gc rfl T.n80) (nomark _)) (pss_one ps_never) pss_nil)
      (pss_cons (ps_set (i := 2) sc.nd rfl (.inl rfl) (pe_make0 mk FI (hr.mono (by decide)) rfl mgI bI dI (C8.pass0 (E := C8.E0))))
      (pss_cons (ps_for PassesOwn.never rfl (pi_list (pv 1)) (pg_name (i := 3) sc.nd rfl (.inl rfl)) (pss_one (ps_expr (pe_mt cR hr (by decide) (pv 2) (pa_cons (pe_c cT hr (by decide) rfl (pa_cons (pv 3) pa_nil)) pa_nil)))))
      (pss_cons (ps_if (PW.pt (pw_or (pt_cmpR (op_eqD hr.units) (pe_fld (pv 2) rfl) (pe_lst pa_nil) (nomark _)) (pw_or1 (pt_cmpR (op_eqD hr.units) (pe_fld (pv 2) rfl) (pe_lst pa_nil) (nomark _))))) (pss_one ps_never) pss_nil)
      (pss_one (ps_ret (pe_tup (pa_cons (pe_fld (pv 2) rfl) (pa_cons (pe_fld (pv 2) rfl) (pa_cons (pe_fld (pv 2) rfl) pa_nil)))))))))), ?_⟩
    have hok := rows_ok G GG
    have hlen := rows_len N gn GG.len
    have i1 := G.i1
    have i6 := G.i6
    have g60 := G.g60
    have o1 := G.o1
    have o6 := G.o6
    have h0 : rowsR N gn ≠ [] := fun e => by
      rw [e] at hlen
      simp at hlen
      omega
    have tl := texts_len hok
    refine ⟨_, rfl, ⟨_, rfl⟩, textOf N gn, ("\n" : Str), rfl, rfl, (by decide +kernel), size_ok (by unfold textOf; omega), fun r nr => ?_⟩
    rw [show Txt.split (textOf N gn) ("\n" : Str) = (rowsR N gn).map Row.text from texts_split h0 hok]
    have s1 := same_upd (o := .lst (((rowsR N gn).map Row.text).map V.str)) nr
    have hR1 : (upd H r (.lst (((rowsR N gn).map Row.text).map V.str))) r = some (.lst (((rowsR N gn).map Row.text).map V.str)) := upd_same
    generalize upd H r (.lst (((rowsR N gn).map Row.text).map V.str)) = H1 at s1 hR1 ⊢
    refine ⟨.ref r, rfl, r, _, rfl, .inl (.of hR1), _, _, rfl, rfl, false, ?_, iteF ?_⟩
    · refine congrArg V.bl (decide_eq_false ?_)
      rw [List.length_map, List.length_map, hlen]
      omega
    intro p dx np ndx nex
    refine ⟨p, dx, rfl, upd_same, fun a1 a2 a3 a4 a5 H2 n1 n2 n3 n4 n5 R2 k2 => ⟨rfl, ?_⟩⟩
    have s2 : Same H1 H2 := fun b o e => k2 b o (by rw [upd_ne (ne_of_none e np), upd_ne (ne_of_none e ndx)]; exact e) (ne_of_none e np)
    have nr1 : r ≠ a1 := ne_of_none hR1 (un (un n1).2).2
    have nr2 : r ≠ a2 := ne_of_none hR1 (un (un n2).2).2
    have nr3 : r ≠ a3 := ne_of_none hR1 (un (un n3).2).2
    have nr4 : r ≠ a4 := ne_of_none hR1 (un (un n4).2).2
    have nr5 : r ≠ a5 := ne_of_none hR1 (un (un n5).2).2
    have oth : ∀ {Ha Hb : Hp}, Same H1 Ha → Oth a1 a2 a3 a4 a5 Ha Hb → Same H1 Hb := fun sa o b u e =>
      o b u (sa b u e) (ne_of_none e (un (un n1).2).2) (ne_of_none e (un (un n2).2).2) (ne_of_none e (un (un n3).2).2) (ne_of_none e (un (un n4).2).2) (ne_of_none e (un (un n5).2).2)
    refine ⟨.ref r, rfl, r, rfl, ⟨_, .of (s2 _ _ hR1)⟩, for_list (K := K) (a := r) (xs := ((rowsR N gn).map Row.text).map V.str)
      (fun i σ H3 => ∃ y, σ = [some (.str (textOf N gn)), some (.ref r), some (.ref p), y] ∧ Same H1 H3 ∧ RdAt C H3 p a1 a2 a3 a4 a5 (stAt N gn i)) ⟨none, rfl, s2, by rw [stAt_zero]; exact R2⟩ (fun i σ H3 _ ⟨_, _, s3, _⟩ => .of (s3 _ _ hR1)) ?_ ?_⟩
    · rintro i v σ H3 hv ⟨y, rfl, s3, R3⟩
      rw [List.getElem?_map, List.getElem?_map] at hv
      obtain ⟨x, hx, rfl⟩ := Option.map_eq_some_iff.mp hv
      obtain ⟨rw', hr', rfl⟩ := Option.map_eq_some_iff.mp hx
      have ho := hok rw' (List.mem_of_getElem? hr')
      obtain ⟨hpre, hput⟩ := step_ok G GG hr'
      obtain ⟨dx3, hob⟩ := R3.ob
      refine ⟨.ref p, rfl, p, dx3, _, rfl, hob, fl_no _ _ _ _ _ (by decide +kernel), .str rw'.text, rfl, rw', rfl, ho, fun t H4 s4 nt ht => ?_⟩
      refine ⟨p, a1, a2, a3, a4, a5, t, _, rw', rfl, R3.same s4, ht, hpre, stAt_small G GG i, ho, fun H5 R5 o5 => ?_⟩
      rw [hput] at R5
      exact ⟨_, rfl, oth (Same.trans s3 s4) o5, R5⟩
    · rintro σ H3 ⟨y, rfl, s3, R3⟩
      rw [List.length_map, List.length_map] at R3
      obtain ⟨e1, e2, e3⟩ := stAt_end (N := N) (gn := gn) GG.len
      have hI : InsAt H3 a1 N.ins := by
        have := R3.i
        rw [e1] at this
        exact this
      have hG : GatesAt H3 a2 N.gates := by
        have := R3.g
        rw [e2] at this
        exact this
      have hO : OutsAt H3 a3 N.outs := by
        have := R3.o
        rw [e3] at this
        exact this
      obtain ⟨dx3, hob⟩ := R3.ob
      refine ⟨.ref p, rfl, p, C, dx3, _, _, rfl, hob, T.cl, T.nI, fl_ins .., Nat.zero_le _, fun u nu => ?_⟩
      have s4 := same_upd (o := .lst []) nu
      refine ⟨_, .list [], (hI.same s4).dp, .lst (.of upd_same) .nil, (sh_ins G.inm).ok (by decide), by decide, false, congrArg V.bl (eqv_ne i1), iteF ?_⟩
      refine ⟨.ref p, rfl, p, C, dx3, _, _, rfl, s4 _ _ hob, T.cl, T.nO, fl_outs .., Nat.zero_le _, fun u2 nu2 => ?_⟩
      have s5 := same_upd (o := .lst []) nu2
      have s45 := Same.trans s4 s5
      refine ⟨_, .list [], (hO.same s45).dp, .lst (.of upd_same) .nil, (sh_outs G.onm).ok (by decide), by decide, false, congrArg V.bl (eqv_ne o1), iteF ?_⟩
      have hob5 := s45 _ _ hob
      refine ⟨.ref p, rfl, p, C, dx3, _, _, rfl, hob5, T.cl, T.nI, fl_ins .., .ref p, rfl, p, C, dx3, _, _, rfl, hob5, T.cl, T.nG, fl_gates .., .ref p, rfl, p, C, dx3, _, _, rfl, hob5, T.cl, T.nO, fl_outs .., (by show 3 ≤ sizeLine; decide), fun t nt => ?_⟩
      have s6 := Same.trans s45 (same_upd (o := .tup [.ref a1, .ref a2, .ref a3]) nt)
      exact q t a1 a2 a3 _ (Same.trans s1 (Same.trans s3 s6)) ⟨upd_same, hI.same s6, hG.same s6, hO.same s6⟩
end
end BF

/-! BFk: the law's _law_cell_at, _law_stir, _law_wires, _law_gate. -/
namespace BF
open PySem PySem.Spec PyProof.Rows L2
open C8 (Cal Met Mak pe_c pe_mk pe_mt pe_mt0 pe_gc tCut pss_cut cal0 met0 mak0 fnScope_by)

theorem nat_of {x : Int} (h : 0 ≤ x) : ∃ n : Nat, x = (n : Int) := Int.eq_ofNat_of_zero_le h
theorem nat_mod {x c : Int} (h : 0 < c) : ∃ n : Nat, x % c = (n : Int) ∧ (n : Int) < c := by
  obtain ⟨n, e⟩ := nat_of (Int.emod_nonneg x (by omega : c ≠ 0))
  exact ⟨n, e, by have := Int.emod_lt_of_pos x h; omega⟩
theorem nat_div (n : Nat) (c : Nat) : ((n : Int) / (c : Int)) = ((n / c : Nat) : Int) := (Int.natCast_ediv n c).symm
section
variable {P : Program} {w : World} {K : PySem.W.Frag} {mg : Str → Option Value} {base : Heap} {C aB aW aL : Addr}
def spCell (K : PySem.W.Frag) : Sp := fun vs H Q _ => ∃ (a : Addr) (ns : List Int) (k : Nat), vs = [.ref a, .int (k : Int)] ∧ SqL K H a (ns.map V.int) ∧ ∀ n : Int, Q (.int n) H
theorem ok_cell {f : Addr} {fd : FuncData} (T : Txt K mg w C aB aW aL) (F : C8.Def K mg "_law_cell_at" sCell f fd) (b : Binds K fd ["script", "k"] []) : Cal P w K mg base 1 "_law_cell_at" (spCell K) [] := by
  have sc : FnScope ["script", "k"] ["script", "k"] (C8.fnScope sCell) := fnScope_by (by decide +kernel)
  refine cal0 F b .nil sc (fun vs H Q E h => ?_) (fun cdv A outer s H vs Q E hr h => ?_)
  · obtain ⟨a, ns, k, rfl, _⟩ := h
    rfl
  · obtain ⟨a, ns, k, rfl, hS, q⟩ := h
    refine ⟨_, pss_cons (ps_if (pt_cmpR op_lt (pv 1) (pe_callB call_len_seq (by rfl) T.len PySem.boot_len (pa_cons (pv 0) pa_nil)) (nomark _)) (pss_one (ps_ret (pe_ix ix_list (pv 0) (pv 1) (fun _ _ => rfl)))) pss_nil)
      (pss_one (ps_ret pe_int)), ?_⟩
    refine ⟨_, rfl, .ref a, rfl, a, _, rfl, .inl hS, _, _, rfl, rfl, _, rfl, ite2 (fun e => ?_) (fun e => ?_)⟩
    · have e : (k : Int) < ((ns.map V.int).length : Int) := of_decide_eq_true e
      rw [List.length_map] at e
      have hk : k < ns.length := by omega
      refine ⟨.ref a, rfl, _, rfl, a, _, _, .int ns[k], rfl, rfl, hS, atI_nat (j := k) ?_, q _⟩
      rw [List.getElem?_map, List.getElem?_eq_getElem hk]
      rfl
    · exact q 0
def spStir : Sp := fun vs H Q _ => ∃ (c : Int) (k : Nat), vs = [.int c, .int (k : Int)] ∧ k ≤ 100000 ∧ ∀ n : Nat, Q (.int (n : Int)) H
theorem ok_stir {f : Addr} {fd : FuncData} (F : C8.Def K mg "_law_stir" sStir f fd) (b : Binds K fd ["cell", "k"] []) : Cal P w K mg base 1 "_law_stir" spStir [] := by
  have sc : FnScope ["cell", "k", "number"] ["cell", "k"] (C8.fnScope sStir) := fnScope_by (by decide +kernel)
  refine cal0 F b .nil sc (fun vs H Q E h => ?_) (fun cdv A outer s H vs Q E hr h => ?_)
  · obtain ⟨c, k, rfl, _⟩ := h
    rfl
  · obtain ⟨c, k, rfl, hk, q⟩ := h
    refine ⟨_, pss_cons (ps_if (pt_cmpR op_ge (pv 0) (pe_op op_pow pe_int pe_int) (nomark _))
        (pss_one (ps_ret (pe_op op_mod (pe_op op_shr (pe_op op_sub (pv 0) (pe_op op_pow pe_int pe_int)) (pe_op op_mul pe_int (pv 1))) (pe_op op_pow pe_int pe_int)))) pss_nil)
      (pss_cons (ps_set (i := 2) sc.nd rfl (.inl rfl) (pe_op op_mod (pe_op op_mul (pe_op op_add (pe_op op_add (pv 0) (pe_op op_mul pe_int (pv 1))) pe_int) pe_int) pe_int))
      (pss_cons (ps_set (i := 2) sc.nd rfl (.inl rfl) (pe_op op_mod (pe_op op_mul (pv 2) (pv 2)) pe_int))
      (pss_one (ps_ret (pe_op op_fdiv (pe_op op_mod (pe_op op_mul (pv 2) pe_int) pe_int) pe_int))))), ?_⟩
    have c18 : CPow 10 18 := ⟨by decide, by decide, by decide⟩
    have c28 : CPow 2 28 := ⟨by decide, by decide, by decide⟩
    refine ⟨_, rfl, 10, 18, rfl, rfl, c18, _, _, rfl, rfl, _, rfl, ite2 (fun _ => ?_) (fun _ => ?_)⟩
    · refine ⟨_, rfl, 10, 18, rfl, rfl, c18, _, _, rfl, rfl, _, rfl, 28, (k : Int), rfl, rfl, .inl ⟨by decide, by decide⟩, _, _, rfl, rfl, (by omega), 2, 28, rfl, rfl, c28, _, _, rfl, rfl, (by show (0 : Int) < 2 ^ (28 : Int).toNat; decide), ?_⟩
      have hp : (0 : Int) < 2 ^ (28 : Int).toNat := by decide
      obtain ⟨n, e, _⟩ := nat_mod (x := (c - 10 ^ (18 : Int).toNat) / 2 ^ (28 * (k : Int)).toNat) hp
      show Q (.int (((c - 10 ^ (18 : Int).toNat) / 2 ^ (28 * (k : Int)).toNat) % 2 ^ (28 : Int).toNat)) H
      rw [e]
      exact q n
    · refine ⟨_, rfl, _, rfl, 1013, (k : Int), rfl, rfl, .inl ⟨by decide, by decide⟩, _, _, rfl, rfl, _, _, rfl, rfl, _, _, rfl, rfl, .inr ⟨by decide, by decide⟩, _, _, rfl, rfl, (by show (0 : Int) < 2147483647; decide), ?_⟩
      obtain ⟨n1, e1, l1⟩ := nat_mod (x := (c + 1013 * (k : Int) + 1) * 16807) (by decide : (0 : Int) < 2147483647)
      refine ⟨_, rfl, _, rfl, _, _, rfl, rfl, .inl ⟨?_, ?_⟩, _, _, rfl, rfl, (by show (0 : Int) < 2147483629; decide), ?_⟩
      · rw [e1]
        omega
      · rw [e1]
        omega
      generalize (c + 1013 * (k : Int) + 1) * 16807 % 2147483647 = x1
      refine ⟨_, rfl, _, _, rfl, rfl, .inr ⟨by decide, by decide⟩, _, _, rfl, rfl, (by show (0 : Int) < 2147483587; decide), _, _, rfl, rfl, ⟨by decide, by decide⟩, ?_⟩
      obtain ⟨n2, e2, l2⟩ := nat_mod (x := x1 * x1 % 2147483629 * 39373) (by decide : (0 : Int) < 2147483587)
      show Q (.int (x1 * x1 % 2147483629 * 39373 % 2147483587 / 8)) H
      rw [e2, show ((n2 : Int) / 8) = ((n2 / 8 : Nat) : Int) from nat_div n2 8]
      exact q _

theorem atI_int {xs : List V} {i : Int} {j : Nat} {v : V} (e : i = (j : Int)) (h : xs[j]? = some v) : atI xs i = some v := by
  rw [e]
  exact atI_nat h
def spWires : Sp := fun vs H Q _ => ∃ (c : Int) (k m n : Nat), vs = [.int c, .int (k : Int), .int (m : Int), .int (n : Int)] ∧ k ≤ 10000 ∧ m ≤ 100 ∧ 1 ≤ n ∧
  ∀ is t H', is.length = m → (∀ i ∈ is, i < n) → Same H H' → H' t = some (.tup (nums is)) → Q (.ref t) H'
theorem ok_wires {f : Addr} {fd : FuncData} (T : Txt K mg w C aB aW aL) (c1 : Cal P w K mg base 1 "_law_stir" spStir []) (F : C8.Def K mg "_law_wires" sWires f fd) (b : Binds K fd ["cell", "k", "many", "count"] []) : Cal P w K mg base 2 "_law_wires" spWires [] := by
  have sc : FnScope ["cell", "k", "many", "count", "found", "j", "number"] ["cell", "k", "many", "count"] (C8.fnScope sWires) := fnScope_by (by decide +kernel)
  refine cal0 F b .nil sc (fun vs H Q E h => ?_) (fun cdv A outer s H vs Q E hr h => ?_)
  · obtain ⟨c, k, m, n, rfl, _⟩ := h
    rfl
  · obtain ⟨c, k, m, n, rfl, hk, hm, hn, q⟩ := h
    refine ⟨_, pss_cons (ps_set (i := 4) sc.nd rfl (.inl rfl) (pe_lst pa_nil))
      (pss_cons (ps_for PassesOwn.never rfl (pi_range1 (by rfl) T.range (pa_cons (pv 2) pa_nil)) (pg_name (i := 5) sc.nd rfl (.inl rfl))
        (pss_cons (ps_set (i := 6) sc.nd rfl (.inl rfl) (pe_c c1 hr (by decide) rfl (pa_cons (pv 0) (pa_cons (pe_op op_add (pv 1) (pv 5)) pa_nil))))
        (pss_one (ps_expr (pe_bm PySem.F.plainAttrs_list PySem.F.slot_list_append PySem.F.type_list_append mt_append (pv 4)
          (pa_cons (pe_ix ix_list (pe_lst (pa_cons (pe_op op_mod (pe_op op_fdiv (pv 6) pe_int) (pv 3))
            (pa_cons (pe_op op_sub (pe_op op_sub (pv 3) pe_int) (pe_op op_mod (pe_op op_fdiv (pv 6) pe_int) (pe_callB (call_min2 rfl) (by rfl) T.min (by decide +kernel) (pa_cons (pv 3) (pa_cons pe_int pa_nil))))) pa_nil)))
            (pe_callTy call_int1 (by rfl) T.int (by decide +kernel) (pa_cons (pe_cmpR op_gt (pe_op op_mod (pv 6) pe_int) pe_int (nomark _)) pa_nil)) (fun _ _ => rfl)) pa_nil))))))
      (pss_one (ps_ret (pe_callTy call_tuple_of (by rfl) T.tuple (by decide +kernel) (pa_cons (pv 4) pa_nil))))), ?_⟩
    refine ⟨Nat.zero_le _, fun F nF => ?_⟩
    have s1 := same_upd (o := .lst []) nF
    refine ⟨_, rfl, (m : Int), rfl, by omega, by omega, ?_⟩
    rw [Int.toNat_natCast]
    refine for_it (walk_range (lo := 0) (n := m)) (fun i σ H2 => ∃ (is : List Nat) (y5 y6 : Option V), σ = [some (.int c), some (.int (k : Int)), some (.int (m : Int)), some (.int (n : Int)), some (.ref F), y5, y6] ∧
      Same H H2 ∧ H2 F = some (.lst (nums is)) ∧ is.length = i ∧ ∀ j ∈ is, j < n) ⟨[], none, none, rfl, s1, upd_same, rfl, fun _ h => by cases h⟩ (fun _ _ _ _ _ => trivial) ?_ ?_
    · rintro i v σ H2 H2' hi ⟨is, y5, y6, rfl, s2, eF, el, hlt⟩ ⟨e2, ev⟩
      subst e2 ev
      refine ⟨_, rfl, _, rfl, _, rfl, _, _, rfl, rfl, c, k + i, ?_, by omega, fun r => ?_⟩
      · show [V.int c, V.int ((k : Int) + (0 + (i : Int)))] = _
        rw [Int.zero_add, Int.natCast_add]
      refine ⟨.ref F, rfl, .inl ⟨rfl, _, .of eF⟩, _, rfl, _, _, rfl, rfl, ⟨by decide, by decide⟩, _, rfl, _, _, rfl, rfl, (by omega),
        _, rfl, _, _, rfl, rfl, _, rfl, _, _, rfl, rfl, ⟨by decide, by decide⟩, _, rfl, _, _, rfl, _, _, rfl, rfl, ?_, _, _, rfl, rfl, (by show 2 ≤ sizeLine; decide), fun l nl => ?_⟩
      · split <;> omega
      have s3 := same_upd (o := .lst [.int ((r : Int) / 4 % (n : Int)), .int ((n : Int) - 1 - (r : Int) / 4 % (if (6 : Int) < (n : Int) then (6 : Int) else (n : Int)))]) nl
      have eF3 := s3 _ _ eF
      have fin : ∀ (z : Nat), z < n → ∃ (l' : Addr) (xs : List V) (y : V), V.ref F = V.ref l' ∧ [V.int (z : Int)] = [y] ∧ (upd H2' l (.lst [.int ((r : Int) / 4 % (n : Int)), .int ((n : Int) - 1 - (r : Int) / 4 % (if (6 : Int) < (n : Int) then (6 : Int) else (n : Int)))])) l' = some (.lst xs) ∧ xs.length < sizeLine ∧
          (fun _ H' => ∃ (is : List Nat) (y5 y6 : Option V), (([some (.int c), some (.int (k : Int)), some (.int (m : Int)), some (.int (n : Int)), some (.ref F), some (.int (0 + (i : Int))), some (.int (r : Int))] : L2.St) = [some (.int c), some (.int (k : Int)), some (.int (m : Int)), some (.int (n : Int)), some (.ref F), y5, y6]) ∧
            Same H H' ∧ H' F = some (.lst (nums is)) ∧ is.length = i + 1 ∧ ∀ j ∈ is, j < n) V.non (upd (upd H2' l (.lst [.int ((r : Int) / 4 % (n : Int)), .int ((n : Int) - 1 - (r : Int) / 4 % (if (6 : Int) < (n : Int) then (6 : Int) else (n : Int)))])) l' (.lst (xs ++ [y]))) := fun z hz => by
        refine ⟨F, _, .int (z : Int), rfl, rfl, eF3, ?_, is ++ [z], _, _, rfl, fun b o e => ?_, ?_, ?_, ?_⟩
        · unfold nums
          rw [List.length_map]
          exact size_lt (by omega)
        · rw [upd_ne (ne_of_none e nF)]
          exact s3 _ _ (s2 _ _ e)
        · rw [upd_same]
          unfold nums
          rw [List.map_append]
          rfl
        · rw [List.length_append, el]
          rfl
        · intro j hj
          rcases List.mem_append.mp hj with hj | hj
          · exact hlt j hj
          · rw [List.mem_singleton.mp hj]
            exact hz
      refine ⟨_, rfl, _, _, rfl, rfl, (by show (0 : Int) < 4; decide), _, _, rfl, rfl, .inr ⟨_, rfl, ?_⟩⟩
      by_cases hc : (0 : Int) < (r : Int) % 4
      · have hd : decide ((0 : Int) < (r : Int) % 4) = true := decide_eq_true hc
        rw [hd]
        obtain ⟨z, ez, lz⟩ := nat_mod (x := (r : Int) / 4) (c := if (6 : Int) < (n : Int) then (6 : Int) else (n : Int)) (by split <;> omega)
        have hz : ((n : Int) - 1 - (r : Int) / 4 % (if (6 : Int) < (n : Int) then (6 : Int) else (n : Int))) = ((n - 1 - z : Nat) : Int) := by
          rw [ez]
          split at lz <;> omega
        refine ⟨l, _, 1, .int ((n - 1 - z : Nat) : Int), rfl, rfl, .of upd_same, ?_, ?_⟩
        · refine atI_int (j := 1) rfl ?_
          exact congrArg (fun z => some (V.int z)) hz
        · exact fin _ (by omega)
      · have hd : decide ((0 : Int) < (r : Int) % 4) = false := decide_eq_false hc
        rw [hd]
        obtain ⟨z, ez, lz⟩ := nat_mod (x := (r : Int) / 4) (c := (n : Int)) (by omega)
        refine ⟨l, _, 0, .int (z : Int), rfl, rfl, .of upd_same, ?_, ?_⟩
        · refine atI_int (j := 0) rfl ?_
          exact congrArg (fun z => some (V.int z)) ez
        · exact fin _ (by omega)
    · rintro σ H2 ⟨is, y5, y6, rfl, s2, eF, el, hlt⟩
      refine ⟨.ref F, rfl, F, _, rfl, .inl ⟨.of eF, fun t nt => ?_⟩⟩
      exact q is t _ el hlt (Same.trans s2 (same_upd nt)) upd_same
end
end BF

/-! BFl: the law's _law_gate, _law_names. -/
namespace BF
open PySem PySem.Spec PyProof.Rows L2
open C8 (Cal Met Mak pe_c pe_mk pe_mt pe_mt0 pe_gc tCut pss_cut cal0 met0 mak0 fnScope_by)

def kindL : List Str := ["and", "or", "xor", "vote", "not", "and", "xor", "vote"]
theorem kindL_ok : ∀ x ∈ kindL, x ∈ kinds := by
  have h : kindL.all (fun x => decide (x ∈ kinds)) = true := by decide +kernel
  exact fun x hx => of_decide_eq_true (List.all_eq_true.mp h x hx)
def legD : List (Key × V) := mergeK [] [((Sum.inr ("not" : Str) : Key), V.int 1), (Sum.inr ("vote" : Str), V.int 3)]
theorem legD_ok {k : Str} (h : k ∈ kinds) : (valV legD (Sum.inr k : Key)).getD (.int 2) = .int ((legs k : Nat) : Int) := by
  rcases kinds_cases h with rfl | rfl | rfl | rfl | rfl <;> decide +kernel
section
variable {P : Program} {w : World} {K : PySem.W.Frag} {mg : Str → Option Value} {base : Heap} {C aB aW aL : Addr}
def spGate : Sp := fun vs H Q _ => ∃ (c : Int) (n : Nat), vs = [.int c, .int (n : Int)] ∧ 1 ≤ n ∧ ∀ g t H', GG n g → Same H H' → GateAt H' (.ref t) g → Q (.ref t) H'
theorem ok_gate {f : Addr} {fd : FuncData} (c1 : Cal P w K mg base 1 "_law_stir" spStir []) (c2 : Cal P w K mg base 2 "_law_wires" spWires []) (F : C8.Def K mg "_law_gate" sGate f fd) (b : Binds K fd ["cell", "count"] []) : Cal P w K mg base 3 "_law_gate" spGate [] := by
  have sc : FnScope ["cell", "count", "number", "kind", "many"] ["cell", "count"] (C8.fnScope sGate) := fnScope_by (by decide +kernel)
  refine cal0 F b .nil sc (fun vs H Q E h => ?_) (fun cdv A outer s H vs Q E hr h => ?_)
  · obtain ⟨c, n, rfl, _⟩ := h
    rfl
  · obtain ⟨c, n, rfl, hn, q⟩ := h
    have hu := hu_of hr
    refine ⟨_, pss_cons (ps_set (i := 2) sc.nd rfl (.inl rfl) (pe_c c1 hr (by decide) rfl (pa_cons (pv 0) (pa_cons pe_int pa_nil))))
      (pss_cons (ps_set (i := 3) sc.nd rfl (.inl rfl) (pe_ix ix_list (pe_lst (pa_cons pe_str (pa_cons pe_str (pa_cons pe_str (pa_cons pe_str (pa_cons pe_str (pa_cons pe_str (pa_cons pe_str (pa_cons pe_str pa_nil))))))))) (pe_op op_mod (pv 2) pe_int) (fun _ _ => rfl)))
      (pss_cons (ps_set (i := 4) sc.nd rfl (.inl rfl) (pe_dget2 (by exact hu) (pe_disp (pps_cons pe_str pe_int (pps_cons pe_str pe_int pps_nil)) (by rfl) (by rfl) (fun z => by cases z) (by decide)) (pv 3) pe_int ⟨rfl, rfl, rfl, rfl⟩))
      (pss_one (ps_ret (pe_tup (pa_cons (pv 3) (pa_cons (pe_c c2 hr (by decide) rfl (pa_cons (pv 0) (pa_cons pe_int (pa_cons (pv 4) (pa_cons (pv 1) pa_nil)))))
        (pa_cons (pe_cmpR op_eq (pe_op op_mod (pe_op op_fdiv (pv 2) pe_int) pe_int) pe_int (nomark _)) pa_nil)))))))), ?_⟩
    refine ⟨_, rfl, c, 0, rfl, by decide, fun r => ?_⟩
    refine ⟨(by show 8 ≤ sizeLine; decide), fun l nl => ?_⟩
    have s1 := same_upd (o := .lst (kindL.map V.str)) nl
    obtain ⟨z, ez, lz⟩ := nat_mod (x := (r : Int)) (by decide : (0 : Int) < 8)
    have hz : z < kindL.length := by show z < 8; omega
    have hk : kindL[z] ∈ kinds := kindL_ok _ (List.getElem_mem hz)
    refine ⟨_, rfl, _, _, rfl, rfl, (by show (0 : Int) < 8; decide), l, kindL.map V.str, _, .str kindL[z], rfl, rfl, .of upd_same, atI_int ez ?_, ?_⟩
    · exact at_str (List.getElem?_eq_getElem hz)
    have hup : upd H l (.lst [V.str ("and" : Str), V.str ("or" : Str), V.str ("xor" : Str), V.str ("vote" : Str), V.str ("not" : Str), V.str ("and" : Str), V.str ("xor" : Str), V.str ("vote" : Str)]) = upd H l (.lst (kindL.map V.str)) := rfl
    show tSeq _ _ _ _ (upd H l (.lst (kindL.map V.str)))
    generalize upd H l (.lst (kindL.map V.str)) = H1 at s1 ⊢
    generalize kindL[z] = kd at hk ⊢
    refine fun p np => ⟨upd_same, [((Sum.inr ("not" : Str) : Key), V.int 1), (Sum.inr ("vote" : Str), V.int 3)], rfl, by decide, p, rfl, .inl ⟨_, .inl upd_same⟩, .str kd, rfl, _, DGet.k (k := Sum.inr kd) upd_same, ?_⟩
    have e2 := legD_ok hk
    unfold legD at e2
    rw [e2, upd_upd]
    have s2 : Same H1 (upd H1 p (.dK (mergeK [] [((Sum.inr ("not" : Str) : Key), V.int 1), (Sum.inr ("vote" : Str), V.int 3)]))) := same_upd np
    have kl := kind_legs hk
    refine ⟨.str kd, rfl, _, rfl, _, rfl, _, rfl, c, 1, legs kd, n, rfl, by decide, by omega, hn, fun is t H3 hl hlt s3 ht => ?_⟩
    refine ⟨_, rfl, _, _, rfl, rfl, ⟨by decide, by decide⟩, _, _, rfl, rfl, (by show (0 : Int) < 4; decide), rfl, (by show 3 ≤ sizeLine; decide), fun u nu => ?_⟩
    have s4 := same_upd (o := .tup [.str kd, .ref t, .bl (decide (V.int ((r : Int) / 8 % 4) = V.int 0))]) nu
    exact q ⟨kd, is, decide (V.int ((r : Int) / 8 % 4) = V.int 0)⟩ u _ ⟨hk, hl, hlt⟩ (Same.trans (Same.trans (Same.trans s1 s2) s3) s4) ⟨u, t, rfl, upd_same, s4 _ _ ht⟩
end
end BF

/-! BFn: the law's _law_names. -/
namespace BF
open PySem PySem.Spec PyProof.Rows L2
open C8 (Cal Met Mak pe_c pe_mk pe_mt pe_mt0 pe_gc tCut pss_cut cal0 met0 mak0 fnScope_by)

/-! ### texts of letters -/
def Lt (x : Str) : Prop := ∀ c ∈ TL.tl x, 97 ≤ c ∧ c ≤ 122
theorem cut_mem {z : Str} {lo hi : Option Int} {c : Nat} (h : c ∈ TL.tl (cutS z lo hi)) : c ∈ TL.tl z := by
  have h : c ∈ (z.cps.toList.drop (HT.sIx z.length 0 lo)).take (HT.sIx z.length z.length hi - HT.sIx z.length 0 lo) := h
  exact List.mem_of_mem_drop (List.mem_of_mem_take h)
theorem cut_lt {z : Str} (h : Lt z) (lo hi : Option Int) : Lt (cutS z lo hi) := fun c hc => h c (cut_mem hc)
theorem cut8_len (z : Str) : (cutS z none (some 8)).length ≤ 8 := by
  rw [TL.len_tl]
  show ((z.cps.toList.drop (HT.sIx z.length 0 none)).take (HT.sIx z.length z.length (some ((8 : Nat) : Int)) - HT.sIx z.length 0 none)).length ≤ 8
  rw [HT.sIx_nat, List.length_take]
  omega
theorem app_lt {x y : Str} (h : Lt x) (h' : Lt y) : Lt (x ++ y) := fun c hc => by
  rw [TL.tl_append] at hc
  rcases List.mem_append.mp hc with hc | hc
  · exact h c hc
  · exact h' c hc
theorem GN.lt' {x : Str} (h : GN x) : Lt x := h.lt
theorem sign_lt {c : Nat} (h : c ∈ letters.cps.toList) : Lt ⟨#[c]⟩ := fun d hd => by
  have e : d = c := by simpa [TL.tl] using hd
  subst e
  have h : d ∈ TL.tl letters := h
  rw [tl_letters, List.mem_range'_1] at h
  omega
theorem xmul {i : Nat} (h : i < 7) : (PySem.Txt.mul ("x" : Str) (i : Int)).length ≤ 6 ∧ Lt (PySem.Txt.mul ("x" : Str) (i : Int)) := by
  have key : ((List.range 7).all fun i => decide ((PySem.Txt.mul ("x" : Str) (i : Int)).length ≤ 6) && (TL.tl (PySem.Txt.mul ("x" : Str) (i : Int))).all fun c => decide (97 ≤ c) && decide (c ≤ 122)) = true := by decide +kernel
  have q := List.all_eq_true.mp key i (List.mem_range.mpr h)
  simp only [Bool.and_eq_true, decide_eq_true_eq, List.all_eq_true] at q
  exact q
theorem join3 {a b c : Str} (ha : Lt a ∧ a.length ≤ 1) (hb : Lt b ∧ b.length ≤ 1) (hc : Lt c ∧ c.length ≤ 6) : Lw (Txt.join ("" : Str) [a, b, c]) := by
  have e0 : TL.tl ("" : Str) = [] := by rw [tl_lit]; rfl
  refine ⟨?_, fun d hd => ?_⟩
  · have e : Txt.join ("" : Str) [a, b, c] = Str.join ("" : Str) [a, b, c] := TL.join_eq _ _
    have q := StrLaws.join_length_le ("" : Str) [a, b, c]
    rw [e]
    have e1 : ("" : Str).length = 0 := by rw [TL.len_tl, e0]; rfl
    simp only [List.map_cons, List.map_nil, List.sum_cons, List.sum_nil, List.length_cons, List.length_nil, e1] at q
    omega
  · rcases mem_join hd with m | ⟨x, hx, m⟩
    · rw [e0] at m
      cases m
    · simp only [List.mem_cons, List.not_mem_nil, or_false] at hx
      rcases hx with rfl | rfl | rfl
      · exact ha.1 d m
      · exact hb.1 d m
      · exact hc.1 d m
theorem empty_lit : (Str.ofString "" : Str) = Str.empty := by decide +kernel
theorem let_at {n : Nat} (h : n < 26) : letters.cps.toList[n]? = some (97 + n) := by
  have key : ((List.range 26).all fun n => decide (letters.cps.toList[n]? = some (97 + n))) = true := by decide +kernel
  exact of_decide_eq_true (List.all_eq_true.mp key n (List.mem_range.mpr h))
theorem let_len : letters.length ≤ sizeLine := by
  have : letters.length = 26 := by decide +kernel
  rw [this]
  decide
theorem filter_snoc {α : Type} {p : α → Bool} {l : List α} {i : Nat} {x : α} (h : l[i]? = some x) : (l.take (i + 1)).filter p = (l.take i).filter p ++ (if p x = true then [x] else []) := by
  rw [take_snoc h, List.filter_append, List.filter_cons]
  by_cases q : p x = true
  · rw [if_pos q, if_pos q]
    rfl
  · rw [if_neg q, if_neg q]
    rfl
theorem snoc_nd {xs : List Str} {x : Str} (h : xs.Nodup) (hx : x ∉ xs) : (xs ++ [x]).Nodup :=
  List.nodup_append.mpr ⟨h, by simp, fun a ha b hb e => hx (by rw [List.mem_singleton] at hb; subst hb; subst e; exact ha)⟩

theorem atI_n {α : Type} {xs : List α} {i : Int} {j : Nat} {v : α} (e : i = (j : Int)) (h : xs[j]? = some v) : atI xs i = some v := by
  rw [e]
  exact atI_nat h
theorem or3 {t1 t2 t3 : TT} {σ : L2.St} {H : Hp} {Q : Bool → Hp → Prop} {b1 b2 b3 : Bool} (h1 : ∀ Q' : Bool → Hp → Prop, Q' b1 H → t1 σ H Q') (h2 : ∀ Q' : Bool → Hp → Prop, Q' b2 H → t2 σ H Q') (h3 : ∀ Q' : Bool → Hp → Prop, Q' b3 H → t3 σ H Q') (q : Q (b1 || (b2 || b3)) H) : tOr t1 (tOr t2 t3) σ H Q := by
  refine h1 _ ?_
  cases b1 with
  | true => exact q
  | false =>
    show tOr t2 t3 σ H Q
    refine h2 _ ?_
    cases b2 with
    | true => exact q
    | false => exact h3 _ q
theorem one_len (c : Nat) : (⟨#[c]⟩ : Str).length = 1 := rfl
theorem zz_at {i : Nat} (h : i < 80) : spareZ[i]? = some (zz i) := by
  unfold spareZ
  rw [List.getElem?_map, List.getElem?_range h]
  rfl
/-- what stands between the turns -/
structure NmI (H0 H : Hp) (F B : Addr) (names : List Str) (i : Nat) : Prop where
  same : Same H0 H
  fF : H F = some (.lst (names.map V.str))
  fB : H B = some (.lst (barred.map V.str))
  len : names.length = i
  ok : ∀ x ∈ names, GN x
  nd : names.Nodup
theorem NmI.go {H0 H H' : Hp} {F B : Addr} {names : List Str} {i : Nat} (h : NmI H0 H F B names i) (e : Same H H') : NmI H0 H' F B names i := ⟨Same.trans h.same e, e _ _ h.fF, e _ _ h.fB, h.len, h.ok, h.nd⟩
theorem sh_strs {xs : List Str} (h : ∀ x ∈ xs, GN x) : Sh (.list (xs.map PyData.str)) 1 := sh_list (shAll_map fun x hx => (h x hx).sh 0)
theorem dp_strs {K : PySem.W.Frag} {H : Hp} : ∀ xs : List Str, DpAll K H (xs.map V.str) (xs.map PyData.str)
  | [] => .nil
  | x :: r => .cons (.str x) (dp_strs r)

section
variable {P : Program} {w : World} {K : PySem.W.Frag} {mg : Str → Option Value} {base : Heap} {C aB aW aL : Addr}
def spNames : Sp := fun vs H Q _ => ∃ (c : Int) (k m : Nat), vs = [.int c, .int (k : Int), .int (m : Int)] ∧ k ≤ 10000 ∧ m ≤ 60 ∧
  ∀ (names : List Str) (p : Addr) (H' : Hp), names.length = m → (∀ x ∈ names, GN x) → names.Nodup → Same H H' → H p = none → H' p = some (.lst (names.map V.str)) → Q (.ref p) H'
theorem ok_names {f : Addr} {fd : FuncData} (T : Txt K mg w C aB aW aL) (c1 : Cal P w K mg base 1 "_law_stir" spStir []) (F : C8.Def K mg "_law_names" sNames f fd) (b : Binds K fd ["head", "k", "many"] []) : Cal P w K mg base 2 "_law_names" spNames [] := by
  have sc : FnScope ["head", "k", "many", "letters", "barred", "found", "j", "number", "word", "spare", "n", "one"] ["head", "k", "many"] (C8.fnScope sNames) := fnScope_by (by decide +kernel)
  refine cal0 F b .nil sc (fun vs H Q E h => ?_) (fun cdv A outer s H vs Q E hr h => ?_)
  · obtain ⟨c, k, m, rfl, _⟩ := h
    rfl
  · obtain ⟨c, k, m, rfl, hk, hm, q⟩ := h
    refine ⟨_, pss_cons (ps_set (i := 3) sc.nd rfl (.inr rfl) pe_str)
      (pss_cons (ps_set (i := 4) sc.nd rfl (.inl rfl) (pe_lst (pa_cons pe_str (pa_cons pe_str (pa_cons pe_str (pa_cons pe_str (pa_cons pe_str (pa_cons pe_str (pa_cons pe_str (pa_cons pe_str (pa_cons pe_str pa_nil)))))))))))
      (pss_cons (ps_set (i := 5) sc.nd rfl (.inr rfl) (pe_lst pa_nil))
      (pss_cons (ps_for PassesOwn.never rfl (pi_range1 (by rfl) T.range (pa_cons (pv 2) pa_nil)) (pg_name (i := 6) sc.nd rfl (.inl rfl))
        (pss_cons (ps_set (i := 7) sc.nd rfl (.inl rfl) (pe_c c1 hr (by decide) rfl (pa_cons (pv 0) (pa_cons (pe_op op_add (pv 1) (pv 6)) pa_nil))))
        (pss_cons (ps_set (i := 8) sc.nd rfl (.inl rfl) (pe_join pe_str (pe_lst (pa_cons (pe_ix ix_str (pv 3) (pe_op op_mod (pv 7) pe_int) (fun _ _ => rfl))
            (pa_cons (pe_ix ix_str (pv 3) (pe_op op_mod (pe_op op_fdiv (pv 7) pe_int) pe_int) (fun _ _ => rfl))
            (pa_cons (pe_op op_mul_str pe_str (pe_op op_mod (pe_op op_fdiv (pv 7) pe_int) pe_int)) pa_nil))))))
        (pss_cons (ps_set (i := 8) sc.nd rfl (.inl rfl) (pe_slice sl_str (pv 8) (po_some (pe_op op_mod (pe_op op_fdiv (pv 7) pe_int) pe_int)) po_none))
        (pss_cut (ps_if (PW.pt (pw_and (pt_cmpR op_eq (pe_op op_mod (pe_op op_fdiv (pv 7) pe_int) pe_int) pe_int (nomark _)) (pw_and1 (pt_cmpR (op_neD hr.units) (pv 5) (pe_lst pa_nil) (nomark _)))))
            (pss_one (ps_set (i := 8) sc.nd rfl (.inl rfl) (pe_slice sl_str (pe_op op_add_str (pe_ix ix_list (pv 5) (pe_op op_mod (pe_op op_fdiv (pv 7) pe_int) (pe_callB call_len_seq (by rfl) T.len PySem.boot_len (pa_cons (pv 5) pa_nil))) (fun _ _ => rfl)) (pv 8)) po_none (po_some pe_int)))) pss_nil)
        (pss_cut (ps_if (PW.pt (pw_or (pt_cmpR op_eq (pv 8) pe_str (nomark _)) (pw_or (pt_cmpR op_in_seq (pv 8) (pv 5) (by rfl)) (pw_or1 (pt_cmpR op_in_seq (pv 8) (pv 4) (by rfl))))))
            (pss_cons (ps_setLc (i := 9) (own := [("n", 10)]) (g := gName 10) (tt := tYes) rfl sc.nd rfl rfl (sw_true rfl rfl rfl (by decide +kernel)) (pi_range1 (by rfl) T.range (pa_cons pe_int pa_nil))
                (blkOk_by (own := [("n", 10)]) (N := ["head", "k", "many", "letters", "barred", "found", "j", "number", "word", "spare", "n", "one"]) (sc := C8.fnScope sNames) (by decide +kernel))
                (fun _ _ _ _ _ => pg_name (i := 10) sc.nd rfl (Or.inl rfl)) (fun _ _ _ _ _ => pts_nil)
                (fun _ _ _ _ _ => pe_op op_add_str (pe_op op_add_str pe_str (pe_ix ix_str (pv 3) (pe_op op_fdiv (pv 10) pe_int) (fun _ _ => rfl))) (pe_ix ix_str (pv 3) (pe_op op_mod (pv 10) pe_int) (fun _ _ => rfl))))
            (pss_one (ps_set (i := 8) sc.nd rfl (.inl rfl) (pe_ix ix_list (pe_lc (own := [("one", 11)]) (g := gName 11) (tt := tTest (tOp (rIn K true) (tVar 11) (tVar 5))) rfl sc.nd (pi_list (pv 9))
                (blkOk_by (own := [("one", 11)]) (N := ["head", "k", "many", "letters", "barred", "found", "j", "number", "word", "spare", "n", "one"]) (sc := C8.fnScope sNames) (by decide +kernel))
                (fun _ _ _ _ _ => pg_name (i := 11) sc.nd rfl (Or.inl rfl)) (fun _ _ _ _ _ => pts_one (pt_cmpR op_notIn_seq (pv 11) (pv 5) (by rfl))) (fun _ _ _ _ _ => pv 11)) pe_int (fun _ _ => rfl))))) pss_nil)
        (pss_one (ps_expr (pe_bm PySem.F.plainAttrs_list PySem.F.slot_list_append PySem.F.type_list_append mt_append (pv 5) (pa_cons (pv 8) pa_nil))))))))))
      (pss_one (ps_ret (pv 5)))))), ?_⟩
    refine ⟨(by show 9 ≤ sizeLine; decide), fun B nB => ?_⟩
    have s1 : Same H (upd H B (.lst (barred.map V.str))) := same_upd nB
    refine ⟨Nat.zero_le _, fun F nF => ?_⟩
    have I0 : NmI H (upd (upd H B (.lst (barred.map V.str))) F (.lst [])) F B [] 0 :=
      ⟨Same.trans s1 (same_upd nF), upd_same, same_upd (o := .lst []) nF _ _ upd_same, rfl, (fun _ h => by cases h), List.nodup_nil⟩
    have nF0 : H F = none := Same.none s1 nF
    refine ⟨_, rfl, (m : Int), rfl, by omega, by omega, ?_⟩
    rw [Int.toNat_natCast]
    refine for_it (walk_range (lo := 0) (n := m)) (fun i σ H2 => ∃ (names : List Str) (y6 y7 y8 y9 : Option V), σ = [some (.int c), some (.int (k : Int)), some (.int (m : Int)), some (.str letters), some (.ref B), some (.ref F), y6, y7, y8, y9, none, none] ∧
      NmI H H2 F B names i) ⟨[], none, none, none, none, rfl, I0⟩ (fun _ _ _ _ _ => trivial) ?_ ?_
    · rintro i v σ H2 H2' hi ⟨names, y6, y7, y8, y9, rfl, I⟩ ⟨e2, ev⟩
      subst e2 ev
      refine ⟨_, rfl, _, rfl, _, rfl, _, _, rfl, rfl, c, k + i, ?_, by omega, fun r => ?_⟩
      · show [V.int c, V.int ((k : Int) + (0 + (i : Int)))] = _
        rw [Int.zero_add, Int.natCast_add]
      obtain ⟨z1, e1, l1⟩ := nat_mod (x := (r : Int)) (by decide : (0 : Int) < 26)
      obtain ⟨z2, e2, l2⟩ := nat_mod (x := (r : Int) / 26) (by decide : (0 : Int) < 26)
      obtain ⟨z3, e3, l3⟩ := nat_mod (x := (r : Int) / 700) (by decide : (0 : Int) < 7)
      have x1 := let_at (n := z1) (by omega)
      have x2 := let_at (n := z2) (by omega)
      have m3 := xmul (i := z3) (by omega)
      refine ⟨⟨_, rfl⟩, .str letters, rfl, _, rfl, _, _, rfl, rfl, (by show (0 : Int) < 26; decide), letters, _, 97 + z1, rfl, rfl, let_len, atI_n e1 x1,
        .str letters, rfl, _, rfl, _, _, rfl, rfl, ⟨by decide, by decide⟩, _, _, rfl, rfl, (by show (0 : Int) < 26; decide), letters, _, 97 + z2, rfl, rfl, let_len, atI_n e2 x2,
        _, rfl, _, _, rfl, rfl, ⟨by decide, by decide⟩, _, _, rfl, rfl, (by show (0 : Int) < 7; decide), _, _, rfl, congrArg V.int e3, (by decide +kernel), (by omega), (by omega),
        (by show 3 ≤ sizeLine; decide), fun l nl => ?_⟩
      have w1 := join3 ⟨sign_lt (List.mem_of_getElem? x1), Nat.le_of_eq (one_len _)⟩ ⟨sign_lt (List.mem_of_getElem? x2), Nat.le_of_eq (one_len _)⟩ ⟨m3.2, m3.1⟩
      refine ⟨("" : Str), l, [(⟨#[97 + z1]⟩ : Str), ⟨#[97 + z2]⟩, PySem.Txt.mul ("x" : Str) (z3 : Int)], rfl, rfl, .inl (.of upd_same), ?_, ?_⟩
      · have q1 := m3.1
        have e0 : ("" : Str).length = 0 := by decide +kernel
        simp only [List.map_cons, List.map_nil, List.sum_cons, List.sum_nil, List.length_cons, List.length_nil, e0, one_len]
        omega
      have I1 := I.go (same_upd (o := .lst [.str ⟨#[97 + z1]⟩, .str ⟨#[97 + z2]⟩, .str (PySem.Txt.mul ("x" : Str) (z3 : Int))]) nl)
      show tSeq _ _ _ _ (upd H2' l (.lst [.str ⟨#[97 + z1]⟩, .str ⟨#[97 + z2]⟩, .str (PySem.Txt.mul ("x" : Str) (z3 : Int))]))
      generalize upd H2' l (.lst [.str ⟨#[97 + z1]⟩, .str ⟨#[97 + z2]⟩, .str (PySem.Txt.mul ("x" : Str) (z3 : Int))]) = H3 at I1 ⊢
      generalize Txt.join ("" : Str) [(⟨#[97 + z1]⟩ : Str), ⟨#[97 + z2]⟩, PySem.Txt.mul ("x" : Str) (z3 : Int)] = word1 at w1 ⊢
      refine ⟨_, rfl, _, rfl, _, _, rfl, rfl, ⟨by decide, by decide⟩, _, _, rfl, rfl, (by show (0 : Int) < 2; decide), _, rfl, word1, rfl, size_ok (by have := w1.l8; omega), ?_⟩
      have w2 : Lw (cutS word1 (some ((r : Int) / 5000 % 2)) none) := ⟨Nat.le_trans (cutS_length _ _ _) w1.l8, cut_lt w1.lt _ _⟩
      refine ⟨fun σ' H' => ∃ w, σ' = [some (.int c), some (.int (k : Int)), some (.int (m : Int)), some (.str letters), some (.ref B), some (.ref F), some (.int (0 + (i : Int))), some (.int (r : Int)), some (.str w), y9, none, none] ∧ Lw w ∧ NmI H H' F B names i, ?_, ?_⟩
      · refine ⟨_, rfl, _, _, rfl, rfl, ⟨by decide, by decide⟩, _, _, rfl, rfl, (by show (0 : Int) < 4; decide), rfl, _, rfl, ite2 (fun _ => ?_) (fun _ => ?_)⟩
        · refine ⟨.ref F, rfl, Nat.zero_le _, fun u nu => ?_⟩
          have I2 := I1.go (same_upd (o := .lst []) nu)
          refine ⟨.list (names.map PyData.str), .list [], .lst (.of I2.fF) (dp_strs names), .lst (.of upd_same) .nil, (sh_strs I1.ok).ok (by decide), by decide, ?_⟩
          cases hn : names with
          | nil =>
            refine ⟨false, by simp [PyData.eqv, PyData.eqvAll], iteF ?_⟩
            rw [hn] at I2
            exact ⟨_, rfl, w2, I2⟩
          | cons n0 nr =>
            have h1 : 1 ≤ names.length := by rw [hn]; simp
            have ev := eqv_ne (f := PyData.str) h1
            rw [hn] at ev
            refine ⟨true, by rw [ev]; rfl, iteT ?_⟩
            rw [← hn]
            obtain ⟨z4, e4, l4⟩ := nat_mod (x := (r : Int) / 40000) (c := ((names.map V.str).length : Int)) (by rw [List.length_map]; omega)
            have h4 : z4 < names.length := by
              rw [List.length_map] at l4
              omega
            have g4 := I1.ok names[z4] (List.getElem_mem h4)
            refine ⟨.ref F, rfl, _, rfl, _, _, rfl, rfl, ⟨by decide, by decide⟩, .ref F, rfl, F, names.map V.str, rfl, .inl (.of I2.fF), _, _, rfl, rfl, (by show (0 : Int) < ((names.map V.str).length : Int); rw [List.length_map]; omega), F, _, _, .str names[z4], rfl, rfl, .of I2.fF, atI_n e4 (at_str (List.getElem?_eq_getElem h4)), ?_⟩
            refine ⟨_, rfl, _, _, rfl, rfl, size_ok (by have := g4.l8; have := w2.l8; omega), 8, rfl, _, rfl, size_ok ?_, ?_⟩
            · rw [len_app]
              have := g4.l8
              have := w2.l8
              omega
            exact ⟨_, rfl, ⟨cut8_len _, cut_lt (app_lt g4.lt' w2.lt) _ _⟩, I2⟩
        · exact iteF ⟨_, rfl, w2, I1⟩
      rintro σ' H4 ⟨word3, rfl, w3, I4⟩
      refine ⟨fun σ' H' => ∃ w y, σ' = [some (.int c), some (.int (k : Int)), some (.int (m : Int)), some (.str letters), some (.ref B), some (.ref F), some (.int (0 + (i : Int))), some (.int (r : Int)), some (.str w), y, none, none] ∧ GN w ∧ w ∉ names ∧ NmI H H' F B names i, ?_, ?_⟩
      · refine or3 (b1 := decide (V.str word3 = V.str (Str.ofString ""))) (b2 := decide (word3 ∈ names)) (b3 := decide (word3 ∈ barred)) (fun Q' q' => ⟨_, rfl, rfl, _, rfl, q'⟩)
          (fun Q' q' => ⟨_, rfl, .ref F, rfl, F, _, rfl, .inl (.of I4.fF), rfl, flat_strs _, _, congrArg V.bl (inV_str _ _), q'⟩)
          (fun Q' q' => ⟨_, rfl, .ref B, rfl, B, _, rfl, .inl (.of I4.fB), rfl, flat_strs _, _, congrArg V.bl (inV_str _ _), q'⟩) ?_
        cases hb : (decide (V.str word3 = V.str (Str.ofString "")) || (decide (word3 ∈ names) || decide (word3 ∈ barred))) with
        | false =>
          refine iteF ?_
          rw [Bool.or_eq_false_iff, Bool.or_eq_false_iff] at hb
          obtain ⟨b1, b2, b3⟩ := hb
          have b1 := of_decide_eq_false b1
          refine ⟨word3, y9, rfl, w3.gn (fun e => b1 (by rw [e]; decide +kernel)) (of_decide_eq_false b3), of_decide_eq_false b2, I4⟩
        | true =>
          refine iteT ?_
          refine ⟨80, rfl, by decide, by decide, fun D nD => ?_⟩
          refine lc_it (walk_range (lo := 0) (n := 80)) (fun j H5 => Same H4 H5 ∧ H5 D = some (.lst ((spareZ.take j).map V.str))) ⟨same_upd nD, upd_same⟩ (fun _ _ _ _ => trivial) ?_ ?_
          · rintro j v H5 H5' hj ⟨s5, eD⟩ ⟨e5, ev⟩
            subst e5 ev
            have x1 := let_at (n := j / 26) (by omega)
            have x2 := let_at (n := j % 26) (by omega)
            refine ⟨rfl, .str letters, rfl, _, rfl, _, _, rfl, rfl, ⟨by decide, by decide⟩, letters, _, 97 + j / 26, rfl, rfl, let_len, atI_n (by show (0 + (j : Int)) / 26 = _; omega) x1, ?_⟩
            have hzz : ("zz" : Str).length = 2 := by decide +kernel
            refine ⟨_, _, rfl, rfl, size_ok (by rw [hzz, one_len]; decide), .str letters, rfl, _, rfl, _, _, rfl, rfl, (by show (0 : Int) < 26; decide), letters, _, 97 + j % 26, rfl, rfl, let_len, atI_n (by show (0 + (j : Int)) % 26 = _; omega) x2, ?_⟩
            refine ⟨_, _, rfl, rfl, size_ok (by rw [len_app, hzz, one_len, one_len]; decide), ?_⟩
            refine ⟨_, eD, ?_, fun b o e => ?_, ?_⟩
            · rw [List.length_map, List.length_take]
              exact size_lt (by omega)
            · rw [upd_ne (ne_of_none e nD)]
              exact s5 _ _ e
            · rw [upd_same, take_snoc (zz_at hj), List.map_append]
              rfl
          rintro H5 ⟨s5, eD⟩
          have eD : H5 D = some (.lst (spareZ.map V.str)) := by
            rw [List.take_of_length_le (by unfold spareZ; rw [List.length_map, List.length_range]; exact Nat.le_refl _)] at eD
            exact eD
          have I5 := I4.go s5
          refine ⟨.ref D, rfl, D, rfl, ⟨_, .of eD⟩, fun D2 nD2 => ?_⟩
          refine lc_list (K := K) (a := D) (xs := spareZ.map V.str) (fun j H6 => Same H5 H6 ∧ H6 D2 = some (.lst (((spareZ.take j).filter fun x => !decide (x ∈ names)).map V.str))) ⟨same_upd nD2, upd_same⟩ (fun j H6 _ h => .of (h.1 _ _ eD)) ?_ ?_
          · rintro j v H6 hv ⟨s6, e6⟩
            rw [List.getElem?_map] at hv
            obtain ⟨x, hx, rfl⟩ := Option.map_eq_some_iff.mp hv
            have ef := filter_snoc (p := fun x => !decide (x ∈ names)) hx
            refine ⟨rfl, .str x, rfl, .ref F, rfl, F, _, rfl, .inl (.of (s6 _ _ I5.fF)), rfl, flat_strs _, !decide (x ∈ names), congrArg V.bl (congrArg Bool.not (inV_str _ _)), ?_⟩
            cases hx2 : !decide (x ∈ names) with
            | false =>
              refine iteF ⟨s6, ?_⟩
              rw [ef]
              simp only [hx2]
              rw [if_neg Bool.false_ne_true, List.append_nil]
              exact e6
            | true =>
              refine iteT ⟨.str x, rfl, _, e6, ?_, fun b o e => ?_, ?_⟩
              · rw [List.length_map]
                have := List.length_filter_le (fun x => !decide (x ∈ names)) (spareZ.take j)
                rw [List.length_take] at this
                have h80 : spareZ.length = 80 := by unfold spareZ; rw [List.length_map, List.length_range]
                exact size_lt (by omega)
              · rw [upd_ne (ne_of_none e nD2)]
                exact s6 _ _ e
              · rw [upd_same, ef]
                simp only [hx2, if_true, List.map_append]
                rfl
          rintro H6 ⟨s6, e6⟩
          have h80 : spareZ.length = 80 := by unfold spareZ; rw [List.length_map, List.length_range]
          rw [List.length_map, List.take_length] at e6
          obtain ⟨x, rr, ex, hx1, hx2⟩ := spare_has spareZ_nd (fs := names) (by rw [h80, I4.len]; omega)
          rw [ex] at e6
          refine ⟨D2, _, 0, .str x, rfl, rfl, .of e6, atI_n (j := 0) rfl rfl, ?_⟩
          exact ⟨x, some (.ref D), rfl, spareZ_gn x hx1, hx2, I5.go s6⟩
      rintro σ' H7 ⟨word, y, rfl, gw1, hw1, I7⟩
      refine ⟨.ref F, rfl, .inl ⟨rfl, _, .of I7.fF⟩, _, rfl, F, _, _, rfl, rfl, I7.fF, ?_, ?_⟩
      · rw [List.length_map, I7.len]
        exact size_lt (by omega)
      refine ⟨names ++ [word], _, _, _, _, rfl, ⟨fun b o e => ?_, ?_, ?_, ?_, ?_, snoc_nd I7.nd hw1⟩⟩
      · rw [upd_ne (ne_of_none e nF0)]
        exact I7.same _ _ e
      · rw [upd_same, List.map_append]
        rfl
      · have hBF : B ≠ F := by
          intro e
          have h1 := I0.fB
          rw [e, upd_same] at h1
          cases h1
        rw [upd_ne hBF]
        exact I7.fB
      · rw [List.length_append, I7.len]
        rfl
      · intro x hx
        rcases List.mem_append.mp hx with hx | hx
        · exact I7.ok x hx
        · rw [List.mem_singleton.mp hx]
          exact gw1
    · rintro σ H2 ⟨names, y6, y7, y8, y9, rfl, I⟩
      exact ⟨.ref F, rfl, q names F H2 I.len I.ok I.nd I.same nF0 I.fF⟩
end
end BF

/-! BFo: the law's _law_net. -/
namespace BF
open PySem PySem.Spec PyProof.Rows L2
open C8 (Cal Met Mak pe_c pe_mk pe_mt pe_mt0 pe_gc tCut pss_cut cal0 met0 mak0 fnScope_by)

theorem first_nil : first [] = 0 := rfl
theorem first_snoc (l : List (Str × Nat)) (p : Str × Nat) : first (l ++ [p]) = first l + p.2 := by
  unfold first
  rw [List.map_append, List.sum_append]
  simp
theorem sum_nat : ∀ l : List (Str × Nat), (l.map (fun p => ((p.2 : Nat) : Int))).sum = ((first l : Nat) : Int)
  | [] => rfl
  | p :: r => by
    rw [List.map_cons, List.sum_cons, sum_nat r]
    unfold first
    rw [List.map_cons, List.sum_cons, Int.natCast_add]
/-- a list of good names, unlike -/
structure Nms (H : Hp) (p : Addr) (nm : List Str) (m : Nat) : Prop where
  at_ : H p = some (.lst (nm.map V.str))
  len : nm.length = m
  ok : ∀ x ∈ nm, GN x
  nd : nm.Nodup
theorem Nms.go {H H' : Hp} {p : Addr} {nm : List Str} {m : Nat} (h : Nms H p nm m) (e : Same H H') : Nms H' p nm m := ⟨e _ _ h.at_, h.len, h.ok, h.nd⟩
theorem snoc_ins {H H' : Hp} {q : Addr} {xs : List V} {l : List (Str × Nat)} {t : Addr} {p : Str × Nat} (h : All2 (InAt H) xs l) (e : Same H H') (hq : H' q = some (.lst xs)) (ht : H' t = some (.tup [.str p.1, .int (p.2 : Int)])) :
    InsAt (upd H' q (.lst (xs ++ [.ref t]))) q (l ++ [p]) := by
  have tp : Tups H' (upd H' q (.lst (xs ++ [.ref t]))) := tups_upd (notup_lst hq)
  exact ⟨_, upd_same, (h.mono fun x y r => (r.keep (Same.tups e)).keep tp).snoc (InAt.keep tp ⟨t, rfl, ht⟩)⟩
theorem snoc_gates {H H' : Hp} {q : Addr} {xs : List V} {l : List Gate} {v : V} {g : Gate} (h : All2 (GateAt H) xs l) (e : Same H H') (hq : H' q = some (.lst xs)) (ht : GateAt H' v g) :
    GatesAt (upd H' q (.lst (xs ++ [v]))) q (l ++ [g]) := by
  have tp : Tups H' (upd H' q (.lst (xs ++ [v]))) := tups_upd (notup_lst hq)
  exact ⟨_, upd_same, (h.mono fun x y r => (r.keep (Same.tups e)).keep tp).snoc (ht.keep tp)⟩
theorem snoc_outs {H H' : Hp} {q : Addr} {xs : List V} {l : List (Str × List Nat)} {v : V} {g : Str × List Nat} (h : All2 (OutAt H) xs l) (e : Same H H') (hq : H' q = some (.lst xs)) (ht : OutAt H' v g) :
    OutsAt (upd H' q (.lst (xs ++ [v]))) q (l ++ [g]) := by
  have tp : Tups H' (upd H' q (.lst (xs ++ [v]))) := tups_upd (notup_lst hq)
  exact ⟨_, upd_same, (h.mono fun x y r => (r.keep (Same.tups e)).keep tp).snoc (ht.keep tp)⟩
/-- all that stood ahead, but the list at q that is ours -/
theorem same_own {H H1 : Hp} {q : Addr} {o : HO} (e : Same H H1) (n : H q = none) : Same H (upd H1 q o) := fun b u h => by
  rw [upd_ne (ne_of_none h n)]
  exact e _ _ h
theorem cut60 (xs : List V) : (cutV xs (some 1) (some 61)).length ≤ 60 := by
  unfold cutV
  rw [show (1 : Int) = ((1 : Nat) : Int) from rfl, show (61 : Int) = ((61 : Nat) : Int) from rfl, HT.sIx_nat, HT.sIx_nat, List.length_take]
  omega
theorem cutV_mem {xs : List V} {lo hi : Option Int} {v : V} (h : v ∈ cutV xs lo hi) : v ∈ xs := by
  unfold cutV at h
  exact List.mem_of_mem_drop (List.mem_of_mem_take h)
section
variable {P : Program} {w : World} {K : PySem.W.Frag} {mg : Str → Option Value} {base : Heap} {C aB aW aL : Addr}
def spNet (K : PySem.W.Frag) : Sp := fun vs H Q _ => ∃ (a : Addr) (ns : List Int), vs = [.ref a] ∧ SqL K H a (ns.map V.int) ∧ ∀ (N : Net) (t a1 a2 a3 : Addr) (H' : Hp), GoodNet N → Same H H' → NetAt H' t a1 a2 a3 N → Q (.ref t) H'
theorem ok_net {f : Addr} {fd : FuncData} (T : Txt K mg w C aB aW aL) (cC : Cal P w K mg base 1 "_law_cell_at" (spCell K) []) (cS : Cal P w K mg base 1 "_law_stir" spStir []) (cN : Cal P w K mg base 2 "_law_names" spNames []) (cW : Cal P w K mg base 2 "_law_wires" spWires [])
    (cG : Cal P w K mg base 3 "_law_gate" spGate []) (F : C8.Def K mg "_law_net" sNet f fd) (b : Binds K fd ["script"] []) : Cal P w K mg base 4 "_law_net" (spNet K) [] := by
  have sc : FnScope ["script", "head", "names", "ins", "place", "first", "gates", "cell", "outs", "others", "number", "name", "width"] ["script"] (C8.fnScope sNet) := fnScope_by (by decide +kernel)
  refine cal0 F b .nil sc (fun vs H Q E h => ?_) (fun cdv A outer s H vs Q E hr h => ?_)
  · obtain ⟨a, ns, rfl, _⟩ := h
    rfl
  · obtain ⟨a, ns, rfl, hS, q⟩ := h
    refine ⟨_, pss_cons (ps_set (i := 1) sc.nd rfl (.inl rfl) (pe_c cC hr (by decide) rfl (pa_cons (pv 0) (pa_cons pe_int pa_nil))))
      (pss_cons (ps_set (i := 2) sc.nd rfl (.inl rfl) (pe_c cN hr (by decide) rfl (pa_cons (pv 1) (pa_cons pe_int (pa_cons pe_int pa_nil)))))
      (pss_cons (ps_set (i := 3) sc.nd rfl (.inl rfl) (pe_lst pa_nil))
      (pss_cons (ps_for PassesOwn.never rfl (pi_range1 (by rfl) T.range (pa_cons (pe_op op_add pe_int (pe_op op_mod (pe_c cS hr (by decide) rfl (pa_cons (pv 1) (pa_cons pe_int pa_nil))) pe_int)) pa_nil)) (pg_name (i := 4) sc.nd rfl (.inl rfl))
        (pss_one (ps_expr (pe_bm PySem.F.plainAttrs_list PySem.F.slot_list_append PySem.F.type_list_append mt_append (pv 3) (pa_cons (pe_tup (pa_cons (pe_ix ix_list (pv 2) (pv 4) (fun _ _ => rfl))
          (pa_cons (pe_op op_add pe_int (pe_op op_mod (pe_c cS hr (by decide) rfl (pa_cons (pv 1) (pa_cons (pe_op op_add pe_int (pv 4)) pa_nil))) pe_int)) pa_nil))) pa_nil)))))
      (pss_cons (ps_set (i := 5) sc.nd rfl (.inl rfl) (pe_callB (cr_sum rfl) (by rfl) T.sum (by decide +kernel) (pa_cons (pe_lc (own := [("name", 11), ("width", 12)]) (g := gTup K 2 (gCons (gName 11) (gCons (gName 12) gNil))) (tt := tYes) (te := tVar 12) rfl sc.nd (pi_list (pv 3))
          (blkOk_by (own := [("name", 11), ("width", 12)]) (N := ["script", "head", "names", "ins", "place", "first", "gates", "cell", "outs", "others", "number", "name", "width"]) (sc := C8.fnScope sNet) (by decide +kernel))
          (fun _ _ _ _ _ => pg_tup rfl (pgs_cons (pg_name (i := 11) sc.nd rfl (Or.inl rfl)) (pgs_cons (pg_name (i := 12) sc.nd rfl (Or.inl rfl)) pgs_nil))) (fun _ _ _ _ _ => pts_nil) (fun _ _ _ _ _ => pv 12)) pa_nil)))
      (pss_cons (ps_set (i := 6) sc.nd rfl (.inl rfl) (pe_lst pa_nil))
      (pss_cons (ps_for PassesOwn.never rfl (pi_list (pe_slice sl_list (pv 0) (po_some pe_int) (po_some pe_int))) (pg_name (i := 7) sc.nd rfl (.inl rfl))
        (pss_one (ps_expr (pe_bm PySem.F.plainAttrs_list PySem.F.slot_list_append PySem.F.type_list_append mt_append (pv 6) (pa_cons (pe_c cG hr (by decide) rfl (pa_cons (pv 7) (pa_cons (pe_op op_add (pv 5) (pe_callB call_len_seq (by rfl) T.len PySem.boot_len (pa_cons (pv 6) pa_nil))) pa_nil))) pa_nil)))))
      (pss_cons (ps_set (i := 8) sc.nd rfl (.inl rfl) (pe_lst pa_nil))
      (pss_cons (ps_set (i := 9) sc.nd rfl (.inl rfl) (pe_c cN hr (by decide) rfl (pa_cons (pv 1) (pa_cons pe_int (pa_cons pe_int pa_nil)))))
      (pss_cut (ps_if (pt_cmpR op_eq (pe_op op_mod (pe_c cS hr (by decide) rfl (pa_cons (pv 1) (pa_cons pe_int pa_nil))) pe_int) pe_int (nomark _)) (pss_one (ps_set (i := 9) sc.nd rfl (.inl rfl) (pv 2))) pss_nil)
      (pss_cons (ps_for PassesOwn.never rfl (pi_range1 (by rfl) T.range (pa_cons (pe_op op_add pe_int (pe_op op_mod (pe_c cS hr (by decide) rfl (pa_cons (pv 1) (pa_cons pe_int pa_nil))) pe_int)) pa_nil)) (pg_name (i := 4) sc.nd rfl (.inl rfl))
        (pss_cons (ps_set (i := 10) sc.nd rfl (.inl rfl) (pe_c cS hr (by decide) rfl (pa_cons (pv 1) (pa_cons (pe_op op_add pe_int (pv 4)) pa_nil))))
        (pss_one (ps_expr (pe_bm PySem.F.plainAttrs_list PySem.F.slot_list_append PySem.F.type_list_append mt_append (pv 8) (pa_cons (pe_tup (pa_cons (pe_ix ix_list (pv 9) (pe_op op_sub pe_int (pv 4)) (fun _ _ => rfl))
          (pa_cons (pe_c cW hr (by decide) rfl (pa_cons (pv 1) (pa_cons (pe_op op_add pe_int (pe_op op_mul pe_int (pv 4))) (pa_cons (pe_op op_add pe_int (pe_op op_mod (pv 10) pe_int)) (pa_cons (pe_op op_add (pv 5) (pe_callB call_len_seq (by rfl) T.len PySem.boot_len (pa_cons (pv 6) pa_nil))) pa_nil))))) pa_nil))) pa_nil))))))
      (pss_one (ps_ret (pe_tup (pa_cons (pv 3) (pa_cons (pv 6) (pa_cons (pv 8) pa_nil)))))))))))))))), ?_⟩
    refine ⟨.ref a, rfl, a, ns, 0, rfl, hS, fun hd => ?_⟩
    refine ⟨_, rfl, hd, 300, 6, rfl, by decide, by decide, fun nm pn H1 l1 g1 d1 s1 np1 e1 => ?_⟩
    have M1 : Nms H1 pn nm 6 := ⟨e1, l1, g1, d1⟩
    clear e1 l1 g1 d1
    refine ⟨Nat.zero_le _, fun pi n2 => ?_⟩
    have s2 := same_upd (o := .lst []) n2
    have nP : H pi = none := Same.none s1 n2
    have hpi : (upd H1 pi (.lst [])) pi = some (.lst []) := upd_same
    have M2 := M1.go s2
    have s2 := Same.trans s1 s2
    generalize upd H1 pi (.lst []) = H2 at s2 hpi M2 ⊢
    refine ⟨_, rfl, hd, 320, rfl, by decide, fun r1 => ?_⟩
    obtain ⟨z1, ez1, lz1⟩ := nat_mod (x := (r1 : Int)) (by decide : (0 : Int) < 6)
    refine ⟨_, _, rfl, rfl, (by show (0 : Int) < 6; decide), _, _, rfl, rfl, ((1 + z1 : Nat) : Int), ?_, by omega, by omega, ?_⟩
    · show [V.int (1 + (r1 : Int) % 6)] = _
      rw [ez1, Int.natCast_add]
      rfl
    rw [Int.toNat_natCast]
    refine for_it (walk_range (lo := 0) (n := 1 + z1)) (fun i σ H3 => ∃ (l : List (Str × Nat)) (y4 : Option V), σ = [some (.ref a), some (.int hd), some (.ref pn), some (.ref pi), y4, none, none, none, none, none, none, none, none] ∧
      Same H H3 ∧ Nms H3 pn nm 6 ∧ InsAt H3 pi l ∧ l.length = i ∧ (∀ p ∈ l, 1 ≤ p.2 ∧ p.2 ≤ 3) ∧ l.map (·.1) = nm.take i) ⟨[], none, rfl, s2, M2, ⟨[], hpi, .nil⟩, rfl, (fun _ h => by cases h), rfl⟩ (fun _ _ _ _ _ => trivial) ?_ ?_
    · rintro i v σ H3 H3' hi ⟨l, y4, rfl, s3, M3, ⟨xs, hx, rx⟩, el, hw, hn⟩ ⟨e3, ev⟩
      subst e3 ev
      have hi6 : i < nm.length := by rw [M3.len]; omega
      refine ⟨.ref pi, rfl, .inl ⟨rfl, _, .of hx⟩, .ref pn, rfl, _, rfl, pn, _, _, .str nm[i], rfl, rfl, .of M3.at_, atI_n (by show (0 : Int) + (i : Int) = (i : Int); omega) (at_str (List.getElem?_eq_getElem hi6)), ?_⟩
      refine ⟨_, rfl, _, rfl, _, _, rfl, rfl, hd, 321 + i, ?_, by omega, fun r2 => ?_⟩
      · show [V.int hd, V.int (321 + (0 + (i : Int)))] = _
        rw [Int.zero_add, Int.natCast_add]
        rfl
      obtain ⟨z2, ez2, lz2⟩ := nat_mod (x := (r2 : Int)) (by decide : (0 : Int) < 3)
      refine ⟨_, _, rfl, rfl, (by show (0 : Int) < 3; decide), _, _, rfl, rfl, (by show 2 ≤ sizeLine; decide), fun t nt => ?_⟩
      have ev : V.int (1 + (r2 : Int) % 3) = V.int ((1 + z2 : Nat) : Int) := by
        rw [ez2, Int.natCast_add]
        rfl
      have s4 : Same H3' (upd H3' t (.tup [.str nm[i], .int (1 + (r2 : Int) % 3)])) := same_upd nt
      have ht : (upd H3' t (.tup [.str nm[i], .int (1 + (r2 : Int) % 3)])) t = some (.tup [.str nm[i], .int ((1 + z2 : Nat) : Int)]) := by rw [upd_same, ev]
      refine ⟨pi, xs, .ref t, rfl, rfl, s4 _ _ hx, ?_, ?_⟩
      · have := rx.1
        exact size_lt (by omega)
      have hpn : pn ≠ pi := fun e => by
        have h1 := M1.at_
        rw [e, n2] at h1
        cases h1
      refine ⟨l ++ [(nm[i], 1 + z2)], _, rfl, same_own (Same.trans s3 s4) nP, ⟨?_, M3.len, M3.ok, M3.nd⟩, snoc_ins rx s4 (s4 _ _ hx) (p := (nm[i], 1 + z2)) ht, ?_, ?_, ?_⟩
      · rw [upd_ne hpn]
        exact s4 _ _ M3.at_
      · rw [List.length_append, el]
        rfl
      · intro p hp
        rcases List.mem_append.mp hp with hp | hp
        · exact hw p hp
        · rw [List.mem_singleton.mp hp]
          show 1 ≤ 1 + z2 ∧ 1 + z2 ≤ 3
          omega
      · rw [List.map_append, hn, take_snoc (List.getElem?_eq_getElem hi6)]
        rfl
    rintro σ H3 ⟨l, y4, rfl, s3, M3, hI, el, hw, hn⟩
    obtain ⟨xs, hx, rx⟩ := id hI
    refine ⟨.ref pi, rfl, pi, rfl, ⟨_, .of hx⟩, fun D nD => ?_⟩
    refine lc_list (K := K) (a := pi) (xs := xs) (fun j H4 => Same H3 H4 ∧ H4 D = some (.lst (((l.take j).map (fun p => ((p.2 : Nat) : Int))).map V.int))) ⟨same_upd nD, upd_same⟩ (fun j H4 _ h => .of (h.1 _ _ hx)) ?_ ?_
    · rintro j v H4 hv ⟨s4, eD⟩
      obtain ⟨p, hp, t, rfl, ht⟩ := rx.at hv
      refine ⟨t, _, rfl, .of (s4 _ _ ht), rfl, _, _, rfl, _, _, rfl, rfl, rfl, _, rfl, _, eD, ?_, fun b o e => ?_, ?_⟩
      · rw [List.length_map, List.length_map, List.length_take]
        have := rx.1
        exact size_lt (by omega)
      · rw [upd_ne (ne_of_none e nD)]
        exact s4 _ _ e
      · rw [upd_same, take_snoc hp, List.map_append, List.map_append]
        rfl
    rintro H4 ⟨s4, eD⟩
    rw [rx.1, List.take_length] at eD
    refine ⟨D, _, rfl, .of eD, ?_⟩
    rw [sum_nat]
    have hl18 : first l ≤ 18 := by
      have : ∀ l : List (Str × Nat), (∀ p ∈ l, p.2 ≤ 3) → first l ≤ l.length * 3 := by
        intro l
        induction l with
        | nil => intro _; exact Nat.le_refl _
        | cons p r ih =>
          intro h
          have h1 := h p List.mem_cons_self
          have h2 := ih fun q hq => h q (List.mem_cons_of_mem _ hq)
          have e : first (p :: r) = p.2 + first r := by
            unfold first
            rw [List.map_cons, List.sum_cons]
          rw [e, List.length_cons]
          omega
      have := this l fun p hp => (hw p hp).2
      omega
    have hl1 : 1 ≤ first l := by
      cases l with
      | nil => simp at el; omega
      | cons p r =>
        have := (hw p List.mem_cons_self).1
        unfold first
        rw [List.map_cons, List.sum_cons]
        omega
    have M4 := M3.go s4
    have hI4 := hI.same s4
    have s4 := Same.trans s3 s4
    refine ⟨Nat.zero_le _, fun pg n5 => ?_⟩
    have s5 := same_upd (o := .lst []) n5
    have nG : H pg = none := Same.none s4 n5
    have hpg : (upd H4 pg (.lst [])) pg = some (.lst []) := upd_same
    have M5 := M4.go s5
    have hI5 := hI4.same s5
    have s5 := Same.trans s4 s5
    have hgi : pi ≠ pg := by
      obtain ⟨ys, h1, _⟩ := hI4
      exact ne_of_none h1 n5
    have hgn : pn ≠ pg := ne_of_none M4.at_ n5
    show tSeq _ _ _ _ (upd H4 pg (.lst []))
    generalize upd H4 pg (.lst []) = H5 at s5 hpg M5 hI5 ⊢
    refine ⟨.ref a, rfl, 1, rfl, 61, rfl, a, _, rfl, s5.seq hS, fun u nu => ?_⟩
    have s6 := same_upd (o := .lst (cutV (ns.map V.int) (some 1) (some 61))) nu
    have hu6 : (upd H5 u (.lst (cutV (ns.map V.int) (some 1) (some 61)))) u = some (.lst (cutV (ns.map V.int) (some 1) (some 61))) := upd_same
    have hpg6 := s6 _ _ hpg
    have M6 := M5.go s6
    have hI6 := hI5.same s6
    have hug : u ≠ pg := fun e => by
      rw [e, hpg] at nu
      cases nu
    have s6 := Same.trans s5 s6
    have h60 := cut60 (ns.map V.int)
    have hint : ∀ v ∈ cutV (ns.map V.int) (some 1) (some 61), ∃ z : Int, v = .int z := fun v hv => by
      obtain ⟨z, _, e⟩ := List.mem_map.mp (cutV_mem hv)
      exact ⟨z, e.symm⟩
    generalize cutV (ns.map V.int) (some 1) (some 61) = cs at hu6 hpg6 M6 hI6 s6 h60 hint ⊢
    generalize upd H5 u (.lst cs) = H6 at hu6 hpg6 M6 hI6 s6 ⊢
    refine ⟨u, rfl, ⟨_, .of hu6⟩, for_list (K := K) (a := u) (xs := cs) (fun i σ H7 => ∃ (gs : List Gate) (y7 : Option V), σ = [some (.ref a), some (.int hd), some (.ref pn), some (.ref pi), y4, some (.int ((first l : Nat) : Int)), some (.ref pg), y7, none, none, none, none, none] ∧
      Same H H7 ∧ Nms H7 pn nm 6 ∧ InsAt H7 pi l ∧ H7 u = some (.lst cs) ∧ GatesAt H7 pg gs ∧ gs.length = i ∧ ∀ (j : Nat) g, gs[j]? = some g → GG (first l + j) g) ⟨[], none, rfl, s6, M6, hI6, hu6, ⟨[], hpg6, .nil⟩, rfl, fun _ _ h => by simp at h⟩ (fun i σ H7 _ ⟨_, _, _, _, _, _, h, _⟩ => .of h) ?_ ?_⟩
    · rintro i v σ H7 hv ⟨gs, y7, rfl, s7, M7, hI7, hu7, ⟨xg, hg, rg⟩, eg, hgg⟩
      have hi : i < cs.length := (List.getElem?_eq_some_iff.mp hv).1
      obtain ⟨z, rfl⟩ := hint v (List.mem_of_getElem? hv)
      refine ⟨.ref pg, rfl, .inl ⟨rfl, _, .of hg⟩, _, rfl, _, rfl, .ref pg, rfl, pg, xg, rfl, .inl (.of hg), _, _, rfl, rfl, z, first l + i, ?_, by omega, fun g t H8 hG s8 hgt => ?_⟩
      · show [V.int z, V.int (((first l : Nat) : Int) + ((xg.length : Nat) : Int))] = _
        rw [rg.1, eg, Int.natCast_add]
      refine ⟨pg, xg, .ref t, rfl, rfl, s8 _ _ hg, ?_, ?_⟩
      · have := rg.1
        exact size_lt (by omega)
      refine ⟨gs ++ [g], _, rfl, same_own (Same.trans s7 s8) nG, ⟨?_, M7.len, M7.ok, M7.nd⟩, ?_, ?_, snoc_gates rg s8 (s8 _ _ hg) hgt, ?_, fun j g' hj => ?_⟩
      · rw [upd_ne hgn]
        exact s8 _ _ M7.at_
      · exact (hI7.same s8).keep (tups_upd (notup_lst (s8 _ _ hg))) fun o e => by
          rw [upd_ne hgi]
          exact e
      · rw [upd_ne hug]
        exact s8 _ _ hu7
      · rw [List.length_append, eg]
        rfl
      · by_cases hj2 : j < gs.length
        · rw [List.getElem?_append_left hj2] at hj
          exact hgg j g' hj
        · rw [List.getElem?_append_right (by omega)] at hj
          have e0 : j - gs.length = 0 := by
            obtain ⟨h1, _⟩ := List.getElem?_eq_some_iff.mp hj
            simp at h1
            omega
          rw [e0] at hj
          have e1 : g = g' := Option.some.inj hj
          have e2 : j = i := by omega
          rw [← e1, e2]
          exact hG
    rintro σ H7 ⟨gs, y7, rfl, s7, M7, hI7, hu7, hG7, eg, hgg⟩
    refine ⟨Nat.zero_le _, fun po n8 => ?_⟩
    have s8 := same_upd (o := .lst []) n8
    have nO : H po = none := Same.none s7 n8
    have hpo : (upd H7 po (.lst [])) po = some (.lst []) := upd_same
    have M8 := M7.go s8
    have hI8 := hI7.same s8
    have hG8 := hG7.same s8
    have hoi : pi ≠ po := by
      obtain ⟨ys, h1, _⟩ := hI7
      exact ne_of_none h1 n8
    have hog : pg ≠ po := by
      obtain ⟨ys, h1, _⟩ := hG7
      exact ne_of_none h1 n8
    have hon : pn ≠ po := ne_of_none M7.at_ n8
    have s8 := Same.trans s7 s8
    show tSeq _ _ _ _ (upd H7 po (.lst []))
    generalize upd H7 po (.lst []) = H8 at s8 hpo M8 hI8 hG8 ⊢
    refine ⟨_, rfl, hd, 330, 6, rfl, by decide, by decide, fun nm2 pq H9 l9 g9 d9 s9 np9 e9 => ?_⟩
    have Q9 : Nms H9 pq nm2 6 := ⟨e9, l9, g9, d9⟩
    have M9 := M8.go s9
    have hI9 := hI8.same s9
    have hG9 := hG8.same s9
    have hpo9 := s9 _ _ hpo
    have hoq : pq ≠ po := fun e => by
      rw [e, hpo] at np9
      cases np9
    have s9 := Same.trans s8 s9
    refine ⟨fun σ' H' => ∃ (px : Addr) (nmx : List Str), σ' = [some (.ref a), some (.int hd), some (.ref pn), some (.ref pi), y4, some (.int ((first l : Nat) : Int)), some (.ref pg), y7, some (.ref po), some (.ref px), none, none, none] ∧
      H' = H9 ∧ Nms H9 px nmx 6 ∧ px ≠ po, ?_, ?_⟩
    · refine ⟨_, rfl, hd, 340, rfl, by decide, fun r3 => ⟨_, _, rfl, rfl, (by show (0 : Int) < 2; decide), rfl, _, rfl, ite2 (fun _ => ?_) (fun _ => ?_)⟩⟩
      · exact ⟨_, rfl, pn, nm, rfl, rfl, M9, hon⟩
      · exact ⟨pq, nm2, rfl, rfl, Q9, hoq⟩
    rintro σ H9' ⟨px, nmx, rfl, rfl, X9, hox⟩
    refine ⟨_, rfl, hd, 341, rfl, by decide, fun r4 => ?_⟩
    obtain ⟨z4, ez4, lz4⟩ := nat_mod (x := (r4 : Int)) (by decide : (0 : Int) < 6)
    refine ⟨_, _, rfl, rfl, (by show (0 : Int) < 6; decide), _, _, rfl, rfl, ((1 + z4 : Nat) : Int), ?_, by omega, by omega, ?_⟩
    · show [V.int (1 + (r4 : Int) % 6)] = _
      rw [ez4, Int.natCast_add]
      rfl
    rw [Int.toNat_natCast]
    refine for_it (walk_range (lo := 0) (n := 1 + z4)) (fun i σ Ha => ∃ (os : List (Str × List Nat)) (y4 y10 : Option V), σ = [some (.ref a), some (.int hd), some (.ref pn), some (.ref pi), y4, some (.int ((first l : Nat) : Int)), some (.ref pg), y7, some (.ref po), some (.ref px), y10, none, none] ∧
      Same H Ha ∧ Nms Ha px nmx 6 ∧ InsAt Ha pi l ∧ GatesAt Ha pg gs ∧ OutsAt Ha po os ∧ os.length = i ∧ os.map (·.1) = nmx.reverse.take i ∧ ∀ o ∈ os, 1 ≤ o.2.length ∧ o.2.length ≤ 3 ∧ ∀ w ∈ o.2, w < first l + gs.length)
      ⟨[], y4, none, rfl, s9, X9, hI9, hG9, ⟨[], hpo9, .nil⟩, rfl, rfl, fun _ h => by cases h⟩ (fun _ _ _ _ _ => trivial) ?_ ?_
    · rintro i v σ Ha Ha' hi ⟨os, y4', y10, rfl, sa, Xa, hIa, hGa, ⟨xo, ho, ro⟩, eo, hno, hoo⟩ ⟨ea, ev⟩
      subst ea ev
      refine ⟨_, rfl, _, rfl, _, _, rfl, rfl, hd, 342 + i, ?_, by omega, fun r5 => ?_⟩
      · show [V.int hd, V.int (342 + (0 + (i : Int)))] = _
        rw [Int.zero_add, Int.natCast_add]
        rfl
      obtain ⟨z5, ez5, lz5⟩ := nat_mod (x := (r5 : Int)) (by decide : (0 : Int) < 3)
      have hi5 : 5 - i < nmx.length := by rw [Xa.len]; omega
      obtain ⟨xg, hg, rg⟩ := id hGa
      have hlen := Xa.len
      refine ⟨.ref po, rfl, .inl ⟨rfl, _, .of ho⟩, .ref px, rfl, _, rfl, _, _, rfl, rfl, px, _, _, .str nmx[5 - i], rfl, rfl, .of Xa.at_, atI_n (j := 5 - i) (by show (5 : Int) - (0 + (i : Int)) = _; omega) (at_str (List.getElem?_eq_getElem hi5)), ?_⟩
      refine ⟨_, rfl, _, rfl, _, _, rfl, rfl, .inl ⟨by decide, by decide⟩, _, _, rfl, rfl, _, rfl, _, _, rfl, rfl, (by show (0 : Int) < 3; decide), _, _, rfl, rfl, _, rfl, .ref pg, rfl, pg, xg, rfl, .inl (.of hg), _, _, rfl, rfl,
        hd, 350 + 3 * i, 1 + z5, first l + gs.length, ?_, by omega, by omega, by omega, fun is t Hb hil hlt sb ht => ?_⟩
      · show [V.int hd, V.int (350 + 3 * (0 + (i : Int))), V.int (1 + (r5 : Int) % 3), V.int (((first l : Nat) : Int) + ((xg.length : Nat) : Int))] = [V.int hd, V.int ((350 + 3 * i : Nat) : Int), V.int ((1 + z5 : Nat) : Int), V.int ((first l + gs.length : Nat) : Int)]
        have q1 : (350 : Int) + 3 * (0 + (i : Int)) = ((350 + 3 * i : Nat) : Int) := by omega
        have q2 : (1 : Int) + (r5 : Int) % 3 = ((1 + z5 : Nat) : Int) := by omega
        have q3 : ((first l : Nat) : Int) + ((xg.length : Nat) : Int) = ((first l + gs.length : Nat) : Int) := by rw [rg.1, Int.natCast_add]
        rw [q1, q2, q3]
      refine ⟨(by show 2 ≤ sizeLine; decide), fun u5 nu5 => ?_⟩
      have sc5 := same_upd (o := .tup [.str nmx[5 - i], .ref t]) nu5
      have hob : (upd Hb u5 (.tup [.str nmx[5 - i], .ref t])) po = some (.lst xo) := sc5 _ _ (sb _ _ ho)
      have hOut : OutAt (upd Hb u5 (.tup [.str nmx[5 - i], .ref t])) (.ref u5) (nmx[5 - i], is) := ⟨u5, t, rfl, upd_same, sc5 _ _ ht⟩
      have sbc := Same.trans sb sc5
      refine ⟨po, xo, .ref u5, rfl, rfl, hob, ?_, ?_⟩
      · have := ro.1
        exact size_lt (by omega)
      have kp : ∀ b, b ≠ po → ∀ o, (upd Hb u5 (.tup [.str nmx[5 - i], .ref t])) b = some o → (upd (upd Hb u5 (.tup [.str nmx[5 - i], .ref t])) po (.lst (xo ++ [.ref u5]))) b = some o := fun b hb o e => by
        rw [upd_ne hb]
        exact e
      have hrev : nmx.reverse[i]? = some nmx[5 - i] := by
        rw [List.getElem?_reverse (by omega)]
        rw [show nmx.length - 1 - i = 5 - i by omega]
        exact List.getElem?_eq_getElem hi5
      refine ⟨os ++ [(nmx[5 - i], is)], _, _, rfl, same_own (Same.trans sa sbc) nO, ⟨kp px hox _ (sbc _ _ Xa.at_), Xa.len, Xa.ok, Xa.nd⟩, (hIa.same sbc).keep (tups_upd (notup_lst hob)) (kp pi hoi), (hGa.same sbc).keep (tups_upd (notup_lst hob)) (kp pg hog),
        snoc_outs ro sbc hob hOut, ?_, ?_, fun o hmem => ?_⟩
      · rw [List.length_append, eo]
        rfl
      · rw [List.map_append, hno, take_snoc hrev]
        rfl
      · rcases List.mem_append.mp hmem with hm | hm
        · exact hoo o hm
        · rw [List.mem_singleton.mp hm]
          exact ⟨by show 1 ≤ is.length; omega, by show is.length ≤ 3; omega, hlt⟩
    rintro σ Ha ⟨os, y4', y10, rfl, sa, Xa, hIa, hGa, hOa, eo, hno, hoo⟩
    refine ⟨.ref pi, rfl, .ref pg, rfl, .ref po, rfl, (by show 3 ≤ sizeLine; decide), fun t nt => ?_⟩
    have sb := same_upd (o := .tup [.ref pi, .ref pg, .ref po]) nt
    refine q ⟨l, gs, os⟩ t pi pg po _ ⟨?_, ?_, hw, fun p hp => ?_, ?_, ?_, hgg, ?_, ?_, fun o hmem => ?_, ?_, hoo⟩ (Same.trans sa sb) ⟨upd_same, hIa.same sb, hGa.same sb, hOa.same sb⟩
    · show 1 ≤ l.length
      omega
    · show l.length ≤ 6
      omega
    · have : p.1 ∈ l.map (·.1) := List.mem_map.mpr ⟨p, hp, rfl⟩
      rw [hn] at this
      exact M3.ok _ (List.mem_of_mem_take this)
    · show (l.map (·.1)).Nodup
      rw [hn]
      exact M3.nd.sublist (List.take_sublist _ _)
    · show gs.length ≤ 60
      omega
    · show 1 ≤ os.length
      omega
    · show os.length ≤ 6
      omega
    · have : o.1 ∈ os.map (·.1) := List.mem_map.mpr ⟨o, hmem, rfl⟩
      rw [hno] at this
      exact Xa.ok _ (List.mem_reverse.mp (List.mem_of_mem_take this))
    · show (os.map (·.1)).Nodup
      rw [hno]
      exact ((List.reverse_perm nmx).nodup_iff.mpr Xa.nd).sublist (List.take_sublist _ _)
end
end BF

/-! BFp: the law's _law_words, _law_gate_names. -/
namespace BF
open PySem PySem.Spec PyProof.Rows L2
open C8 (Cal Met Mak pe_c pe_mk pe_mt pe_mt0 pe_gc tCut pss_cut cal0 met0 mak0 fnScope_by)

theorem lit_colon {k : Nat} (h : k < 3) : TL.tl (Str.ofString ([":0", ":1", ":2"].getD k "")) = [58, 48 + k] := by
  have h : k = 0 ∨ k = 1 ∨ k = 2 := by omega
  rcases h with rfl | rfl | rfl <;> decide +kernel
theorem sub_lit0 (n : Str) : n ++ (":0" : Str) = sub n 0 := TL.ext_tl (by rw [tl_sub, TL.tl_append]; exact congrArg _ (lit_colon (k := 0) (by decide)))
theorem sub_lit1 (n : Str) : n ++ (":1" : Str) = sub n 1 := TL.ext_tl (by rw [tl_sub, TL.tl_append]; exact congrArg _ (lit_colon (k := 1) (by decide)))
theorem sub_lit2 (n : Str) : n ++ (":2" : Str) = sub n 2 := TL.ext_tl (by rw [tl_sub, TL.tl_append]; exact congrArg _ (lit_colon (k := 2) (by decide)))
theorem lit_len : (":0" : Str).length = 2 ∧ (":1" : Str).length = 2 ∧ (":2" : Str).length = 2 := by decide +kernel
theorem cut_take (xs : List V) (k : Nat) : cutV xs none (some (k : Int)) = xs.take k := by
  unfold cutV
  rw [HT.sIx_nat, HT.sIx_none, List.drop_zero, Nat.sub_zero]
  by_cases h : k ≤ xs.length
  · rw [Nat.min_eq_left h]
  · rw [Nat.min_eq_right (by omega), List.take_of_length_le (Nat.le_refl _), List.take_of_length_le (by omega)]
theorem wIn_cut {n : Str} {w : Nat} (h1 : w ≠ 1) (h3 : w ≤ 3) : cutV [V.str (n ++ (":0" : Str)), V.str (n ++ (":1" : Str)), V.str (n ++ (":2" : Str))] none (some (w : Int)) = (wIn (n, w)).map V.str := by
  rw [cut_take, sub_lit0, sub_lit1, sub_lit2]
  unfold wIn
  rw [if_neg h1]
  have h : w = 0 ∨ w = 2 ∨ w = 3 := by omega
  rcases h with rfl | rfl | rfl <;> rfl
theorem wIns_len_le {ins : List (Str × Nat)} (h6 : ins.length ≤ 6) (hw : ∀ p ∈ ins, 1 ≤ p.2 ∧ p.2 ≤ 3) : (wIns ins).length ≤ 18 := by
  rw [wIns_len fun p hp => (hw p hp).1]
  have : ∀ l : List (Str × Nat), (∀ p ∈ l, p.2 ≤ 3) → first l ≤ l.length * 3 := by
    intro l
    induction l with
    | nil => intro _; exact Nat.le_refl _
    | cons p r ih =>
      intro h
      have h1 := h p List.mem_cons_self
      have h2 := ih fun q hq => h q (List.mem_cons_of_mem _ hq)
      have e : first (p :: r) = p.2 + first r := by
        unfold first
        rw [List.map_cons, List.sum_cons]
      rw [e, List.length_cons]
      omega
  have := this ins fun p hp => (hw p hp).2
  omega
section
variable {P : Program} {w : World} {K : PySem.W.Frag} {mg : Str → Option Value} {base : Heap} {C aB aW aL : Addr}
def spWords : Sp := fun vs H Q _ => ∃ (a b : Addr) (ins : List (Str × Nat)) (gn : List Str), vs = [.ref a, .ref b] ∧ InsAt H a ins ∧ H b = some (.lst (gn.map V.str)) ∧ ins.length ≤ 6 ∧ (∀ p ∈ ins, 1 ≤ p.2 ∧ p.2 ≤ 3) ∧ (∀ p ∈ ins, p.1.length ≤ 8) ∧ gn.length ≤ 60 ∧
  ∀ p H', Same H H' → H p = none → H' p = some (.lst ((wIns ins ++ gn).map V.str)) → Q (.ref p) H'
theorem ok_words {f : Addr} {fd : FuncData} (T : Txt K mg w C aB aW aL) (F : C8.Def K mg "_law_words" sWords f fd) (b : Binds K fd ["ins", "gate_names"] []) : Cal P w K mg base 1 "_law_words" spWords [] := by
  have sc : FnScope ["ins", "gate_names", "found", "name", "width"] ["ins", "gate_names"] (C8.fnScope sWords) := fnScope_by (by decide +kernel)
  refine cal0 F b .nil sc (fun vs H Q E h => ?_) (fun cdv A outer s H vs Q E hr h => ?_)
  · obtain ⟨a, b, ins, gn, rfl, _⟩ := h
    rfl
  · obtain ⟨a, bb, ins, gn, rfl, ⟨xs, hx, rx⟩, hb, h6, hw, h8, h60, q⟩ := h
    refine ⟨_, pss_cons (ps_set (i := 2) sc.nd rfl (.inl rfl) (pe_lst pa_nil))
      (pss_cons (ps_for PassesOwn.never rfl (pi_list (pv 0)) (pg_tup rfl (pgs_cons (pg_name (i := 3) sc.nd rfl (.inl rfl)) (pgs_cons (pg_name (i := 4) sc.nd rfl (.inl rfl)) pgs_nil)))
        (pss_one (ps_set (i := 2) sc.nd rfl (.inl rfl) (pe_op op_cat (pv 2) (pe_ix ix_list (pe_lst (pa_cons (pe_lst (pa_cons (pv 3) pa_nil))
          (pa_cons (pe_slice sl_list (pe_lst (pa_cons (pe_op op_add_str (pv 3) pe_str) (pa_cons (pe_op op_add_str (pv 3) pe_str) (pa_cons (pe_op op_add_str (pv 3) pe_str) pa_nil)))) po_none (po_some (pv 4))) pa_nil)))
          (pe_callTy call_int1 (by rfl) T.int (by decide +kernel) (pa_cons (pe_cmpR op_gt (pv 4) pe_int (nomark _)) pa_nil)) (fun _ _ => rfl))))))
      (pss_one (ps_ret (pe_op op_cat (pv 2) (pv 1))))), ?_⟩
    refine ⟨Nat.zero_le _, fun F0 nF => ?_⟩
    have s1 := same_upd (o := .lst []) nF
    refine ⟨.ref a, rfl, a, rfl, ⟨_, .of (s1 _ _ hx)⟩, for_list (K := K) (a := a) (xs := xs) (fun i σ H2 => ∃ (fp : Addr) (y3 y4 : Option V), σ = [some (.ref a), some (.ref bb), some (.ref fp), y3, y4] ∧ Same H H2 ∧ H2 fp = some (.lst ((wIns (ins.take i)).map V.str)))
      ⟨F0, none, none, rfl, s1, upd_same⟩ (fun i σ H2 _ ⟨_, _, _, _, h, _⟩ => .of (h _ _ hx)) ?_ ?_⟩
    · rintro i v σ H2 hv ⟨fp, y3, y4, rfl, s2, ef⟩
      obtain ⟨p, hp, t, rfl, ht⟩ := rx.at hv
      have hmem := List.mem_of_getElem? hp
      have hw1 := hw p hmem
      have h81 := h8 p hmem
      obtain ⟨ll0, ll1, ll2⟩ := lit_len
      refine ⟨t, _, rfl, .of (s2 _ _ ht), rfl, _, _, rfl, _, _, rfl, rfl, ?_⟩
      refine ⟨.ref fp, rfl, .str p.1, rfl, (by show 1 ≤ sizeLine; decide), fun l1 n1 => ?_⟩
      refine ⟨_, rfl, _, _, rfl, rfl, size_ok (by omega), _, rfl, _, _, rfl, rfl, size_ok (by omega), _, rfl, _, _, rfl, rfl, size_ok (by omega), (by show 3 ≤ sizeLine; decide), fun l2 n2 => ?_⟩
      refine ⟨_, rfl, (p.2 : Int), rfl, l2, _, rfl, .of upd_same, fun l3 n3 => ?_⟩
      refine ⟨(by show 2 ≤ sizeLine; decide), fun l4 n4 => ?_⟩
      refine ⟨_, rfl, _, _, rfl, rfl, .inr ⟨_, rfl, ?_⟩⟩
      have sA := same_upd (o := .lst [.str p.1]) n1
      have e1 : (upd H2 l1 (.lst [.str p.1])) l1 = some (.lst [.str p.1]) := upd_same
      have sB := same_upd (o := .lst [.str (p.1 ++ (":0" : Str)), .str (p.1 ++ (":1" : Str)), .str (p.1 ++ (":2" : Str))]) n2
      have e1 := sB _ _ e1
      have sB := Same.trans sA sB
      have sC := same_upd (o := .lst (cutV [.str (p.1 ++ (":0" : Str)), .str (p.1 ++ (":1" : Str)), .str (p.1 ++ (":2" : Str))] none (some (p.2 : Int)))) n3
      have e1 := sC _ _ e1
      have e3 : (upd (upd (upd H2 l1 (.lst [.str p.1])) l2 (.lst [.str (p.1 ++ (":0" : Str)), .str (p.1 ++ (":1" : Str)), .str (p.1 ++ (":2" : Str))])) l3 (.lst (cutV [.str (p.1 ++ (":0" : Str)), .str (p.1 ++ (":1" : Str)), .str (p.1 ++ (":2" : Str))] none (some (p.2 : Int))))) l3 = some (.lst (cutV [.str (p.1 ++ (":0" : Str)), .str (p.1 ++ (":1" : Str)), .str (p.1 ++ (":2" : Str))] none (some (p.2 : Int)))) := upd_same
      have sC := Same.trans sB sC
      have sD := same_upd (o := .lst [.ref l1, .ref l3]) n4
      have e1 := sD _ _ e1
      have e3 := sD _ _ e3
      have e4 : (upd (upd (upd (upd H2 l1 (.lst [.str p.1])) l2 (.lst [.str (p.1 ++ (":0" : Str)), .str (p.1 ++ (":1" : Str)), .str (p.1 ++ (":2" : Str))])) l3 (.lst (cutV [.str (p.1 ++ (":0" : Str)), .str (p.1 ++ (":1" : Str)), .str (p.1 ++ (":2" : Str))] none (some (p.2 : Int))))) l4 (.lst [.ref l1, .ref l3])) l4 = some (.lst [.ref l1, .ref l3]) := upd_same
      have sD := Same.trans sC sD
      have hlen : (wIns (ins.take i)).length ≤ 18 := wIns_len_le (by rw [List.length_take]; omega) fun p hp => hw p (List.mem_of_mem_take hp)
      have hwl : (wIn p).length ≤ 3 := by rw [wIn_len hw1.1]; exact hw1.2
      have em : (wIns (ins.take (i + 1))).map V.str = (wIns (ins.take i)).map V.str ++ (wIn p).map V.str := by rw [take_snoc hp, wIns_snoc, List.map_append]
      by_cases hc : p.2 = 1
      · have hd : decide ((1 : Int) < (p.2 : Int)) = false := decide_eq_false (by omega)
        rw [hd]
        have ew : wIn p = [p.1] := by unfold wIn; rw [if_pos hc]
        refine ⟨l4, _, 0, .ref l1, rfl, rfl, .of e4, atI_n (j := 0) rfl rfl, fp, l1, _, _, rfl, rfl, sD _ _ ef, e1, ?_, fun fp2 nf2 => ?_⟩
        · rw [List.length_map]
          exact size_ok (by show (wIns (ins.take i)).length + 1 ≤ 100000; omega)
        · refine ⟨fp2, _, _, rfl, Same.trans (Same.trans s2 sD) (same_upd nf2), ?_⟩
          rw [upd_same, em, ew]
          rfl
      · have hd : decide ((1 : Int) < (p.2 : Int)) = true := decide_eq_true (by omega)
        rw [hd]
        have e3 := e3.trans (congrArg (fun z => some (HO.lst z)) (wIn_cut hc hw1.2))
        refine ⟨l4, _, 1, .ref l3, rfl, rfl, .of e4, atI_n (j := 1) rfl rfl, fp, l3, _, (wIn p).map V.str, rfl, rfl, sD _ _ ef, e3, ?_, fun fp2 nf2 => ?_⟩
        · rw [List.length_map, List.length_map]
          exact size_ok (by show (wIns (ins.take i)).length + (wIn p).length ≤ 100000; omega)
        · refine ⟨fp2, _, _, rfl, Same.trans (Same.trans s2 sD) (same_upd nf2), ?_⟩
          rw [upd_same, em]
    · rintro σ H2 ⟨fp, y3, y4, rfl, s2, ef⟩
      rw [rx.1, List.take_length] at ef
      have hlen : (wIns ins).length ≤ 18 := wIns_len_le h6 hw
      refine ⟨.ref fp, rfl, .ref bb, rfl, fp, bb, _, _, rfl, rfl, ef, s2 _ _ hb, ?_, fun p np => ?_⟩
      · rw [List.length_map, List.length_map]
        exact size_ok (by omega)
      · refine q p _ (Same.trans s2 (same_upd np)) (Same.none s2 np) ?_
        rw [upd_same, List.map_append]
end
end BF

/-! BFq: the law's _law_gate_names. -/
namespace BF
open PySem PySem.Spec PyProof.Rows L2
open C8 (Cal Met Mak pe_c pe_mk pe_mt pe_mt0 pe_gc tCut pss_cut cal0 met0 mak0 fnScope_by)

theorem ab_at {n : Nat} (h : n < 12) : (Str.ofString "abcdefghijkl").cps.toList[n]? = some (97 + n) := by
  have key : ((List.range 12).all fun n => decide ((Str.ofString "abcdefghijkl").cps.toList[n]? = some (97 + n))) = true := by decide +kernel
  exact of_decide_eq_true (List.all_eq_true.mp key n (List.mem_range.mpr h))
theorem mn_at {n : Nat} (h : n < 12) : (Str.ofString "mnopqrstuvwx").cps.toList[n]? = some (97 + (12 + n)) := by
  have key : ((List.range 12).all fun n => decide ((Str.ofString "mnopqrstuvwx").cps.toList[n]? = some (97 + (12 + n)))) = true := by decide +kernel
  exact of_decide_eq_true (List.all_eq_true.mp key n (List.mem_range.mpr h))
theorem ab_len : (Str.ofString "abcdefghijkl").length ≤ sizeLine ∧ (Str.ofString "mnopqrstuvwx").length ≤ sizeLine := by
  have h1 : (Str.ofString "abcdefghijkl").length = 12 := by decide +kernel
  have h2 : (Str.ofString "mnopqrstuvwx").length = 12 := by decide +kernel
  rw [h1, h2]
  exact ⟨by decide, by decide⟩
theorem yy_at {i : Nat} (h : i < 144) : spareY[i]? = some (yy i) := by
  unfold spareY
  rw [List.getElem?_map, List.getElem?_range h]
  rfl
theorem spareY_len : spareY.length = 144 := by unfold spareY; rw [List.length_map, List.length_range]
theorem spare_has2 {sp fs gs : List Str} (hn : sp.Nodup) (hl : fs.length + gs.length < sp.length) : ∃ x r, sp.filter (fun x => !decide (x ∈ fs) && !decide (x ∈ gs)) = x :: r ∧ x ∈ sp ∧ x ∉ fs := by
  obtain ⟨x, r, e, h1, h2⟩ := spare_has hn (fs := fs ++ gs) (by rw [List.length_append]; exact hl)
  refine ⟨x, r, ?_, h1, fun m => h2 (List.mem_append.mpr (.inl m))⟩
  rw [← e]
  congr 1
  funext y
  by_cases a : y ∈ fs <;> by_cases c : y ∈ gs <;> simp [a, c]
section
variable {P : Program} {w : World} {K : PySem.W.Frag} {mg : Str → Option Value} {base : Heap} {C aB aW aL : Addr}
def spGN : Sp := fun vs H Q _ => ∃ (t a1 a2 a3 : Addr) (N : Net) (hd : Int), vs = [.ref t, .int hd] ∧ NetAt H t a1 a2 a3 N ∧ GoodNet N ∧ ∀ (gn : List Str) (p : Addr) (H' : Hp), GoodGN N gn → Same H H' → H' p = some (.lst (gn.map V.str)) → Q (.ref p) H'
theorem ok_gn {f : Addr} {fd : FuncData} (T : Txt K mg w C aB aW aL) (cN : Cal P w K mg base 2 "_law_names" spNames []) (F : C8.Def K mg "_law_gate_names" sGateNames f fd) (b : Binds K fd ["net", "head"] []) : Cal P w K mg base 3 "_law_gate_names" spGN [] := by
  have sc : FnScope ["net", "head", "taken", "words", "found", "word", "spare", "name", "width", "n", "one"] ["net", "head"] (C8.fnScope sGateNames) := fnScope_by (by decide +kernel)
  refine cal0 F b .nil sc (fun vs H Q E h => ?_) (fun cdv A outer s H vs Q E hr h => ?_)
  · obtain ⟨t, a1, a2, a3, N, hd, rfl, _⟩ := h
    rfl
  · obtain ⟨t, a1, a2, a3, N, hd, rfl, HN, G, q⟩ := h
    refine ⟨_, pss_cons (ps_set (i := 2) sc.nd rfl (.inr rfl) (pe_lc (own := [("name", 7), ("width", 8)]) (g := gTup K 2 (gCons (gName 7) (gCons (gName 8) gNil))) (tt := tYes) (te := tVar 7) rfl sc.nd (pi_list (pe_ix ix_tup (pv 0) pe_int (fun _ _ => rfl)))
          (blkOk_by (own := [("name", 7), ("width", 8)]) (N := ["net", "head", "taken", "words", "found", "word", "spare", "name", "width", "n", "one"]) (sc := C8.fnScope sGateNames) (by decide +kernel))
          (fun _ _ _ _ _ => pg_tup rfl (pgs_cons (pg_name (i := 7) sc.nd rfl (Or.inl rfl)) (pgs_cons (pg_name (i := 8) sc.nd rfl (Or.inl rfl)) pgs_nil))) (fun _ _ _ _ _ => pts_nil) (fun _ _ _ _ _ => pv 7)))
      (pss_cons (ps_set (i := 3) sc.nd rfl (.inr rfl) (pe_c cN hr (by decide) rfl (pa_cons (pv 1) (pa_cons pe_int (pa_cons (pe_callB call_len_seq (by rfl) T.len PySem.boot_len (pa_cons (pe_ix ix_tup (pv 0) pe_int (fun _ _ => rfl)) pa_nil)) pa_nil)))))
      (pss_cons (ps_set (i := 4) sc.nd rfl (.inl rfl) (pe_lst pa_nil))
      (pss_cons (ps_for PassesOwn.never rfl (pi_list (pv 3)) (pg_name (i := 5) sc.nd rfl (.inl rfl))
        (pss_cut (ps_if (pt_cmpR op_in_seq (pv 5) (pv 2) (by rfl))
            (pss_cons (ps_setLc (i := 6) (own := [("n", 9)]) (g := gName 9) (tt := tYes) rfl sc.nd rfl rfl (sw_true rfl rfl rfl (by decide +kernel)) (pi_range1 (by rfl) T.range (pa_cons pe_int pa_nil))
                (blkOk_by (own := [("n", 9)]) (N := ["net", "head", "taken", "words", "found", "word", "spare", "name", "width", "n", "one"]) (sc := C8.fnScope sGateNames) (by decide +kernel))
                (fun _ _ _ _ _ => pg_name (i := 9) sc.nd rfl (Or.inl rfl)) (fun _ _ _ _ _ => pts_nil)
                (fun _ _ _ _ _ => pe_op op_add_str (pe_op op_add_str pe_str (pe_ix ix_str pe_str (pe_op op_fdiv (pv 9) pe_int) (fun _ _ => rfl))) (pe_ix ix_str pe_str (pe_op op_mod (pv 9) pe_int) (fun _ _ => rfl))))
            (pss_one (ps_set (i := 5) sc.nd rfl (.inl rfl) (pe_ix ix_list (pe_lc (own := [("one", 10)]) (g := gName 10) (tt := tAnd (tTest (tOp (rIn K true) (tVar 10) (tVar 2))) (tTest (tOp (rIn K true) (tVar 10) (tVar 3)))) rfl sc.nd (pi_list (pv 6))
                (blkOk_by (own := [("one", 10)]) (N := ["net", "head", "taken", "words", "found", "word", "spare", "name", "width", "n", "one"]) (sc := C8.fnScope sGateNames) (by decide +kernel))
                (fun _ _ _ _ _ => pg_name (i := 10) sc.nd rfl (Or.inl rfl)) (fun _ _ _ _ _ => pts_one (PW.pt (pw_and (pt_cmpR op_notIn_seq (pv 10) (pv 2) (by rfl)) (pw_and1 (pt_cmpR op_notIn_seq (pv 10) (pv 3) (by rfl)))))) (fun _ _ _ _ _ => pv 10)) pe_int (fun _ _ => rfl))))) pss_nil)
        (pss_cons (ps_expr (pe_bm PySem.F.plainAttrs_list PySem.F.slot_list_append PySem.F.type_list_append mt_append (pv 4) (pa_cons (pv 5) pa_nil)))
        (pss_one (ps_expr (pe_bm PySem.F.plainAttrs_list PySem.F.slot_list_append PySem.F.type_list_append mt_append (pv 2) (pa_cons (pv 5) pa_nil)))))))
      (pss_one (ps_ret (pv 4)))))), ?_⟩
    obtain ⟨xs, hx, rx⟩ := id HN.ins
    obtain ⟨xg, hg, rg⟩ := id HN.gates
    have i6 := G.i6
    have g60 := G.g60
    refine ⟨.ref t, rfl, t, _, 0, _, rfl, rfl, .of HN.tp, atI_nat (j := 0) rfl, a1, rfl, ⟨_, .of hx⟩, fun TK nTK => ?_⟩
    refine lc_list (K := K) (a := a1) (xs := xs) (fun j H4 => Same H H4 ∧ H4 TK = some (.lst (((N.ins.take j).map (·.1)).map V.str))) ⟨same_upd nTK, upd_same⟩ (fun j H4 _ h => .of (h.1 _ _ hx)) ?_ ?_
    · rintro j v H4 hv ⟨s4, eD⟩
      obtain ⟨p, hp, u, rfl, hu⟩ := rx.at hv
      refine ⟨u, _, rfl, .of (s4 _ _ hu), rfl, _, _, rfl, _, _, rfl, rfl, rfl, _, rfl, _, eD, ?_, fun b o e => ?_, ?_⟩
      · rw [List.length_map, List.length_map, List.length_take]
        exact size_lt (by omega)
      · rw [upd_ne (ne_of_none e nTK)]
        exact s4 _ _ e
      · rw [upd_same, take_snoc hp, List.map_append, List.map_append]
        rfl
    rintro H1 ⟨s1, eT⟩
    rw [rx.1, List.take_length] at eT
    refine ⟨_, rfl, .ref t, rfl, t, _, 1, _, rfl, rfl, .of (s1 _ _ HN.tp), atI_nat (j := 1) rfl, a2, xg, rfl, .inl (.of (s1 _ _ hg)), hd, 400, N.gates.length, ?_, by decide, g60, fun ws W H2 lW gW dW s2 nW eW => ?_⟩
    · show [V.int hd, V.int 400, V.int ((xg.length : Nat) : Int)] = _
      rw [rg.1]
      rfl
    have eT2 := s2 _ _ eT
    have s2' := Same.trans s1 s2
    refine ⟨Nat.zero_le _, fun FD nFD => ?_⟩
    have s3 := same_upd (o := .lst []) nFD
    have eT3 := s3 _ _ eT2
    have eW3 := s3 _ _ eW
    have nF0 : H FD = none := Same.none s2' nFD
    have dTF : TK ≠ FD := ne_of_none eT2 nFD
    have dWF : W ≠ FD := ne_of_none eW nFD
    have dTW : TK ≠ W := ne_of_none eT nW
    refine ⟨.ref W, rfl, W, rfl, ⟨_, .of eW3⟩, for_list (K := K) (a := W) (xs := ws.map V.str) (fun i σ H4 => ∃ (gn : List Str) (y5 y6 : Option V), σ = [some (.ref t), some (.int hd), some (.ref TK), some (.ref W), some (.ref FD), y5, y6, none, none, none, none] ∧
      Same H H4 ∧ H4 TK = some (.lst ((N.ins.map (·.1) ++ gn).map V.str)) ∧ H4 W = some (.lst (ws.map V.str)) ∧ H4 FD = some (.lst (gn.map V.str)) ∧ gn.length = i ∧ (∀ x ∈ gn, GN x) ∧ (N.ins.map (·.1) ++ gn).Nodup)
      ⟨[], none, none, rfl, Same.trans s2' s3, by rw [List.append_nil]; exact eT3, eW3, upd_same, rfl, (fun _ h => by cases h), by rw [List.append_nil]; exact G.ind⟩ (fun i σ H4 _ ⟨_, _, _, _, _, _, h, _⟩ => .of h) ?_ ?_⟩
    · rintro i v σ H4 hv ⟨gn, y5, y6, rfl, s4, hT, hW, hF, el, hok, hnd⟩
      rw [List.getElem?_map] at hv
      obtain ⟨x, hx0, rfl⟩ := Option.map_eq_some_iff.mp hv
      have hi : i < ws.length := (List.getElem?_eq_some_iff.mp hx0).1
      refine ⟨fun σ' H' => ∃ x y6, σ' = [some (.ref t), some (.int hd), some (.ref TK), some (.ref W), some (.ref FD), some (.str x), y6, none, none, none, none] ∧ GN x ∧ x ∉ N.ins.map (·.1) ++ gn ∧ Same H4 H', ?_, ?_⟩
      · refine ⟨_, rfl, .ref TK, rfl, TK, _, rfl, .inl (.of hT), rfl, flat_strs _, decide (x ∈ N.ins.map (·.1) ++ gn), congrArg V.bl (inV_str _ _), ?_⟩
        cases hb : decide (x ∈ N.ins.map (·.1) ++ gn) with
        | false => exact iteF ⟨x, y6, rfl, gW x (List.mem_of_getElem? hx0), of_decide_eq_false hb, Same.refl _⟩
        | true =>
          refine iteT ?_
          refine ⟨144, rfl, by decide, by decide, fun D nD => ?_⟩
          refine lc_it (walk_range (lo := 0) (n := 144)) (fun j H5 => Same H4 H5 ∧ H5 D = some (.lst ((spareY.take j).map V.str))) ⟨same_upd nD, upd_same⟩ (fun _ _ _ _ => trivial) ?_ ?_
          · rintro j v H5 H5' hj ⟨s5, eD⟩ ⟨e5, ev⟩
            subst e5 ev
            have x1 := ab_at (n := j / 12) (by omega)
            have x2 := mn_at (n := j % 12) (by omega)
            refine ⟨rfl, _, rfl, _, _, rfl, rfl, ⟨by decide, by decide⟩, _, _, 97 + j / 12, rfl, rfl, ab_len.1, atI_n (by show (0 + (j : Int)) / 12 = _; omega) x1, ?_⟩
            have hyy : ("y" : Str).length = 1 := by decide +kernel
            refine ⟨_, _, rfl, rfl, size_ok (by rw [hyy, one_len]; decide), _, rfl, _, _, rfl, rfl, (by show (0 : Int) < 12; decide), _, _, 97 + (12 + j % 12), rfl, rfl, ab_len.2, atI_n (by show (0 + (j : Int)) % 12 = _; omega) x2, ?_⟩
            refine ⟨_, _, rfl, rfl, size_ok (by rw [len_app, hyy, one_len, one_len]; decide), ?_⟩
            refine ⟨_, eD, ?_, fun b o e => ?_, ?_⟩
            · rw [List.length_map, List.length_take]
              exact size_lt (by omega)
            · rw [upd_ne (ne_of_none e nD)]
              exact s5 _ _ e
            · rw [upd_same, take_snoc (yy_at hj), List.map_append]
              rfl
          rintro H5 ⟨s5, eD⟩
          have eD : H5 D = some (.lst (spareY.map V.str)) := by
            rw [List.take_of_length_le (by rw [spareY_len]; exact Nat.le_refl _)] at eD
            exact eD
          refine ⟨.ref D, rfl, D, rfl, ⟨_, .of eD⟩, fun D2 nD2 => ?_⟩
          refine lc_list (K := K) (a := D) (xs := spareY.map V.str) (fun j H6 => Same H5 H6 ∧ H6 D2 = some (.lst (((spareY.take j).filter fun x => !decide (x ∈ N.ins.map (·.1) ++ gn) && !decide (x ∈ ws)).map V.str))) ⟨same_upd nD2, upd_same⟩ (fun j H6 _ h => .of (h.1 _ _ eD)) ?_ ?_
          · rintro j v H6 hv ⟨s6, e6⟩
            rw [List.getElem?_map] at hv
            obtain ⟨x, hx, rfl⟩ := Option.map_eq_some_iff.mp hv
            have ef := filter_snoc (p := fun x => !decide (x ∈ N.ins.map (·.1) ++ gn) && !decide (x ∈ ws)) hx
            have keepIt : ∀ (bb : Bool), (!decide (x ∈ N.ins.map (·.1) ++ gn) && !decide (x ∈ ws)) = bb → (if bb = true then tVar 10 ([some (.ref t), some (.int hd), some (.ref TK), some (.ref W), some (.ref FD), some (.str ‹Str›), some (.ref D), none, none, none, some (.str x)] : L2.St) H6 fun y H4 => ∃ acc, H4 D2 = some (.lst acc) ∧ acc.length < sizeLine ∧
                Same H5 (upd H4 D2 (.lst (acc ++ [y]))) ∧ (upd H4 D2 (.lst (acc ++ [y]))) D2 = some (.lst (((spareY.take (j + 1)).filter fun x => !decide (x ∈ N.ins.map (·.1) ++ gn) && !decide (x ∈ ws)).map V.str)) else
                Same H5 H6 ∧ H6 D2 = some (.lst (((spareY.take (j + 1)).filter fun x => !decide (x ∈ N.ins.map (·.1) ++ gn) && !decide (x ∈ ws)).map V.str))) := fun bb hbb => by
              cases bb with
              | false =>
                refine iteF ⟨s6, ?_⟩
                rw [ef]
                simp only [hbb]
                rw [if_neg Bool.false_ne_true, List.append_nil]
                exact e6
              | true =>
                refine iteT ⟨.str x, rfl, _, e6, ?_, fun b o e => ?_, ?_⟩
                · rw [List.length_map]
                  have := List.length_filter_le (fun x => !decide (x ∈ N.ins.map (·.1) ++ gn) && !decide (x ∈ ws)) (spareY.take j)
                  rw [List.length_take] at this
                  have h144 := spareY_len
                  exact size_lt (by omega)
                · rw [upd_ne (ne_of_none e nD2)]
                  exact s6 _ _ e
                · rw [upd_same, ef]
                  simp only [hbb, if_true, List.map_append]
                  rfl
            refine ⟨rfl, .str x, rfl, .ref TK, rfl, TK, _, rfl, .inl (.of (s6 _ _ (s5 _ _ hT))), rfl, flat_strs _, !decide (x ∈ N.ins.map (·.1) ++ gn), congrArg V.bl (congrArg Bool.not (inV_str _ _)), ?_⟩
            cases h1 : !decide (x ∈ N.ins.map (·.1) ++ gn) with
            | false =>
              refine iteF ?_
              exact keepIt false (by rw [h1]; rfl)
            | true =>
              refine iteT ⟨.str x, rfl, .ref W, rfl, W, _, rfl, .inl (.of (s6 _ _ (s5 _ _ hW))), rfl, flat_strs _, !decide (x ∈ ws), congrArg V.bl (congrArg Bool.not (inV_str _ _)), ?_⟩
              exact keepIt _ (by rw [h1, Bool.true_and])
          rintro H6 ⟨s6, e6⟩
          rw [List.length_map, List.take_length] at e6
          obtain ⟨z, rr, ex, hz1, hz2⟩ := spare_has2 spareY_nd (fs := N.ins.map (·.1) ++ gn) (gs := ws) (by rw [spareY_len, List.length_append, List.length_map]; omega)
          rw [ex] at e6
          refine ⟨D2, _, 0, .str z, rfl, rfl, .of e6, atI_n (j := 0) rfl rfl, ?_⟩
          exact ⟨z, some (.ref D), rfl, spareY_gn z hz1, hz2, Same.trans s5 s6⟩
      rintro σ' H5 ⟨x, y6, rfl, gx, hx1, s5⟩
      have hT := s5 _ _ hT
      have hW := s5 _ _ hW
      have hF := s5 _ _ hF
      have s5 := Same.trans s4 s5
      refine ⟨.ref FD, rfl, .inl ⟨rfl, _, .of hF⟩, _, rfl, FD, _, _, rfl, rfl, hF, ?_, ?_⟩
      · rw [List.length_map]
        exact size_lt (by omega)
      have hT6 : (upd H5 FD (.lst (gn.map V.str ++ [.str x]))) TK = some (.lst ((N.ins.map (·.1) ++ gn).map V.str)) := by
        rw [upd_ne dTF]
        exact hT
      refine ⟨.ref TK, rfl, .inl ⟨rfl, _, .of hT6⟩, _, rfl, TK, _, _, rfl, rfl, hT6, ?_, ?_⟩
      · rw [List.length_map, List.length_append, List.length_map]
        exact size_lt (by omega)
      refine ⟨gn ++ [x], _, _, rfl, same_own (same_own s5 nF0) nTK, ?_, ?_, ?_, ?_, ?_, ?_⟩
      · rw [upd_same, ← List.append_assoc, List.map_append (l₁ := List.map _ _ ++ gn)]
        rfl
      · rw [upd_ne dTW.symm, upd_ne dWF]
        exact hW
      · rw [upd_ne dTF.symm, upd_same, List.map_append]
        rfl
      · rw [List.length_append, el]
        rfl
      · intro y hy
        rcases List.mem_append.mp hy with hy | hy
        · exact hok y hy
        · rw [List.mem_singleton.mp hy]
          exact gx
      · rw [← List.append_assoc]
        exact snoc_nd hnd hx1
    · rintro σ H4 ⟨gn, y5, y6, rfl, s4, hT, hW, hF, el, hok, hnd⟩
      rw [List.length_map, lW] at el
      exact ⟨.ref FD, rfl, q gn FD H4 ⟨el, hok, hnd⟩ s4 hF⟩
end
end BF

/-! BFr: the law's _law_rows. -/
namespace BF
open PySem PySem.Spec PyProof.Rows L2
open C8 (Cal Met Mak pe_c pe_mk pe_mt pe_mt0 pe_gc tCut pss_cut cal0 met0 mak0 fnScope_by)

/-- sep.join(list of texts), by values -/
def rJoin (K : PySem.W.Frag) : V → List V → Hp → VK → Prop := fun x xs H Q => ∃ a p, ∃ ys : List Str, x = .str a ∧ xs = [.ref p] ∧ (SqL K H p (ys.map V.str) ∨ SqT K H p (ys.map V.str)) ∧ (ys.map (·.length)).sum + ys.length * a.length ≤ 16777216 ∧ Q (.str (Txt.join a ys)) H
def rStr : List V → Hp → VK → Prop := fun xs H Q => ∃ i, xs = [.int i] ∧ i.natAbs.log2 < 1920 ∧ Q (.str (toString i)) H
theorem str_dig {k : Nat} (h1 : 1 ≤ k) (h3 : k ≤ 3) : Str.ofString (toString (k : Int)) = dig k := by
  have h : k = 1 ∨ k = 2 ∨ k = 3 := by omega
  rcases h with rfl | rfl | rfl <;> decide +kernel
theorem fits_words {r : Row} (h : r.Ok) : (r.words.map (·.length)).sum + r.words.length * (" " : Str).length ≤ 16777216 := by
  have h1 := sum_le (b := 10) fun x hx => (words_plain h x hx).2
  have h2 := (words_len h).1
  rw [blank_len]
  omega
theorem gates_at {N : Net} {gn : List Str} {W : List Str} {i : Nat} {g : Gate} {n : Str} (hg : N.gates[i]? = some g) (hn : gn[i]? = some n) : (List.zipWith (rowG W) N.gates gn)[i]? = some (rowG W g n) :=
  List.getElem?_zipWith_eq_some.mpr ⟨g, n, hg, hn, rfl⟩
theorem texts_snoc {rs : List Row} {i : Nat} {r : Row} (h : rs[i]? = some r) : ((rs.take (i + 1)).map Row.text).map V.str = ((rs.take i).map Row.text).map V.str ++ [.str r.text] := by
  rw [take_snoc h, List.map_append, List.map_append]
  rfl
theorem rows_in {N : Net} {gn : List Str} {i : Nat} {p : Str × Nat} (h : N.ins[i]? = some p) : (rowsR N gn)[i]? = some (.inn p) := by
  have hi : i < N.ins.length := (List.getElem?_eq_some_iff.mp h).1
  unfold rowsR
  rw [List.getElem?_append_left (by rw [List.length_map]; exact hi), List.getElem?_map, h]
  rfl
theorem rows_gate {N : Net} {gn : List Str} {i : Nat} {g : Gate} {n : Str} (hg : N.gates[i]? = some g) (hn : gn[i]? = some n) : (rowsR N gn)[N.ins.length + i]? = some (rowG (wAll N gn) g n) := by
  have hi : i < N.gates.length := (List.getElem?_eq_some_iff.mp hg).1
  have hj : i < gn.length := (List.getElem?_eq_some_iff.mp hn).1
  unfold rowsR
  rw [List.getElem?_append_right (by rw [List.length_map]; omega), List.length_map, Nat.add_sub_cancel_left, List.getElem?_append_left (by rw [List.length_zipWith]; omega)]
  exact gates_at hg hn
theorem rows_out {N : Net} {gn : List Str} (hl : gn.length = N.gates.length) {i : Nat} {o : Str × List Nat} (h : N.outs[i]? = some o) : (rowsR N gn)[N.ins.length + N.gates.length + i]? = some (rowO (wAll N gn) o) := by
  unfold rowsR
  rw [List.getElem?_append_right (by rw [List.length_map]; omega), List.length_map, List.getElem?_append_right (by rw [List.length_zipWith]; omega), List.length_zipWith, List.getElem?_map]
  have e : N.ins.length + N.gates.length + i - N.ins.length - min N.gates.length gn.length = i := by omega
  rw [e, h]
  rfl
theorem gw_at (s : Bool) : atI [V.str ("gate" : Str), V.str ("sure" : Str)] (if s = true then 1 else 0) = some (.str (gw s)) := by cases s <;> rfl
theorem pick_snoc {W : List Str} {is : List Nat} {j i : Nat} (h : is[j]? = some i) : (pick W (is.take (j + 1))).map V.str = (pick W (is.take j)).map V.str ++ [.str (W.getD i Str.empty)] := by
  unfold pick
  rw [take_snoc h, List.map_append, List.map_append]
  rfl
section
variable {P : Program} {w : World} {K : PySem.W.Frag} {mg : Str → Option Value} {base : Heap} {C aB aW aL : Addr}
/-- the turns of the comprehension over the numbers of wires -/
theorem pick_loop {a wp : Addr} {W : List Str} {is : List Nat} {σ : L2.St} {H1 : Hp} {D : Addr} {i j : Nat} {Qd : Hp → Prop} (hi : i < σ.length) (hj : σ[j]? = some (some (.ref wp))) (hij : i ≠ j) (hlt : ∀ x ∈ is, x < W.length) (hl : is.length ≤ 1000) (ha : H1 a = some (.tup (nums is))) (hw : H1 wp = some (.lst (W.map V.str))) (nD : H1 D = none)
    (hd : ∀ H, Same H1 H → H D = some (.lst ((pick W is).map V.str)) → Qd H) :
    ∃ Wv : Nat → Nat → Hp → Prop, (∃ m, Wv 0 m (upd H1 D (.lst []))) ∧ ∀ k m H, Wv k m H →
      ((Itt K a).stop k H ∧ Qd H) ∨ ((Itt K a).go k H ∧ ∃ Nx : Hp → Prop, (∀ H', Nx H' → ∃ m', m' < m ∧ Wv (k + 1) m' H') ∧ ∀ x H', (Itt K a).yld k H x H' → gName i x (wipe σ [i]) H' fun σ2 H2 => wipe σ2 [i] = wipe σ [i] ∧ tYes σ2 H2 fun b H3 =>
        if b = true then tOp (rIxL K) (tVar j) (tVar i) σ2 H3 fun y H4 => ∃ acc, H4 D = some (.lst acc) ∧ acc.length < sizeLine ∧ Nx (upd H4 D (.lst (acc ++ [y]))) else Nx H3) := by
  refine lc_tup (K := K) (a := a) (xs := nums is) (fun k H2 => Same H1 H2 ∧ H2 D = some (.lst ((pick W (is.take k)).map V.str))) ⟨same_upd nD, upd_same⟩ (fun k H2 _ h => .of (h.1 _ _ ha)) ?_ ?_
  · rintro k v H2 hv ⟨s1, eD⟩
    unfold nums at hv
    rw [List.getElem?_map] at hv
    obtain ⟨x, hx, rfl⟩ := Option.map_eq_some_iff.mp hv
    have hxl := hlt x (List.mem_of_getElem? hx)
    have e1 : ((wipe σ [i]).set i (some (.int (x : Int))))[j]? = some (some (.ref wp)) := by
      rw [List.getElem?_set_ne hij]
      show (σ.set i none)[j]? = _
      rw [List.getElem?_set_ne hij]
      exact hj
    have e2 : ((wipe σ [i]).set i (some (.int (x : Int))))[i]? = some (some (.int (x : Int))) := by
      rw [List.getElem?_set_self]
      simp [wipe, hi]
    refine ⟨by simp [wipe], .ref wp, e1, .int (x : Int), e2, wp, _, (x : Int), .str (W.getD x Str.empty), rfl, rfl, .of (s1 _ _ hw), atI_nat (j := x) ?_, ?_⟩
    · refine at_str ?_
      rw [List.getD_eq_getElem?_getD, List.getElem?_eq_getElem hxl]
      rfl
    · refine ⟨_, eD, ?_, fun b o e => ?_, ?_⟩
      · unfold pick
        rw [List.length_map, List.length_map, List.length_take]
        exact size_lt (by omega)
      · rw [upd_ne (ne_of_none e nD)]
        exact s1 _ _ e
      · rw [upd_same, pick_snoc hx]
  · rintro H2 ⟨s1, eD⟩
    have el : is.take (nums is).length = is := by
      unfold nums
      rw [List.length_map, List.take_length]
    rw [el] at eD
    exact hd H2 s1 eD
def spRows : Sp := fun vs H Q _ => ∃ (t a1 a2 a3 b : Addr) (N : Net) (gn : List Str), vs = [.ref t, .ref b] ∧ NetAt H t a1 a2 a3 N ∧ H b = some (.lst (gn.map V.str)) ∧ GoodNet N ∧ GoodGN N gn ∧
  ∀ p H', Same H H' → H' p = some (.lst (((rowsR N gn).map Row.text).map V.str)) → Q (.ref p) H'
theorem ok_rows {f : Addr} {fd : FuncData} (T : Txt K mg w C aB aW aL) (cW : Cal P w K mg base 1 "_law_words" spWords []) (F : C8.Def K mg "_law_rows" sRows f fd) (b : Binds K fd ["net", "gate_names"] []) : Cal P w K mg base 2 "_law_rows" spRows [] := by
  have sc : FnScope ["net", "gate_names", "ins", "gates", "outs", "words", "name", "rows", "place", "kind", "wires", "sure", "row", "width", "wire"] ["net", "gate_names"] (C8.fnScope sRows) := fnScope_by (by decide +kernel)
  refine cal0 F b .nil sc (fun vs H Q E h => ?_) (fun cdv A outer s H vs Q E hr h => ?_)
  · obtain ⟨t, a1, a2, a3, b, N, gn, rfl, _⟩ := h
    rfl
  · obtain ⟨t, a1, a2, a3, b, N, gn, rfl, HN, hb, G, GG, q⟩ := h
    refine ⟨_, pss_cons (ps_asg (pv 0) (pg_tup rfl (pgs_cons (pg_name (i := 2) sc.nd rfl (.inl rfl)) (pgs_cons (pg_name (i := 3) sc.nd rfl (.inl rfl)) (pgs_cons (pg_name (i := 4) sc.nd rfl (.inl rfl)) pgs_nil)))))
      (pss_cons (ps_set (i := 5) sc.nd rfl (.inr rfl) (pe_c cW hr (by decide) rfl (pa_cons (pv 2) (pa_cons (pv 1) pa_nil))))
      (pss_cons (ps_setLc (i := 7) (own := [("name", 6), ("width", 13)]) (g := gTup K 2 (gCons (gName 6) (gCons (gName 13) gNil))) (tt := tYes)
          (te := tM1 (rJoin K) (tC (.str (" " : Str))) (tLst (tCons (tC (.str ("in" : Str))) (tCons (tVar 6) (tCons (tCB rStr (tCons (tVar 13) tNil)) tNil))))) rfl sc.nd rfl rfl (sw_true rfl rfl rfl (by decide +kernel)) (pi_list (pv 2))
          (blkOk_by (own := [("name", 6), ("width", 13)]) (N := ["net", "gate_names", "ins", "gates", "outs", "words", "name", "rows", "place", "kind", "wires", "sure", "row", "width", "wire"]) (sc := C8.fnScope sRows) (by decide +kernel))
          (fun _ _ _ _ _ => pg_tup rfl (pgs_cons (pg_name (i := 6) sc.nd rfl (Or.inl rfl)) (pgs_cons (pg_name (i := 13) sc.nd rfl (Or.inl rfl)) pgs_nil))) (fun _ _ _ _ _ => pts_nil)
          (fun _ _ _ _ _ => pe_join pe_str (pe_lst (pa_cons pe_str (pa_cons (pv 6) (pa_cons (pe_callTy call_str_int (by rfl) T.str (by decide +kernel) (pa_cons (pv 13) pa_nil)) pa_nil))))))
      (pss_cons (ps_for PassesOwn.never rfl (pi_enum (by rfl) T.enum (pa_cons (pv 3) pa_nil)) (pg_tup rfl (pgs_cons (pg_name (i := 8) sc.nd rfl (.inl rfl)) (pgs_cons (pg_tup rfl (pgs_cons (pg_name (i := 9) sc.nd rfl (.inl rfl)) (pgs_cons (pg_name (i := 10) sc.nd rfl (.inl rfl)) (pgs_cons (pg_name (i := 11) sc.nd rfl (.inl rfl)) pgs_nil)))) pgs_nil)))
        (pss_cons (ps_set (i := 12) sc.nd rfl (.inl rfl) (pe_lst (pa_cons (pe_ix ix_list (pe_lst (pa_cons pe_str (pa_cons pe_str pa_nil))) (pe_callTy call_int1 (by rfl) T.int (by decide +kernel) (pa_cons (pv 11) pa_nil)) (fun _ _ => rfl))
            (pa_cons (pe_ix ix_list (pv 1) (pv 8) (fun _ _ => rfl)) (pa_cons (pv 9) pa_nil)))))
        (pss_one (ps_expr (pe_bm PySem.F.plainAttrs_list PySem.F.slot_list_append PySem.F.type_list_append mt_append (pv 7) (pa_cons (pe_join pe_str (pe_op op_cat (pv 12)
            (pe_lc (own := [("wire", 14)]) (g := gName 14) (tt := tYes) (te := tOp (rIxL K) (tVar 5) (tVar 14)) rfl sc.nd (pi_tup (pv 10))
              (blkOk_by (own := [("wire", 14)]) (N := ["net", "gate_names", "ins", "gates", "outs", "words", "name", "rows", "place", "kind", "wires", "sure", "row", "width", "wire"]) (sc := C8.fnScope sRows) (by decide +kernel))
              (fun _ _ _ _ _ => pg_name (i := 14) sc.nd rfl (Or.inl rfl)) (fun _ _ _ _ _ => pts_nil) (fun _ _ _ _ _ => pe_ix ix_list (pv 5) (pv 14) (fun _ _ => rfl))))) pa_nil))))))
      (pss_cons (ps_for PassesOwn.never rfl (pi_list (pv 4)) (pg_tup rfl (pgs_cons (pg_name (i := 6) sc.nd rfl (.inl rfl)) (pgs_cons (pg_name (i := 10) sc.nd rfl (.inl rfl)) pgs_nil)))
        (pss_one (ps_expr (pe_bm PySem.F.plainAttrs_list PySem.F.slot_list_append PySem.F.type_list_append mt_append (pv 7) (pa_cons (pe_join pe_str (pe_op op_cat (pe_lst (pa_cons pe_str (pa_cons (pv 6) pa_nil)))
            (pe_lc (own := [("wire", 14)]) (g := gName 14) (tt := tYes) (te := tOp (rIxL K) (tVar 5) (tVar 14)) rfl sc.nd (pi_tup (pv 10))
              (blkOk_by (own := [("wire", 14)]) (N := ["net", "gate_names", "ins", "gates", "outs", "words", "name", "rows", "place", "kind", "wires", "sure", "row", "width", "wire"]) (sc := C8.fnScope sRows) (by decide +kernel))
              (fun _ _ _ _ _ => pg_name (i := 14) sc.nd rfl (Or.inl rfl)) (fun _ _ _ _ _ => pts_nil) (fun _ _ _ _ _ => pe_ix ix_list (pv 5) (pv 14) (fun _ _ => rfl))))) pa_nil)))))
      (pss_one (ps_ret (pv 7))))))), ?_⟩
    obtain ⟨xs, hx, rx⟩ := id HN.ins
    obtain ⟨xg, hg, rg⟩ := id HN.gates
    obtain ⟨xo, hO, ro⟩ := id HN.outs
    have i6 := G.i6
    have g60 := G.g60
    have o6 := G.o6
    have hok := rows_ok G GG
    have hrl := rows_len N gn GG.len
    have hWl := wAll_len G GG
    have hgl := GG.len
    refine ⟨.ref t, rfl, t, _, rfl, .of HN.tp, rfl, _, _, rfl, _, _, rfl, _, _, rfl, rfl, ?_⟩
    refine ⟨.ref a1, rfl, .ref b, rfl, a1, b, N.ins, gn, rfl, HN.ins, hb, i6, G.iw, (fun p hp => (G.inm p hp).l8), by omega, fun W H1 s1 nW eW => ?_⟩
    have eW : H1 W = some (.lst ((wAll N gn).map V.str)) := eW
    refine ⟨.ref a1, rfl, a1, rfl, ⟨_, .of (s1 _ _ hx)⟩, fun RP nRP => ?_⟩
    have nR0 : H RP = none := Same.none s1 nRP
    have dWR : W ≠ RP := ne_of_none eW nRP
    refine lc_list (K := K) (a := a1) (xs := xs) (fun j H4 => Same H1 H4 ∧ H4 RP = some (.lst ((((rowsR N gn).take j).map Row.text).map V.str))) ⟨same_upd nRP, upd_same⟩ (fun j H4 _ h => .of (h.1 _ _ (s1 _ _ hx))) ?_ ?_
    · rintro j v H4 hv ⟨s4, eD⟩
      obtain ⟨p, hp, u, rfl, hu⟩ := rx.at hv
      have hm := List.mem_of_getElem? hp
      have hr' := rows_in (gn := gn) hp
      have hro := hok _ (List.mem_of_getElem? hr')
      have w3 := G.iw p hm
      refine ⟨u, _, rfl, .of (s4 _ _ (s1 _ _ hu)), rfl, _, _, rfl, _, _, rfl, rfl, rfl, ⟨_, rfl⟩, _, rfl, _, rfl, (p.2 : Int), rfl, ?_, (by show 3 ≤ sizeLine; decide), fun l nl => ?_⟩
      · have h : p.2 = 1 ∨ p.2 = 2 ∨ p.2 = 3 := by omega
        rcases h with h | h | h <;> rw [h] <;> decide
      have s5 := same_upd (o := .lst [.str ("in" : Str), .str p.1, .str (Str.ofString (toString (p.2 : Int)))]) nl
      refine ⟨(" " : Str), l, (Row.inn p).words, rfl, rfl, .inl (.of ?_), fits_words hro, _, s5 _ _ eD, ?_, fun b o e => ?_, ?_⟩
      · rw [upd_same, str_dig w3.1 w3.2]
        rfl
      · rw [List.length_map, List.length_map, List.length_take]
        exact size_lt (by omega)
      · rw [upd_ne (ne_of_none e nRP)]
        exact s5 _ _ (s4 _ _ e)
      · rw [upd_same, texts_snoc hr']
        rfl
    rintro H2 ⟨s2, eR⟩
    rw [rx.1] at eR
    have eW2 := s2 _ _ eW
    have s2 := Same.trans s1 s2
    refine ⟨.ref a2, rfl, a2, xg, rfl, .of (s2 _ _ hg), for_it (walk_enum (K := K) (a := a2) (xs := xg)) (fun i σ H3 => ∃ (y8 y9 y10 y11 y12 : Option V), σ = [some (.ref t), some (.ref b), some (.ref a1), some (.ref a2), some (.ref a3), some (.ref W), none, some (.ref RP), y8, y9, y10, y11, y12, none, none] ∧
      Same H H3 ∧ H3 W = some (.lst ((wAll N gn).map V.str)) ∧ H3 RP = some (.lst ((((rowsR N gn).take (N.ins.length + i)).map Row.text).map V.str))) ⟨none, none, none, none, none, rfl, s2, eW2, eR⟩ (fun i σ H3 _ ⟨_, _, _, _, _, _, h, _⟩ => .of (h _ _ hg)) ?_ ?_⟩
    · rintro i v σ H3 H3' hi ⟨y8, y9, y10, y11, y12, rfl, s3, eW3, eR3⟩ ⟨Tt, x, y, rfl, nT, rfl, ex, ey⟩
      cases ex
      obtain ⟨g, hgi, u, uw, rfl, hu, huw⟩ := rg.at ey
      have hin : i < gn.length := by
        have := (List.getElem?_eq_some_iff.mp hgi).1
        omega
      have hni := List.getElem?_eq_getElem hin
      have hr' := rows_gate hgi hni
      have hro := hok _ (List.mem_of_getElem? hr')
      have sT := same_upd (o := .tup [.int (i : Int), .ref u]) nT
      have s4 := Same.trans s3 sT
      have eW4 := sT _ _ eW3
      have eR4 := sT _ _ eR3
      have ktl := kind_legs (G.gok i g hgi).kd
      have hgw := (G.gok i g hgi).ln
      refine ⟨Tt, _, rfl, .of upd_same, rfl, _, _, rfl, _, _, rfl, u, _, rfl, .of (s4 _ _ hu), rfl, _, _, rfl, _, _, rfl, _, _, rfl, rfl, rfl, ?_⟩
      generalize upd H3 Tt (.tup [.int (i : Int), .ref u]) = H4 at s4 eW4 eR4 ⊢
      refine ⟨(by show 2 ≤ sizeLine; decide), fun l1 n1 => ⟨_, rfl, .inr ⟨_, rfl, ?_⟩⟩⟩
      have s5 := same_upd (o := .lst [.str ("gate" : Str), .str ("sure" : Str)]) n1
      have s5' := Same.trans s4 s5
      refine ⟨l1, _, _, .str (gw g.sure), rfl, rfl, .of upd_same, gw_at _, .ref b, rfl, _, rfl, b, _, _, .str gn[i], rfl, rfl, .of (s5' _ _ hb), atI_nat (j := i) (at_str hni), _, rfl, (by show 3 ≤ sizeLine; decide), fun l2 n2 => ?_⟩
      have s6 := same_upd (o := .lst [.str (gw g.sure), .str gn[i], .str g.kind]) n2
      have e2 : (upd (upd H4 l1 (.lst [.str ("gate" : Str), .str ("sure" : Str)])) l2 (.lst [.str (gw g.sure), .str gn[i], .str g.kind])) l2 = some (.lst [.str (gw g.sure), .str gn[i], .str g.kind]) := upd_same
      have s56 := Same.trans s5 s6
      have eW6 := s56 _ _ eW4
      have eR6 := s56 _ _ eR4
      have s6 := Same.trans s4 s56
      generalize upd (upd H4 l1 (.lst [.str ("gate" : Str), .str ("sure" : Str)])) l2 (.lst [.str (gw g.sure), .str gn[i], .str g.kind]) = H6 at s6 e2 eW6 eR6 ⊢
      refine ⟨.ref RP, rfl, .inl ⟨rfl, _, .of eR6⟩, ⟨_, rfl⟩, .ref l2, rfl, .ref uw, rfl, uw, rfl, ⟨_, .of (s6 _ _ huw)⟩, fun D nD => ?_⟩
      refine pick_loop (W := wAll N gn) (is := g.wires) (by show 14 < 15; decide) rfl (by decide) (fun x hx => ?_) (by omega) (s6 _ _ huw) eW6 nD fun H7 s7 eD => ?_
      · have := (G.gok i g hgi).lt x hx
        have := (List.getElem?_eq_some_iff.mp hgi).1
        omega
      refine ⟨l2, D, _, _, rfl, rfl, s7 _ _ e2, eD, ?_, fun p np => ?_⟩
      · unfold pick
        rw [List.length_map, List.length_map]
        exact size_ok (by show 3 + g.wires.length ≤ 100000; omega)
      have s8 := same_upd (o := .lst ([.str (gw g.sure), .str gn[i], .str g.kind] ++ (pick (wAll N gn) g.wires).map V.str)) np
      have s78 := Same.trans s7 s8
      refine ⟨(" " : Str), p, (rowG (wAll N gn) g gn[i]).words, rfl, rfl, .inl (.of upd_same), fits_words hro, ?_⟩
      refine ⟨RP, _, _, rfl, rfl, s78 _ _ eR6, ?_, ?_⟩
      · rw [List.length_map, List.length_map, List.length_take]
        exact size_lt (by omega)
      refine ⟨_, _, _, _, _, rfl, same_own (Same.trans s6 s78) nR0, ?_, ?_⟩
      · rw [upd_ne dWR]
        exact s78 _ _ eW6
      · rw [upd_same, ← Nat.add_assoc, texts_snoc hr']
        rfl
    rintro σ H3 ⟨y8, y9, y10, y11, y12, rfl, s3, eW3, eR3⟩
    rw [rg.1] at eR3
    refine ⟨.ref a3, rfl, a3, rfl, ⟨_, .of (s3 _ _ hO)⟩, for_list (K := K) (a := a3) (xs := xo) (fun i σ H4 => ∃ (y6 y10 : Option V), σ = [some (.ref t), some (.ref b), some (.ref a1), some (.ref a2), some (.ref a3), some (.ref W), y6, some (.ref RP), y8, y9, y10, y11, y12, none, none] ∧
      Same H H4 ∧ H4 W = some (.lst ((wAll N gn).map V.str)) ∧ H4 RP = some (.lst ((((rowsR N gn).take (N.ins.length + N.gates.length + i)).map Row.text).map V.str))) ⟨none, y10, rfl, s3, eW3, eR3⟩ (fun i σ H4 _ ⟨_, _, _, h, _⟩ => .of (h _ _ hO)) ?_ ?_⟩
    · rintro i v σ H4 hv ⟨y6, y10', rfl, s4, eW4, eR4⟩
      obtain ⟨o, ho, u, uw, rfl, hu, huw⟩ := ro.at hv
      have hr' := rows_out hgl ho
      have hro := hok _ (List.mem_of_getElem? hr')
      obtain ⟨k1, k3, klt⟩ := G.ook o (List.mem_of_getElem? ho)
      refine ⟨u, _, rfl, .of (s4 _ _ hu), rfl, _, _, rfl, _, _, rfl, rfl, ?_⟩
      refine ⟨.ref RP, rfl, .inl ⟨rfl, _, .of eR4⟩, ⟨_, rfl⟩, _, rfl, (by show 2 ≤ sizeLine; decide), fun l2 n2 => ?_⟩
      have s5 := same_upd (o := .lst [.str ("out" : Str), .str o.1]) n2
      have e2 : (upd H4 l2 (.lst [.str ("out" : Str), .str o.1])) l2 = some (.lst [.str ("out" : Str), .str o.1]) := upd_same
      have eW6 := s5 _ _ eW4
      have eR6 := s5 _ _ eR4
      have s6 := Same.trans s4 s5
      refine ⟨.ref uw, rfl, uw, rfl, ⟨_, .of (s6 _ _ huw)⟩, fun D nD => ?_⟩
      refine pick_loop (W := wAll N gn) (is := o.2) (by show 14 < 15; decide) rfl (by decide) (fun x hx => ?_) (by omega) (s6 _ _ huw) eW6 nD fun H7 s7 eD => ?_
      · have := klt x hx
        omega
      refine ⟨l2, D, _, _, rfl, rfl, s7 _ _ e2, eD, ?_, fun p np => ?_⟩
      · unfold pick
        rw [List.length_map, List.length_map]
        exact size_ok (by show 2 + o.2.length ≤ 100000; omega)
      have s8 := same_upd (o := .lst ([.str ("out" : Str), .str o.1] ++ (pick (wAll N gn) o.2).map V.str)) np
      have s78 := Same.trans s7 s8
      refine ⟨(" " : Str), p, (rowO (wAll N gn) o).words, rfl, rfl, .inl (.of upd_same), fits_words hro, ?_⟩
      refine ⟨RP, _, _, rfl, rfl, s78 _ _ eR6, ?_, ?_⟩
      · rw [List.length_map, List.length_map, List.length_take]
        exact size_lt (by omega)
      refine ⟨_, _, rfl, same_own (Same.trans s6 s78) nR0, ?_, ?_⟩
      · rw [upd_ne dWR]
        exact s78 _ _ eW6
      · rw [upd_same, ← Nat.add_assoc, texts_snoc hr']
        rfl
    rintro σ H4 ⟨y6, y10', rfl, s4, eW4, eR4⟩
    rw [ro.1, ← hrl, List.take_length] at eR4
    exact ⟨.ref RP, rfl, q RP H4 s4 eR4⟩
end
end BF

/-! BFs: the law. -/
namespace BF
open PySem PySem.Spec PyProof.Rows L2
open C8 (Cal Met Mak pe_c pe_mk pe_mt pe_mt0 pe_gc tCut pss_cut cal0 met0 mak0 fnScope_by)

theorem wipe_get {σ : L2.St} {k : Nat} : ∀ vs : List Nat, (wipe σ vs)[k]? = if k ∈ vs then (σ[k]?).map (fun _ => none) else σ[k]?
  | [] => by simp [wipe]
  | v :: vs => by
    show ((wipe σ vs).set v none)[k]? = _
    by_cases h : v = k
    · subst h
      rw [List.getElem?_set_self', wipe_get vs, if_pos List.mem_cons_self]
      by_cases hv : v ∈ vs
      · rw [if_pos hv]
        cases σ[v]? <;> rfl
      · rw [if_neg hv]
        cases σ[v]? <;> rfl
    · rw [List.getElem?_set_ne h, wipe_get vs]
      by_cases hv : k ∈ vs
      · rw [if_pos hv, if_pos (List.mem_cons_of_mem _ hv)]
      · rw [if_neg hv, if_neg (fun m => (List.mem_cons.mp m).elim (fun e => h e.symm) hv)]
theorem wipe_set {σ : L2.St} {i : Nat} {x : Option V} {vs : List Nat} (h : i ∈ vs) : wipe (σ.set i x) vs = wipe σ vs := by
  refine List.ext_getElem? fun k => ?_
  rw [wipe_get, wipe_get]
  by_cases hk : k ∈ vs
  · rw [if_pos hk, if_pos hk]
    by_cases e : i = k
    · subst e
      rw [List.getElem?_set_self']
      cases σ[i]? <;> rfl
    · rw [List.getElem?_set_ne e]
  · rw [if_neg hk, if_neg hk, List.getElem?_set_ne (fun e : i = k => hk (by rw [← e]; exact h))]
theorem wipe_wipe {σ : L2.St} {vs : List Nat} : wipe (wipe σ vs) vs = wipe σ vs := by
  refine List.ext_getElem? fun k => ?_
  rw [wipe_get, wipe_get]
  by_cases hk : k ∈ vs
  · rw [if_pos hk, if_pos hk]
    cases σ[k]? <;> rfl
  · rw [if_neg hk, if_neg hk]
theorem wipe3 {σ : L2.St} {i j k : Nat} {x y z : Option V} {vs : List Nat} (hi : i ∈ vs) (hj : j ∈ vs) (hk : k ∈ vs) : wipe ((((wipe σ vs).set i x).set j y).set k z) vs = wipe σ vs := by
  rw [wipe_set hk, wipe_set hj, wipe_set hi, wipe_wipe]
/-! ### nets turned -/
/-- other names -/
def rename {α : Type} (nm : List Str) (l : List (Str × α)) : List (Str × α) := List.zipWith (fun n p => (n, p.2)) nm l
theorem rename_at {α : Type} {nm : List Str} {l : List (Str × α)} {i : Nat} {n : Str} {p : Str × α} (hn : nm[i]? = some n) (hp : l[i]? = some p) : (rename nm l)[i]? = some (n, p.2) :=
  List.getElem?_zipWith_eq_some.mpr ⟨n, p, hn, hp, rfl⟩
theorem rename_len {α : Type} {nm : List Str} {l : List (Str × α)} (h : l.length ≤ nm.length) : (rename nm l).length = l.length := by
  unfold rename
  rw [List.length_zipWith]
  omega
theorem rename_fst {α : Type} : ∀ {nm : List Str} {l : List (Str × α)}, l.length ≤ nm.length → (rename nm l).map (·.1) = nm.take l.length
  | _, [], _ => by
    unfold rename
    rw [List.zipWith_nil_right]
    rfl
  | [], _ :: _, h => by simp at h
  | n :: nm, p :: r, h => by
    have ih := rename_fst (nm := nm) (l := r) (by simpa using h)
    show n :: (rename nm r).map (·.1) = n :: nm.take r.length
    rw [ih]
theorem rename_snd {α : Type} : ∀ {nm : List Str} {l : List (Str × α)}, l.length ≤ nm.length → (rename nm l).map (·.2) = l.map (·.2)
  | _, [], _ => by
    unfold rename
    rw [List.zipWith_nil_right]
  | [], _ :: _, h => by simp at h
  | n :: nm, p :: r, h => by
    have ih := rename_snd (nm := nm) (l := r) (by simpa using h)
    show p.2 :: (rename nm r).map (·.2) = p.2 :: r.map (·.2)
    rw [ih]
theorem rename_mem2 {α : Type} {nm : List Str} {l : List (Str × α)} (h : l.length ≤ nm.length) {q : Str × α} (hq : q ∈ rename nm l) : ∃ p ∈ l, p.2 = q.2 := by
  have m : q.2 ∈ (rename nm l).map (·.2) := List.mem_map.mpr ⟨q, hq, rfl⟩
  rw [rename_snd h] at m
  obtain ⟨p, hp, e⟩ := List.mem_map.mp m
  exact ⟨p, hp, e⟩
theorem rename_mem1 {α : Type} {nm : List Str} {l : List (Str × α)} (h : l.length ≤ nm.length) {q : Str × α} (hq : q ∈ rename nm l) : q.1 ∈ nm := by
  have m : q.1 ∈ (rename nm l).map (·.1) := List.mem_map.mpr ⟨q, hq, rfl⟩
  rw [rename_fst h] at m
  exact List.mem_of_mem_take m
theorem rename_first {nm : List Str} {l : List (Str × Nat)} (h : l.length ≤ nm.length) : first (rename nm l) = first l := by
  unfold first
  rw [rename_snd h]
theorem good_changed {N : Net} (G : GoodNet N) {nm nm2 : List Str} (h1 : nm.length = 6) (h2 : nm2.length = 6) (g1 : ∀ x ∈ nm, GN x) (g2 : ∀ x ∈ nm2, GN x) (d1 : nm.Nodup) (d2 : nm2.Nodup) :
    GoodNet ⟨rename nm N.ins, N.gates, rename nm2 N.outs⟩ := by
  have l1 : N.ins.length ≤ nm.length := by have := G.i6; omega
  have l2 : N.outs.length ≤ nm2.length := by have := G.o6; omega
  have ef := rename_first l1
  refine ⟨?_, ?_, fun p hp => ?_, fun p hp => g1 _ (rename_mem1 l1 hp), ?_, G.g60, fun i g hg => ?_, ?_, ?_, fun o ho => g2 _ (rename_mem1 l2 ho), ?_, fun o ho => ?_⟩
  · show 1 ≤ (rename nm N.ins).length
    rw [rename_len l1]
    exact G.i1
  · show (rename nm N.ins).length ≤ 6
    rw [rename_len l1]
    exact G.i6
  · obtain ⟨q, hq, e⟩ := rename_mem2 l1 hp
    rw [← e]
    exact G.iw q hq
  · show ((rename nm N.ins).map (·.1)).Nodup
    rw [rename_fst l1]
    exact d1.sublist (List.take_sublist _ _)
  · show GG (first (rename nm N.ins) + i) g
    rw [ef]
    exact G.gok i g hg
  · show 1 ≤ (rename nm2 N.outs).length
    rw [rename_len l2]
    exact G.o1
  · show (rename nm2 N.outs).length ≤ 6
    rw [rename_len l2]
    exact G.o6
  · show ((rename nm2 N.outs).map (·.1)).Nodup
    rw [rename_fst l2]
    exact d2.sublist (List.take_sublist _ _)
  · show 1 ≤ o.2.length ∧ o.2.length ≤ 3 ∧ ∀ w ∈ o.2, w < first (rename nm N.ins) + N.gates.length
    rw [ef]
    obtain ⟨q, hq, e⟩ := rename_mem2 l2 ho
    rw [← e]
    exact G.ook q hq
def flip (g : Gate) : Gate := ⟨g.kind, g.wires, !g.sure⟩
theorem good_turned {N : Net} (G : GoodNet N) : GoodNet ⟨N.ins, N.gates.map flip, N.outs⟩ := by
  refine ⟨G.i1, G.i6, G.iw, G.inm, G.ind, ?_, fun i g hg => ?_, G.o1, G.o6, G.onm, G.ond, fun o ho => ?_⟩
  · show (N.gates.map flip).length ≤ 60
    rw [List.length_map]
    exact G.g60
  · have hg : (N.gates.map flip)[i]? = some g := hg
    rw [List.getElem?_map] at hg
    obtain ⟨g0, h0, rfl⟩ := Option.map_eq_some_iff.mp hg
    have k := G.gok i g0 h0
    exact ⟨k.kd, k.ln, k.lt⟩
  · show 1 ≤ o.2.length ∧ o.2.length ≤ 3 ∧ ∀ w ∈ o.2, w < first N.ins + (N.gates.map flip).length
    rw [List.length_map]
    exact G.ook o ho
def voteG : Gate := ⟨("vote" : Str), [0, 0, 0], true⟩
theorem good_more {N : Net} (G : GoodNet N) (h : N.gates.length ≠ 60) : GoodNet ⟨N.ins, N.gates ++ [voteG], N.outs⟩ := by
  have hf : 1 ≤ first N.ins := by
    have h1 := G.i1
    cases e : N.ins with
    | nil => rw [e] at h1; simp at h1
    | cons p r =>
      have := (G.iw p (by rw [e]; exact List.mem_cons_self)).1
      unfold first
      rw [List.map_cons, List.sum_cons]
      omega
  refine ⟨G.i1, G.i6, G.iw, G.inm, G.ind, ?_, fun i g hg => ?_, G.o1, G.o6, G.onm, G.ond, fun o ho => ?_⟩
  · show (N.gates ++ [voteG]).length ≤ 60
    have := G.g60
    rw [List.length_append]
    show N.gates.length + 1 ≤ 60
    omega
  · have hg : (N.gates ++ [voteG])[i]? = some g := hg
    by_cases hi : i < N.gates.length
    · rw [List.getElem?_append_left hi] at hg
      exact G.gok i g hg
    · rw [List.getElem?_append_right (by omega)] at hg
      have e0 : i - N.gates.length = 0 := by
        obtain ⟨h1, _⟩ := List.getElem?_eq_some_iff.mp hg
        simp at h1
        omega
      rw [e0] at hg
      have e : voteG = g := Option.some.inj hg
      subst e
      refine ⟨by show (("vote" : Str)) ∈ kinds; decide +kernel, by show [0, 0, 0].length = legs ("vote" : Str); decide +kernel, fun w hw => ?_⟩
      have : w = 0 := by
        have hw : w ∈ [0, 0, 0] := hw
        simpa using hw
      show w < first N.ins + i
      omega
  · show 1 ≤ o.2.length ∧ o.2.length ≤ 3 ∧ ∀ w ∈ o.2, w < first N.ins + (N.gates ++ [voteG]).length
    obtain ⟨h1, h2, h3⟩ := G.ook o ho
    refine ⟨h1, h2, fun w hw => ?_⟩
    have := h3 w hw
    rw [List.length_append]
    omega
theorem cut_last (xs : List V) (v : V) : cutV (xs ++ [v]) (some (-1)) none = [v] := by
  unfold cutV
  have e : HT.sIx (xs ++ [v]).length 0 (some (-1)) = xs.length := by
    show (if (-1 : Int) < 0 then ((-1 : Int) + (((xs ++ [v]).length : Nat) : Int)).toNat else min (-1 : Int).toNat (xs ++ [v]).length) = xs.length
    rw [if_pos (by decide), List.length_append]
    show ((-1 : Int) + ((xs.length + 1 : Nat) : Int)).toNat = xs.length
    omega
  rw [HT.sIx_none, e, List.length_append, List.drop_left]
  show [v].take (xs.length + 1 - xs.length) = [v]
  rw [Nat.add_sub_cancel_left]
  rfl
section
variable {P : Program} {w : World} {K : PySem.W.Frag} {mg : Str → Option Value} {base : Heap} {C aB aW aL : Addr}
theorem NetAt.dp {H : Hp} {t a b c : Addr} {N : Net} (h : NetAt H t a b c N) : Dp K H (.ref t) (dNet N) := net_dp (i := N.ins) (g := N.gates) (o := N.outs) h.tp h.ins h.gates h.outs
def tRead (K : PySem.W.Frag) (i : Nat) (k : Int) : TE := tCall spRead [] C8.E0 (tCons (tM1 (rJoin K) (tC (.str ("\n" : Str))) (tCall spRows [] C8.E0 (tCons (tVar i) (tCons (tCall spGN [] C8.E0 (tCons (tVar i) (tCons (tOp (rI0 fun i j => .int (i + j)) (tVar 5) (tC (.int k))) tNil))) tNil)))) tNil)
/-- the rows of a good net, made and read back -/
theorem read_ok {σ : L2.St} {H : Hp} {Q : VK} {i : Nat} {k hd : Int} {t a1 a2 a3 : Addr} {N : Net} (hi : σ[i]? = some (some (.ref t))) (h5 : σ[5]? = some (some (.int hd))) (HN : NetAt H t a1 a2 a3 N) (G : GoodNet N)
    (q : ∀ t' b1 b2 b3 H', Same H H' → NetAt H' t' b1 b2 b3 N → Q (.ref t') H') : tRead K i k σ H Q := by
  refine ⟨⟨_, rfl⟩, .ref t, hi, .ref t, hi, .int hd, h5, hd, k, rfl, rfl, t, a1, a2, a3, N, hd + k, rfl, HN, G, fun gn p H1 GG s1 e1 => ?_⟩
  refine ⟨t, a1, a2, a3, p, N, gn, rfl, HN.same s1, e1, G, GG, fun r H2 s2 e2 => ?_⟩
  have hok := rows_ok G GG
  have hlen := rows_len N gn GG.len
  have i6 := G.i6
  have g60 := G.g60
  have o6 := G.o6
  refine ⟨("\n" : Str), r, (rowsR N gn).map Row.text, rfl, rfl, .inl (.of e2), ?_, ?_⟩
  · have h1 := sum_le (xs := (rowsR N gn).map Row.text) (b := 66) fun x hx => by
      obtain ⟨r', hr', rfl⟩ := List.mem_map.mp hx
      exact text_len (hok r' hr')
    rw [List.length_map] at h1
    rw [feed_len, List.length_map]
    omega
  · exact ⟨N, gn, rfl, G, GG, fun t' b1 b2 b3 H3 s3 HN' => q t' b1 b2 b3 H3 (Same.trans (Same.trans s1 s2) s3) HN'⟩
/-- a != b of equal data -/
theorem ne_same {H : Hp} {x y : V} {d : PyData} {Q : VK} (h1 : Dp K H x d) (h2 : Dp K H y d) (hs : SeqAt.shaped d = true) (q : Q (.bl false) H) : rNeD K x y H Q :=
  ⟨d, d, h1, h2, hs, hs, by rw [eqv_self hs]; exact q⟩
theorem eq_same {H : Hp} {x y : V} {d : PyData} {Q : VK} (h1 : Dp K H x d) (h2 : Dp K H y d) (hs : SeqAt.shaped d = true) (q : Q (.bl true) H) : rEqD K x y H Q :=
  ⟨d, d, h1, h2, hs, hs, by rw [eqv_self hs]; exact q⟩
def spLaw (K : PySem.W.Frag) : Sp := fun vs H Q _ => ∃ (a : Addr) (ns : List Int), vs = [.ref a] ∧ SqL K H a (ns.map V.int) ∧ ns.length ≤ 63 ∧ ∀ H', Q (.bl true) H'
theorem ok_law {f : Addr} {fd : FuncData} (T : Txt K mg w C aB aW aL) (cC : Cal P w K mg base 1 "_law_cell_at" (spCell K) []) (cN : Cal P w K mg base 2 "_law_names" spNames []) (cT : Cal P w K mg base 4 "_law_net" (spNet K) []) (cG : Cal P w K mg base 3 "_law_gate_names" spGN [])
    (cW : Cal P w K mg base 2 "_law_rows" spRows []) (cR : Cal P w K mg base 4 "read" spRead []) (F : C8.Fun K "law" "law" sLaw f fd) : FnOk P w K mg base C8.CX0 5 f fd ["script"] (spLaw K) := by
  have sc : FnScope ["script", "net", "ins", "gates", "outs", "head", "due", "others", "called", "ends", "changed", "turned", "some", "more", "found", "place", "name", "width", "wires", "kind", "sure"] ["script"] (C8.fnScope sLaw) := fnScope_by (by decide +kernel)
  refine C8.fn0 F sc (fun vs H Q E h => ?_) (fun cdv A outer s H vs Q E hr h => ?_)
  · obtain ⟨a, ns, rfl, _⟩ := h
    rfl
  · obtain ⟨a, ns, rfl, hS, h63, q⟩ := h
    refine ⟨_, pss_cons (ps_set (i := 1) sc.nd rfl (.inl rfl) (pe_c cT hr (by decide) rfl (pa_cons (pv 0) pa_nil)))
      (pss_cons (ps_asg (pv 1) (pg_tup rfl (pgs_cons (pg_name (i := 2) sc.nd rfl (.inl rfl)) (pgs_cons (pg_name (i := 3) sc.nd rfl (.inl rfl)) (pgs_cons (pg_name (i := 4) sc.nd rfl (.inl rfl)) pgs_nil)))))
      (pss_cons (ps_set (i := 5) sc.nd rfl (.inl rfl) (pe_c cC hr (by decide) rfl (pa_cons (pv 0) (pa_cons pe_int pa_nil))))
      (pss_cons (ps_set (i := 6) sc.nd rfl (.inl rfl) (pe_c cR hr (by decide) rfl (pa_cons (pe_join pe_str (pe_c cW hr (by decide) rfl (pa_cons (pv 1) (pa_cons (pe_c cG hr (by decide) rfl (pa_cons (pv 1) (pa_cons (pe_op op_add (pv 5) pe_int) pa_nil))) pa_nil)))) pa_nil)))
      (pss_cons (ps_if (pt_cmpR (op_neD hr.units) (pe_c cR hr (by decide) rfl (pa_cons (pe_join pe_str (pe_c cW hr (by decide) rfl (pa_cons (pv 1) (pa_cons (pe_c cG hr (by decide) rfl (pa_cons (pv 1) (pa_cons (pe_op op_add (pv 5) pe_int) pa_nil))) pa_nil)))) pa_nil)) (pv 6) (nomark _)) (pss_one (ps_ret pe_bl)) pss_nil)
      (pss_cons (ps_set (i := 7) sc.nd rfl (.inr rfl) (pe_c cN hr (by decide) rfl (pa_cons (pe_op op_add (pv 5) pe_int) (pa_cons pe_int (pa_cons pe_int pa_nil)))))
      (pss_cons (ps_setLc (i := 8) (own := [("place", 15), ("name", 16), ("width", 17)]) (g := gTup K 2 (gCons (gName 15) (gCons (gTup K 2 (gCons (gName 16) (gCons (gName 17) gNil))) gNil))) (tt := tYes) (te := tTup (tCons (tOp (rIxL K) (tVar 7) (tVar 15)) (tCons (tVar 17) tNil))) rfl sc.nd rfl rfl (sw_true rfl rfl rfl (by decide +kernel)) (pi_enum (by rfl) T.enum (pa_cons (pv 2) pa_nil))
          (blkOk_by (own := [("place", 15), ("name", 16), ("width", 17)]) (N := ["script", "net", "ins", "gates", "outs", "head", "due", "others", "called", "ends", "changed", "turned", "some", "more", "found", "place", "name", "width", "wires", "kind", "sure"]) (sc := C8.fnScope sLaw) (by decide +kernel))
          (fun _ _ _ _ _ => pg_tup rfl (pgs_cons (pg_name (i := 15) sc.nd rfl (Or.inl rfl)) (pgs_cons (pg_tup rfl (pgs_cons (pg_name (i := 16) sc.nd rfl (Or.inl rfl)) (pgs_cons (pg_name (i := 17) sc.nd rfl (Or.inl rfl)) pgs_nil))) pgs_nil))) (fun _ _ _ _ _ => pts_nil)
          (fun _ _ _ _ _ => pe_tup (pa_cons (pe_ix ix_list (pv 7) (pv 15) (fun _ _ => rfl)) (pa_cons (pv 17) pa_nil))))
      (pss_cons (ps_setLc (i := 9) (own := [("place", 15), ("name", 16), ("wires", 18)]) (g := gTup K 2 (gCons (gName 15) (gCons (gTup K 2 (gCons (gName 16) (gCons (gName 18) gNil))) gNil))) (tt := tYes) (te := tTup (tCons (tOp (rIxL K) (tVar 7) (tOp (rI0 fun i j => .int (i + j)) (tC (.int 6)) (tVar 15))) (tCons (tVar 18) tNil))) rfl sc.nd rfl rfl (sw_true rfl rfl rfl (by decide +kernel)) (pi_enum (by rfl) T.enum (pa_cons (pv 4) pa_nil))
          (blkOk_by (own := [("place", 15), ("name", 16), ("wires", 18)]) (N := ["script", "net", "ins", "gates", "outs", "head", "due", "others", "called", "ends", "changed", "turned", "some", "more", "found", "place", "name", "width", "wires", "kind", "sure"]) (sc := C8.fnScope sLaw) (by decide +kernel))
          (fun _ _ _ _ _ => pg_tup rfl (pgs_cons (pg_name (i := 15) sc.nd rfl (Or.inl rfl)) (pgs_cons (pg_tup rfl (pgs_cons (pg_name (i := 16) sc.nd rfl (Or.inl rfl)) (pgs_cons (pg_name (i := 18) sc.nd rfl (Or.inl rfl)) pgs_nil))) pgs_nil))) (fun _ _ _ _ _ => pts_nil)
          (fun _ _ _ _ _ => pe_tup (pa_cons (pe_ix ix_list (pv 7) (pe_op op_add pe_int (pv 15)) (fun _ _ => rfl)) (pa_cons (pv 18) pa_nil))))
      (pss_cons (ps_set (i := 10) sc.nd rfl (.inl rfl) (pe_tup (pa_cons (pv 8) (pa_cons (pv 3) (pa_cons (pv 9) pa_nil)))))
      (pss_cons (ps_if (pt_cmpR (op_neD hr.units) (pe_c cR hr (by decide) rfl (pa_cons (pe_join pe_str (pe_c cW hr (by decide) rfl (pa_cons (pv 10) (pa_cons (pe_c cG hr (by decide) rfl (pa_cons (pv 10) (pa_cons (pe_op op_add (pv 5) pe_int) pa_nil))) pa_nil)))) pa_nil))
          (pe_tup (pa_cons (pv 8) (pa_cons (pe_ix ix_tup (pv 6) pe_int (fun _ _ => rfl)) (pa_cons (pv 9) pa_nil)))) (nomark _)) (pss_one (ps_ret pe_bl)) pss_nil)
      (pss_cons (ps_setLc (i := 11) (own := [("kind", 19), ("wires", 18), ("sure", 20)]) (g := gTup K 3 (gCons (gName 19) (gCons (gName 18) (gCons (gName 20) gNil)))) (tt := tYes) (te := tTup (tCons (tVar 19) (tCons (tVar 18) (tCons (tNotV (tVar 20)) tNil)))) rfl sc.nd rfl rfl (sw_true rfl rfl rfl (by decide +kernel)) (pi_list (pv 3))
          (blkOk_by (own := [("kind", 19), ("wires", 18), ("sure", 20)]) (N := ["script", "net", "ins", "gates", "outs", "head", "due", "others", "called", "ends", "changed", "turned", "some", "more", "found", "place", "name", "width", "wires", "kind", "sure"]) (sc := C8.fnScope sLaw) (by decide +kernel))
          (fun _ _ _ _ _ => pg_tup rfl (pgs_cons (pg_name (i := 19) sc.nd rfl (Or.inl rfl)) (pgs_cons (pg_name (i := 18) sc.nd rfl (Or.inl rfl)) (pgs_cons (pg_name (i := 20) sc.nd rfl (Or.inl rfl)) pgs_nil)))) (fun _ _ _ _ _ => pts_nil)
          (fun _ _ _ _ _ => pe_tup (pa_cons (pv 19) (pa_cons (pv 18) (pa_cons (pe_not (pv 20)) pa_nil)))))
      (pss_cons (ps_set (i := 12) sc.nd rfl (.inl rfl) (pe_tup (pa_cons (pv 2) (pa_cons (pv 11) (pa_cons (pv 4) pa_nil)))))
      (pss_cons (ps_if (pt_cmpR (op_neD hr.units) (pe_c cR hr (by decide) rfl (pa_cons (pe_join pe_str (pe_c cW hr (by decide) rfl (pa_cons (pv 12) (pa_cons (pe_c cG hr (by decide) rfl (pa_cons (pv 12) (pa_cons (pe_op op_add (pv 5) pe_int) pa_nil))) pa_nil)))) pa_nil))
          (pe_tup (pa_cons (pe_ix ix_tup (pv 6) pe_int (fun _ _ => rfl)) (pa_cons (pv 11) (pa_cons (pe_ix ix_tup (pv 6) pe_int (fun _ _ => rfl)) pa_nil)))) (nomark _)) (pss_one (ps_ret pe_bl)) pss_nil)
      (pss_cons (ps_if (pt_cmpR op_eq (pe_callB call_len_seq (by rfl) T.len PySem.boot_len (pa_cons (pv 3) pa_nil)) pe_int (nomark _)) (pss_one (ps_ret pe_bl)) pss_nil)
      (pss_cons (ps_set (i := 13) sc.nd rfl (.inl rfl) (pe_tup (pa_cons (pv 2) (pa_cons (pe_op op_cat (pv 3) (pe_lst (pa_cons (pe_tup (pa_cons pe_str (pa_cons (pe_tup (pa_cons pe_int (pa_cons pe_int (pa_cons pe_int pa_nil)))) (pa_cons pe_bl pa_nil)))) pa_nil))) (pa_cons (pv 4) pa_nil)))))
      (pss_cons (ps_set (i := 14) sc.nd rfl (.inl rfl) (pe_c cR hr (by decide) rfl (pa_cons (pe_join pe_str (pe_c cW hr (by decide) rfl (pa_cons (pv 13) (pa_cons (pe_c cG hr (by decide) rfl (pa_cons (pv 13) (pa_cons (pe_op op_add (pv 5) pe_int) pa_nil))) pa_nil)))) pa_nil)))
      (pss_one (ps_ret (pe_cmpR (op_eqD hr.units) (pv 14) (pe_tup (pa_cons (pe_ix ix_tup (pv 6) pe_int (fun _ _ => rfl)) (pa_cons (pe_op op_cat (pe_ix ix_tup (pv 6) pe_int (fun _ _ => rfl)) (pe_slice sl_list (pe_ix ix_tup (pv 13) pe_int (fun _ _ => rfl)) (po_some (pe_un un_neg pe_int)) po_none))
          (pa_cons (pe_ix ix_tup (pv 6) pe_int (fun _ _ => rfl)) pa_nil)))) (nomark _))))))))))))))))))), ?_⟩
    refine ⟨.ref a, rfl, a, ns, rfl, hS, fun N t a1 a2 a3 H1 G s1 HN => ?_⟩
    refine ⟨.ref t, rfl, t, _, rfl, .of HN.tp, rfl, _, _, rfl, _, _, rfl, _, _, rfl, rfl, ?_⟩
    refine ⟨.ref a, rfl, a, ns, 0, rfl, s1.seq hS, fun hd => ?_⟩
    have i6 := G.i6
    have o6 := G.o6
    have g60 := G.g60
    refine read_ok (i := 1) (k := 1) rfl rfl HN G fun td b1 b2 b3 H2 s2 HD => ?_
    have HN2 := HN.same s2
    refine read_ok (i := 1) (k := 2) rfl rfl HN2 G fun t3 c1 c2 c3 H3 s3 HN3 => ?_
    have HD := HD.same s3
    have HN2 := HN2.same s3
    refine ⟨.ref td, rfl, ne_same HN3.dp HD.dp (sh_net G) ⟨false, rfl, iteF ?_⟩⟩
    clear HN3
    refine ⟨_, rfl, _, _, rfl, rfl, hd + 3, 600, 12, rfl, by decide, by decide, fun nm po H4 l4 g4 d4 s4 np4 e4 => ?_⟩
    have HD := HD.same s4
    have HN4 := HN2.same s4
    have hn1 : (nm.take 6).length = 6 := by rw [List.length_take]; omega
    have hn2 : (nm.drop 6).length = 6 := by rw [List.length_drop]; omega
    have GC : GoodNet ⟨rename (nm.take 6) N.ins, N.gates, rename (nm.drop 6) N.outs⟩ := good_changed G hn1 hn2 (fun x hx => g4 x (List.mem_of_mem_take hx)) (fun x hx => g4 x (List.mem_of_mem_drop hx))
      (d4.sublist (List.take_sublist _ _)) (d4.sublist (List.drop_sublist _ _))
    have r1 : (rename (nm.take 6) N.ins).length = N.ins.length := rename_len (by omega)
    have r2 : (rename (nm.drop 6) N.outs).length = N.outs.length := rename_len (by omega)
    show tSeq _ _ _ [some (.ref a), some (.ref t), some (.ref a1), some (.ref a2), some (.ref a3), some (.int hd), some (.ref td), some (.ref po), none, none, none, none, none, none, none, none, none, none, none, none, none] _
    obtain ⟨xs, hx, rx⟩ := id HN4.ins
    refine ⟨.ref a1, rfl, a1, xs, rfl, .of hx, fun D8 nD8 => ?_⟩
    refine lc_it (walk_enum (K := K) (a := a1) (xs := xs)) (fun j H5 => Same H4 H5 ∧ ∃ ys, H5 D8 = some (.lst ys) ∧ All2 (InAt H5) ys ((rename (nm.take 6) N.ins).take j)) ⟨same_upd nD8, [], upd_same, .nil⟩ (fun j H5 _ h => .of (h.1 _ _ hx)) ?_ ?_
    · rintro j v H5 H5' hj ⟨s5, ys, eD, ry⟩ ⟨Tt, x, y, rfl, nT, rfl, ex, ey⟩
      cases ex
      obtain ⟨p, hp, u, rfl, hu⟩ := rx.at ey
      have sT := same_upd (o := .tup [.int (j : Int), .ref u]) nT
      have hj6 : j < 6 := by
        have := (List.getElem?_eq_some_iff.mp hp).1
        omega
      have hjn : j < nm.length := by omega
      have hn := List.getElem?_eq_getElem hjn
      have hrn := rename_at (show (nm.take 6)[j]? = some nm[j] by rw [List.getElem?_take_of_lt hj6]; exact hn) hp
      have s45 := Same.trans s5 sT
      refine ⟨Tt, _, rfl, .of upd_same, rfl, _, _, rfl, _, _, rfl, u, _, rfl, .of (s45 _ _ hu), rfl, _, _, rfl, _, _, rfl, rfl, rfl, wipe3 (by decide) (by decide) (by decide), ?_⟩
      refine ⟨.ref po, rfl, _, rfl, po, _, _, .str nm[j], rfl, rfl, .of (s45 _ _ e4), atI_nat (j := j) (at_str hn), _, rfl, (by show 2 ≤ sizeLine; decide), fun p2 np2 => ?_⟩
      have s6 := same_upd (o := .tup [.str nm[j], .int (p.2 : Int)]) np2
      have sT6 := Same.trans sT s6
      refine ⟨ys, sT6 _ _ eD, ?_, same_own (Same.trans s5 sT6) nD8, ?_⟩
      · have := ry.1
        rw [List.length_take] at this
        exact size_lt (by omega)
      · rw [take_snoc hrn]
        exact snoc_ins ry sT6 (sT6 _ _ eD) (p := (nm[j], p.2)) upd_same
    rintro H5 ⟨s5, ys8, e8, r8⟩
    have HC8 : InsAt H5 D8 (rename (nm.take 6) N.ins) := by
      rw [List.take_of_length_le (by rw [r1, rx.1]; exact Nat.le_refl _)] at r8
      exact ⟨ys8, e8, r8⟩
    have HD := HD.same s5
    have HN5 := HN4.same s5
    have e4 := s5 _ _ e4
    show tSeq _ _ _ [some (.ref a), some (.ref t), some (.ref a1), some (.ref a2), some (.ref a3), some (.int hd), some (.ref td), some (.ref po), some (.ref D8), none, none, none, none, none, none, none, none, none, none, none, none] _
    obtain ⟨xo, ho, ro⟩ := id HN5.outs
    refine ⟨.ref a3, rfl, a3, xo, rfl, .of ho, fun D9 nD9 => ?_⟩
    refine lc_it (walk_enum (K := K) (a := a3) (xs := xo)) (fun j H6 => Same H5 H6 ∧ ∃ ys, H6 D9 = some (.lst ys) ∧ All2 (OutAt H6) ys ((rename (nm.drop 6) N.outs).take j)) ⟨same_upd nD9, [], upd_same, .nil⟩ (fun j H6 _ h => .of (h.1 _ _ ho)) ?_ ?_
    · rintro j v H6 H6' hj ⟨s6, ys, eD, ry⟩ ⟨Tt, x, y, rfl, nT, rfl, ex, ey⟩
      cases ex
      obtain ⟨p, hp, u, uw, rfl, hu, huw⟩ := ro.at ey
      have sT := same_upd (o := .tup [.int (j : Int), .ref u]) nT
      have hj6 : j < 6 := by
        have := (List.getElem?_eq_some_iff.mp hp).1
        omega
      have hjn : 6 + j < nm.length := by omega
      have hn := List.getElem?_eq_getElem hjn
      have hrn := rename_at (show (nm.drop 6)[j]? = some nm[6 + j] by rw [List.getElem?_drop]; exact hn) hp
      have s56 := Same.trans s6 sT
      refine ⟨Tt, _, rfl, .of upd_same, rfl, _, _, rfl, _, _, rfl, u, _, rfl, .of (s56 _ _ hu), rfl, _, _, rfl, _, _, rfl, rfl, rfl, wipe3 (by decide) (by decide) (by decide), ?_⟩
      refine ⟨.ref po, rfl, _, rfl, _, _, rfl, rfl, po, _, _, .str nm[6 + j], rfl, rfl, .of (s56 _ _ e4), atI_n (j := 6 + j) (by show (6 : Int) + (j : Int) = _; omega) (at_str hn), _, rfl, (by show 2 ≤ sizeLine; decide), fun p2 np2 => ?_⟩
      have s7 := same_upd (o := .tup [.str nm[6 + j], .ref uw]) np2
      have sT7 := Same.trans sT s7
      refine ⟨ys, sT7 _ _ eD, ?_, same_own (Same.trans s6 sT7) nD9, ?_⟩
      · have := ry.1
        rw [List.length_take] at this
        exact size_lt (by omega)
      · rw [take_snoc hrn]
        exact snoc_outs ry sT7 (sT7 _ _ eD) (g := (nm[6 + j], p.2)) ⟨p2, uw, rfl, upd_same, s7 _ _ (s56 _ _ huw)⟩
    rintro H6 ⟨s6, ys9, e9, r9⟩
    have HC9 : OutsAt H6 D9 (rename (nm.drop 6) N.outs) := by
      rw [List.take_of_length_le (by rw [r2, ro.1]; exact Nat.le_refl _)] at r9
      exact ⟨ys9, e9, r9⟩
    have HC8 := HC8.same s6
    have HD := HD.same s6
    have HN6 := HN5.same s6
    show tSeq _ _ _ [some (.ref a), some (.ref t), some (.ref a1), some (.ref a2), some (.ref a3), some (.int hd), some (.ref td), some (.ref po), some (.ref D8), some (.ref D9), none, none, none, none, none, none, none, none, none, none, none] _
    refine ⟨.ref D8, rfl, .ref a2, rfl, .ref D9, rfl, (by show 3 ≤ sizeLine; decide), fun tc ntc => ?_⟩
    have s7 := same_upd (o := .tup [.ref D8, .ref a2, .ref D9]) ntc
    have HC : NetAt (upd H6 tc (.tup [.ref D8, .ref a2, .ref D9])) tc D8 a2 D9 ⟨rename (nm.take 6) N.ins, N.gates, rename (nm.drop 6) N.outs⟩ := ⟨upd_same, HC8.same s7, HN6.gates.same s7, HC9.same s7⟩
    have HD := HD.same s7
    have HN7 := HN6.same s7
    show tSeq _ _ _ _ (upd H6 tc (.tup [.ref D8, .ref a2, .ref D9]))
    generalize upd H6 tc (.tup [.ref D8, .ref a2, .ref D9]) = H7 at HC HD HN7 ⊢
    refine read_ok (i := 10) (k := 1) rfl rfl HC GC fun t8 c1 c2 c3 H8 s8 HR8 => ?_
    have HC := HC.same s8
    have HD := HD.same s8
    have HN8 := HN7.same s8
    refine ⟨.ref D8, rfl, .ref td, rfl, td, _, 1, _, rfl, rfl, .of HD.tp, atI_nat (j := 1) rfl, .ref D9, rfl, (by show 3 ≤ sizeLine; decide), fun p8 np8 => ?_⟩
    have s9 := same_upd (o := .tup [.ref D8, .ref b2, .ref D9]) np8
    refine ne_same (HR8.same s9).dp (net_dp upd_same (HC.ins.same s9) (HD.gates.same s9) (HC.outs.same s9)) (sh_net GC) ⟨false, rfl, iteF ?_⟩
    have HD := HD.same s9
    have HN9 := HN8.same s9
    clear HR8 HC HC8 HC9
    show tSeq _ _ _ [some (.ref a), some (.ref t), some (.ref a1), some (.ref a2), some (.ref a3), some (.int hd), some (.ref td), some (.ref po), some (.ref D8), some (.ref D9), some (.ref tc), none, none, none, none, none, none, none, none, none, none] (upd H8 p8 (.tup [.ref D8, .ref b2, .ref D9]))
    generalize upd H8 p8 (.tup [.ref D8, .ref b2, .ref D9]) = H9 at HD HN9 ⊢
    have GT := good_turned G
    obtain ⟨xg, hg, rg⟩ := id HN9.gates
    refine ⟨.ref a2, rfl, a2, rfl, ⟨_, .of hg⟩, fun DT nDT => ?_⟩
    refine lc_list (K := K) (a := a2) (xs := xg) (fun j Ha => Same H9 Ha ∧ ∃ ys, Ha DT = some (.lst ys) ∧ All2 (GateAt Ha) ys ((N.gates.map flip).take j)) ⟨same_upd nDT, [], upd_same, .nil⟩ (fun j Ha _ h => .of (h.1 _ _ hg)) ?_ ?_
    · rintro j v Ha hv ⟨sa, ys, eD, ry⟩
      obtain ⟨g, hgj, u, uw, rfl, hu, huw⟩ := rg.at hv
      have hfj : (N.gates.map flip)[j]? = some (flip g) := by
        rw [List.getElem?_map, hgj]
        rfl
      refine ⟨u, _, rfl, .of (sa _ _ hu), rfl, _, _, rfl, _, _, rfl, _, _, rfl, rfl, wipe3 (by decide) (by decide) (by decide), ?_⟩
      refine ⟨_, rfl, _, rfl, _, rfl, g.sure, rfl, (by show 3 ≤ sizeLine; decide), fun p2 np2 => ?_⟩
      have sb := same_upd (o := .tup [.str g.kind, .ref uw, .bl (!g.sure)]) np2
      refine ⟨ys, sb _ _ eD, ?_, same_own (Same.trans sa sb) nDT, ?_⟩
      · have := ry.1
        rw [List.length_take, List.length_map] at this
        exact size_lt (by omega)
      · rw [take_snoc hfj]
        exact snoc_gates ry sb (sb _ _ eD) (g := flip g) ⟨p2, uw, rfl, upd_same, sb _ _ (sa _ _ huw)⟩
    rintro Ha ⟨sa, ysT, eT, rT⟩
    have HT : GatesAt Ha DT (N.gates.map flip) := by
      rw [List.take_of_length_le (by rw [List.length_map, rg.1]; exact Nat.le_refl _)] at rT
      exact ⟨ysT, eT, rT⟩
    have HD := HD.same sa
    have HNa := HN9.same sa
    show tSeq _ _ _ [some (.ref a), some (.ref t), some (.ref a1), some (.ref a2), some (.ref a3), some (.int hd), some (.ref td), some (.ref po), some (.ref D8), some (.ref D9), some (.ref tc), some (.ref DT), none, none, none, none, none, none, none, none, none] _
    refine ⟨.ref a1, rfl, .ref DT, rfl, .ref a3, rfl, (by show 3 ≤ sizeLine; decide), fun ts nts => ?_⟩
    have sb := same_upd (o := .tup [.ref a1, .ref DT, .ref a3]) nts
    have HS : NetAt (upd Ha ts (.tup [.ref a1, .ref DT, .ref a3])) ts a1 DT a3 ⟨N.ins, N.gates.map flip, N.outs⟩ := ⟨upd_same, HNa.ins.same sb, HT.same sb, HNa.outs.same sb⟩
    have HD := HD.same sb
    have HNb := HNa.same sb
    show tSeq _ _ _ _ (upd Ha ts (.tup [.ref a1, .ref DT, .ref a3]))
    generalize upd Ha ts (.tup [.ref a1, .ref DT, .ref a3]) = Hb at HS HD HNb ⊢
    refine read_ok (i := 12) (k := 1) rfl rfl HS GT fun t9 c1 c2 c3 Hc sc' HR9 => ?_
    have HS := HS.same sc'
    have HD := HD.same sc'
    have HNc := HNb.same sc'
    refine ⟨.ref td, rfl, td, _, 0, _, rfl, rfl, .of HD.tp, atI_nat (j := 0) rfl, .ref DT, rfl, .ref td, rfl, td, _, 2, _, rfl, rfl, .of HD.tp, atI_nat (j := 2) rfl, (by show 3 ≤ sizeLine; decide), fun p9 np9 => ?_⟩
    have sd := same_upd (o := .tup [.ref b1, .ref DT, .ref b3]) np9
    refine ne_same (HR9.same sd).dp (net_dp upd_same (HD.ins.same sd) (HS.gates.same sd) (HD.outs.same sd)) (sh_net GT) ⟨false, rfl, iteF ?_⟩
    have HD := HD.same sd
    have HNd := HNc.same sd
    clear HR9 HS HT
    show tSeq _ _ _ _ (upd Hc p9 (.tup [.ref b1, .ref DT, .ref b3]))
    generalize upd Hc p9 (.tup [.ref b1, .ref DT, .ref b3]) = Hd at HD HNd ⊢
    obtain ⟨yg, hyg, ryg⟩ := id HNd.gates
    refine ⟨.ref a2, rfl, a2, yg, rfl, .inl (.of hyg), rfl, _, rfl, ite2 (fun _ => q _) (fun hne => ?_)⟩
    have h60 : N.gates.length ≠ 60 := fun e => hne (decide_eq_true (by rw [ryg.1, e]; rfl))
    have GM := good_more G h60
    refine ⟨.ref a1, rfl, .ref a2, rfl, (by show 3 ≤ sizeLine; decide), fun u nu => ⟨(by show 3 ≤ sizeLine; decide), fun vt nvt => ⟨(by show 1 ≤ sizeLine; decide), fun lv nlv => ?_⟩⟩⟩
    have su := same_upd (o := .tup [.int 0, .int 0, .int 0]) nu
    have eu : (upd Hd u (.tup [.int 0, .int 0, .int 0])) u = some (.tup [.int 0, .int 0, .int 0]) := upd_same
    have sv := same_upd (o := .tup [.str ("vote" : Str), .ref u, .bl true]) nvt
    have eu := sv _ _ eu
    have ev : (upd (upd Hd u (.tup [.int 0, .int 0, .int 0])) vt (.tup [.str ("vote" : Str), .ref u, .bl true])) vt = some (.tup [.str ("vote" : Str), .ref u, .bl true]) := upd_same
    have sv := Same.trans su sv
    have sl := same_upd (o := .lst [.ref vt]) nlv
    have eu := sl _ _ eu
    have ev := sl _ _ ev
    have el : (upd (upd (upd Hd u (.tup [.int 0, .int 0, .int 0])) vt (.tup [.str ("vote" : Str), .ref u, .bl true])) lv (.lst [.ref vt])) lv = some (.lst [.ref vt]) := upd_same
    have sl := Same.trans sv sl
    generalize upd (upd (upd Hd u (.tup [.int 0, .int 0, .int 0])) vt (.tup [.str ("vote" : Str), .ref u, .bl true])) lv (.lst [.ref vt]) = He at eu ev el sl ⊢
    have HD := HD.same sl
    have HNe := HNd.same sl
    refine ⟨a2, lv, yg, [.ref vt], rfl, rfl, sl _ _ hyg, el, ?_, fun gp ngp => ?_⟩
    · have := ryg.1
      exact size_ok (by show yg.length + 1 ≤ 100000; omega)
    have sg := same_upd (o := .lst (yg ++ [.ref vt])) ngp
    have hV : GateAt He (.ref vt) voteG := ⟨vt, u, rfl, ev, eu⟩
    have HGp : GatesAt (upd He gp (.lst (yg ++ [.ref vt]))) gp (N.gates ++ [voteG]) :=
      ⟨_, upd_same, ((ryg.mono fun x y r => r.keep (Same.tups sl)).snoc hV).mono fun x y r => r.keep (Same.tups sg)⟩
    have hV := hV.keep (Same.tups sg)
    have HD := HD.same sg
    have HNf := HNe.same sg
    have egp : (upd He gp (.lst (yg ++ [.ref vt]))) gp = some (.lst (yg ++ [.ref vt])) := upd_same
    refine ⟨.ref a3, rfl, (by show 3 ≤ sizeLine; decide), fun tm ntm => ?_⟩
    have sm := same_upd (o := .tup [.ref a1, .ref gp, .ref a3]) ntm
    have HM : NetAt (upd (upd He gp (.lst (yg ++ [.ref vt]))) tm (.tup [.ref a1, .ref gp, .ref a3])) tm a1 gp a3 ⟨N.ins, N.gates ++ [voteG], N.outs⟩ := ⟨upd_same, HNf.ins.same sm, HGp.same sm, HNf.outs.same sm⟩
    have HD := HD.same sm
    have hV := hV.keep (Same.tups sm)
    have egp := sm _ _ egp
    show tSeq _ _ _ _ (upd (upd He gp (.lst (yg ++ [.ref vt]))) tm (.tup [.ref a1, .ref gp, .ref a3]))
    generalize upd (upd He gp (.lst (yg ++ [.ref vt]))) tm (.tup [.ref a1, .ref gp, .ref a3]) = Hg at HM HD hV egp ⊢
    refine read_ok (i := 13) (k := 2) rfl rfl HM GM fun tf c1 c2 c3 Hh sh HF => ?_
    have HM := HM.same sh
    have HD := HD.same sh
    have hV := hV.keep (Same.tups sh)
    have egp := sh _ _ egp
    obtain ⟨xd, hxd, rxd⟩ := id HD.gates
    refine ⟨.ref tf, rfl, .ref td, rfl, td, _, 0, _, rfl, rfl, .of HD.tp, atI_nat (j := 0) rfl, .ref td, rfl, td, _, 1, _, rfl, rfl, .of HD.tp, atI_nat (j := 1) rfl,
      .ref tm, rfl, tm, _, 1, _, rfl, rfl, .of HM.tp, atI_nat (j := 1) rfl, 1, rfl, -1, rfl, gp, _, rfl, .of egp, fun lc nlc => ?_⟩
    rw [cut_last]
    have s1 := same_upd (o := .lst [.ref vt]) nlc
    refine ⟨b2, lc, xd, [.ref vt], rfl, rfl, s1 _ _ hxd, upd_same, ?_, fun gq ngq => ?_⟩
    · have := rxd.1
      exact size_ok (by show xd.length + 1 ≤ 100000; omega)
    have s2 := Same.trans s1 (same_upd (o := .lst (xd ++ [.ref vt])) ngq)
    have HGq : GatesAt (upd (upd Hh lc (.lst [.ref vt])) gq (.lst (xd ++ [.ref vt]))) gq (N.gates ++ [voteG]) :=
      ⟨_, upd_same, (rxd.snoc hV).mono fun x y r => r.keep (Same.tups s2)⟩
    have HD := HD.same s2
    refine ⟨.ref td, rfl, td, _, 2, _, rfl, rfl, .of HD.tp, atI_nat (j := 2) rfl, (by show 3 ≤ sizeLine; decide), fun pz npz => ?_⟩
    have s3 := same_upd (o := .tup [.ref b1, .ref gq, .ref b3]) npz
    exact eq_same (HF.same (Same.trans s2 s3)).dp (net_dp upd_same (HD.ins.same s3) (HGq.same s3) (HD.outs.same s3)) (sh_net GM) (q _)
end
end BF

/-! BFt: what the top has written, and the end. Printed by gen_end.py. -/
namespace BF
open PySem PySem.Spec PyProof.Rows L2
open C8 (Cal Met Mak)
theorem sqt_of {K : PySem.W.Frag} {H : Hp} {a : Addr} {oc : Value} {od : Option Addr} {its : Array Value} {n : Nat} {sl : Array (Option Value)} {xs : List V} (h : K.lookup a = some ⟨oc, od, .seq its n, sl⟩) (hc : oc = .type "tuple") (r : Vals xs its.toList) (hl : xs.length ≤ 1000) : SqT K H a xs := by
  refine .inr ⟨_, its, n, h, hc, rfl, ?_, r⟩
  have e : xs.length = its.toList.length := r.length
  have e2 : its.toList.length = its.size := Array.length_toList
  exact size_ok (by omega)
theorem all_mk {l : PySem.W.OpenLaw} {w : World} {K : PySem.W.Frag} {h : Heap} {mg : Str → Option Value} {fa C aB aW aL : Addr} {fIsName fNamed fWire fRowTold fInit fInRead fNumbers fGateRead fOutRead fRowRead fRead fCell fStir fNames fWires fGate fNet fWords fRows fGN fLaw : Addr} {odIsName anIsName odNamed anNamed odWire anWire odRowTold anRowTold odInit anInit odInRead anInRead odNumbers anNumbers odGateRead anGateRead odOutRead anOutRead odRowRead anRowRead odRead anRead odCell anCell odStir anStir odNames anNames odWires anWires odGate anGate odNet anNet odWords anWords odRows anRows odGN anGN odLaw anLaw : Option Addr} {slIsName slNamed slWire slRowTold slInit slInRead slNumbers slGateRead slOutRead slRowRead slRead slCell slStir slNames slWires slGate slNet slWords slRows slGN slLaw : Array (Option Value)} {ocIsName kVIsName dcIsName pmIsName cdIsName ctIsName ocNamed kVNamed dcNamed pmNamed cdNamed ctNamed ocWire kVWire dcWire pmWire cdWire ctWire ocRowTold kVRowTold dcRowTold pmRowTold cdRowTold ctRowTold ocInit kVInit dcInit pmInit cdInit ctInit ocInRead kVInRead dcInRead pmInRead cdInRead ctInRead ocNumbers kVNumbers dcNumbers pmNumbers cdNumbers ctNumbers ocGateRead kVGateRead dcGateRead pmGateRead cdGateRead ctGateRead ocOutRead kVOutRead dcOutRead pmOutRead cdOutRead ctOutRead ocRowRead kVRowRead dcRowRead pmRowRead cdRowRead ctRowRead ocRead kVRead dcRead pmRead cdRead ctRead ocCell kVCell dcCell pmCell cdCell ctCell ocStir kVStir dcStir pmStir cdStir ctStir ocNames kVNames dcNames pmNames cdNames ctNames ocWires kVWires dcWires pmWires cdWires ctWires ocGate kVGate dcGate pmGate cdGate ctGate ocNet kVNet dcNet pmNet cdNet ctNet ocWords kVWords dcWords pmWords cdWords ctWords ocRows kVRows dcRows pmRows cdRows ctRows ocGN kVGN dcGN pmGN cdGN ctGN ocLaw kVLaw dcLaw pmLaw cdLaw ctLaw : Value} {tLet tFig tn8 tn80 tni tng tno tnw tknot tkand tkor tkxor tkvote : Tok} {odB odW : Option Addr} {slB slW : Array (Option Value)} {itB itW : Array Value} {nB nWd nL : Nat} {esL : Array DictEntry} (X : K.In h) (G : h.Ns mainGlobals mg) (hfa : mg "law" = some (.ref fa))
    (aC : PySem.W.nsIn K mainGlobals "Reading" = some (some (.ref C)))
    (aIsName : PySem.W.nsIn K mainGlobals "is_name" = some (some (.ref fIsName)))
    (lIsName : K.lookup fIsName = some ⟨ocIsName, odIsName, .func (PySem.W.fnOf "is_name" "is_name" (C8.fnArgs sIsName) (C8.fnBody sIsName) (C8.fnScope sIsName) .none kVIsName dcIsName pmIsName anIsName cdIsName ctIsName), slIsName⟩)
    (cIsName : PySem.W.codeIn K cdIsName "is_name" = true)
    (kIsName : PySem.W.keepIn K (.ref fIsName) = true)
    (aNamed : PySem.W.nsIn K mainGlobals "named" = some (some (.ref fNamed)))
    (lNamed : K.lookup fNamed = some ⟨ocNamed, odNamed, .func (PySem.W.fnOf "named" "named" (C8.fnArgs sNamed) (C8.fnBody sNamed) (C8.fnScope sNamed) .none kVNamed dcNamed pmNamed anNamed cdNamed ctNamed), slNamed⟩)
    (cNamed : PySem.W.codeIn K cdNamed "named" = true)
    (kNamed : PySem.W.keepIn K (.ref fNamed) = true)
    (aWire : PySem.W.nsIn K mainGlobals "wire_told" = some (some (.ref fWire)))
    (lWire : K.lookup fWire = some ⟨ocWire, odWire, .func (PySem.W.fnOf "wire_told" "wire_told" (C8.fnArgs sWireTold) (C8.fnBody sWireTold) (C8.fnScope sWireTold) .none kVWire dcWire pmWire anWire cdWire ctWire), slWire⟩)
    (cWire : PySem.W.codeIn K cdWire "wire_told" = true)
    (kWire : PySem.W.keepIn K (.ref fWire) = true)
    (aRowTold : PySem.W.nsIn K mainGlobals "row_told" = some (some (.ref fRowTold)))
    (lRowTold : K.lookup fRowTold = some ⟨ocRowTold, odRowTold, .func (PySem.W.fnOf "row_told" "row_told" (C8.fnArgs sRowTold) (C8.fnBody sRowTold) (C8.fnScope sRowTold) .none kVRowTold dcRowTold pmRowTold anRowTold cdRowTold ctRowTold), slRowTold⟩)
    (cRowTold : PySem.W.codeIn K cdRowTold "row_told" = true)
    (kRowTold : PySem.W.keepIn K (.ref fRowTold) = true)
    (aInit : PySem.W.findIn K (.ref C) "__init__" = some (some (.ref fInit)))
    (iInit : PySem.W.isFn K (.ref fInit) = true)
    (lInit : K.lookup fInit = some ⟨ocInit, odInit, .func (PySem.W.fnOf "__init__" "Reading.__init__" (C8.fnArgs sInit) (C8.fnBody sInit) (C8.fnScope sInit) .none kVInit dcInit pmInit anInit cdInit ctInit), slInit⟩)
    (cInit : PySem.W.codeIn K cdInit "Reading.__init__" = true)
    (kInit : PySem.W.keepIn K (.ref fInit) = true)
    (aInRead : PySem.W.findIn K (.ref C) "in_read" = some (some (.ref fInRead)))
    (iInRead : PySem.W.isFn K (.ref fInRead) = true)
    (lInRead : K.lookup fInRead = some ⟨ocInRead, odInRead, .func (PySem.W.fnOf "in_read" "Reading.in_read" (C8.fnArgs sInRead) (C8.fnBody sInRead) (C8.fnScope sInRead) .none kVInRead dcInRead pmInRead anInRead cdInRead ctInRead), slInRead⟩)
    (cInRead : PySem.W.codeIn K cdInRead "Reading.in_read" = true)
    (kInRead : PySem.W.keepIn K (.ref fInRead) = true)
    (aNumbers : PySem.W.findIn K (.ref C) "numbers_of" = some (some (.ref fNumbers)))
    (iNumbers : PySem.W.isFn K (.ref fNumbers) = true)
    (lNumbers : K.lookup fNumbers = some ⟨ocNumbers, odNumbers, .func (PySem.W.fnOf "numbers_of" "Reading.numbers_of" (C8.fnArgs sNumbers) (C8.fnBody sNumbers) (C8.fnScope sNumbers) .none kVNumbers dcNumbers pmNumbers anNumbers cdNumbers ctNumbers), slNumbers⟩)
    (cNumbers : PySem.W.codeIn K cdNumbers "Reading.numbers_of" = true)
    (kNumbers : PySem.W.keepIn K (.ref fNumbers) = true)
    (aGateRead : PySem.W.findIn K (.ref C) "gate_read" = some (some (.ref fGateRead)))
    (iGateRead : PySem.W.isFn K (.ref fGateRead) = true)
    (lGateRead : K.lookup fGateRead = some ⟨ocGateRead, odGateRead, .func (PySem.W.fnOf "gate_read" "Reading.gate_read" (C8.fnArgs sGateRead) (C8.fnBody sGateRead) (C8.fnScope sGateRead) .none kVGateRead dcGateRead pmGateRead anGateRead cdGateRead ctGateRead), slGateRead⟩)
    (cGateRead : PySem.W.codeIn K cdGateRead "Reading.gate_read" = true)
    (kGateRead : PySem.W.keepIn K (.ref fGateRead) = true)
    (aOutRead : PySem.W.findIn K (.ref C) "out_read" = some (some (.ref fOutRead)))
    (iOutRead : PySem.W.isFn K (.ref fOutRead) = true)
    (lOutRead : K.lookup fOutRead = some ⟨ocOutRead, odOutRead, .func (PySem.W.fnOf "out_read" "Reading.out_read" (C8.fnArgs sOutRead) (C8.fnBody sOutRead) (C8.fnScope sOutRead) .none kVOutRead dcOutRead pmOutRead anOutRead cdOutRead ctOutRead), slOutRead⟩)
    (cOutRead : PySem.W.codeIn K cdOutRead "Reading.out_read" = true)
    (kOutRead : PySem.W.keepIn K (.ref fOutRead) = true)
    (aRowRead : PySem.W.findIn K (.ref C) "row_read" = some (some (.ref fRowRead)))
    (iRowRead : PySem.W.isFn K (.ref fRowRead) = true)
    (lRowRead : K.lookup fRowRead = some ⟨ocRowRead, odRowRead, .func (PySem.W.fnOf "row_read" "Reading.row_read" (C8.fnArgs sRowRead) (C8.fnBody sRowRead) (C8.fnScope sRowRead) .none kVRowRead dcRowRead pmRowRead anRowRead cdRowRead ctRowRead), slRowRead⟩)
    (cRowRead : PySem.W.codeIn K cdRowRead "Reading.row_read" = true)
    (kRowRead : PySem.W.keepIn K (.ref fRowRead) = true)
    (aRead : PySem.W.nsIn K mainGlobals "read" = some (some (.ref fRead)))
    (lRead : K.lookup fRead = some ⟨ocRead, odRead, .func (PySem.W.fnOf "read" "read" (C8.fnArgs sRead) (C8.fnBody sRead) (C8.fnScope sRead) .none kVRead dcRead pmRead anRead cdRead ctRead), slRead⟩)
    (cRead : PySem.W.codeIn K cdRead "read" = true)
    (kRead : PySem.W.keepIn K (.ref fRead) = true)
    (aCell : PySem.W.nsIn K mainGlobals "_law_cell_at" = some (some (.ref fCell)))
    (lCell : K.lookup fCell = some ⟨ocCell, odCell, .func (PySem.W.fnOf "_law_cell_at" "_law_cell_at" (C8.fnArgs sCell) (C8.fnBody sCell) (C8.fnScope sCell) .none kVCell dcCell pmCell anCell cdCell ctCell), slCell⟩)
    (cCell : PySem.W.codeIn K cdCell "_law_cell_at" = true)
    (kCell : PySem.W.keepIn K (.ref fCell) = true)
    (aStir : PySem.W.nsIn K mainGlobals "_law_stir" = some (some (.ref fStir)))
    (lStir : K.lookup fStir = some ⟨ocStir, odStir, .func (PySem.W.fnOf "_law_stir" "_law_stir" (C8.fnArgs sStir) (C8.fnBody sStir) (C8.fnScope sStir) .none kVStir dcStir pmStir anStir cdStir ctStir), slStir⟩)
    (cStir : PySem.W.codeIn K cdStir "_law_stir" = true)
    (kStir : PySem.W.keepIn K (.ref fStir) = true)
    (aNames : PySem.W.nsIn K mainGlobals "_law_names" = some (some (.ref fNames)))
    (lNames : K.lookup fNames = some ⟨ocNames, odNames, .func (PySem.W.fnOf "_law_names" "_law_names" (C8.fnArgs sNames) (C8.fnBody sNames) (C8.fnScope sNames) .none kVNames dcNames pmNames anNames cdNames ctNames), slNames⟩)
    (cNames : PySem.W.codeIn K cdNames "_law_names" = true)
    (kNames : PySem.W.keepIn K (.ref fNames) = true)
    (aWires : PySem.W.nsIn K mainGlobals "_law_wires" = some (some (.ref fWires)))
    (lWires : K.lookup fWires = some ⟨ocWires, odWires, .func (PySem.W.fnOf "_law_wires" "_law_wires" (C8.fnArgs sWires) (C8.fnBody sWires) (C8.fnScope sWires) .none kVWires dcWires pmWires anWires cdWires ctWires), slWires⟩)
    (cWires : PySem.W.codeIn K cdWires "_law_wires" = true)
    (kWires : PySem.W.keepIn K (.ref fWires) = true)
    (aGate : PySem.W.nsIn K mainGlobals "_law_gate" = some (some (.ref fGate)))
    (lGate : K.lookup fGate = some ⟨ocGate, odGate, .func (PySem.W.fnOf "_law_gate" "_law_gate" (C8.fnArgs sGate) (C8.fnBody sGate) (C8.fnScope sGate) .none kVGate dcGate pmGate anGate cdGate ctGate), slGate⟩)
    (cGate : PySem.W.codeIn K cdGate "_law_gate" = true)
    (kGate : PySem.W.keepIn K (.ref fGate) = true)
    (aNet : PySem.W.nsIn K mainGlobals "_law_net" = some (some (.ref fNet)))
    (lNet : K.lookup fNet = some ⟨ocNet, odNet, .func (PySem.W.fnOf "_law_net" "_law_net" (C8.fnArgs sNet) (C8.fnBody sNet) (C8.fnScope sNet) .none kVNet dcNet pmNet anNet cdNet ctNet), slNet⟩)
    (cNet : PySem.W.codeIn K cdNet "_law_net" = true)
    (kNet : PySem.W.keepIn K (.ref fNet) = true)
    (aWords : PySem.W.nsIn K mainGlobals "_law_words" = some (some (.ref fWords)))
    (lWords : K.lookup fWords = some ⟨ocWords, odWords, .func (PySem.W.fnOf "_law_words" "_law_words" (C8.fnArgs sWords) (C8.fnBody sWords) (C8.fnScope sWords) .none kVWords dcWords pmWords anWords cdWords ctWords), slWords⟩)
    (cWords : PySem.W.codeIn K cdWords "_law_words" = true)
    (kWords : PySem.W.keepIn K (.ref fWords) = true)
    (aRows : PySem.W.nsIn K mainGlobals "_law_rows" = some (some (.ref fRows)))
    (lRows : K.lookup fRows = some ⟨ocRows, odRows, .func (PySem.W.fnOf "_law_rows" "_law_rows" (C8.fnArgs sRows) (C8.fnBody sRows) (C8.fnScope sRows) .none kVRows dcRows pmRows anRows cdRows ctRows), slRows⟩)
    (cRows : PySem.W.codeIn K cdRows "_law_rows" = true)
    (kRows : PySem.W.keepIn K (.ref fRows) = true)
    (aGN : PySem.W.nsIn K mainGlobals "_law_gate_names" = some (some (.ref fGN)))
    (lGN : K.lookup fGN = some ⟨ocGN, odGN, .func (PySem.W.fnOf "_law_gate_names" "_law_gate_names" (C8.fnArgs sGateNames) (C8.fnBody sGateNames) (C8.fnScope sGateNames) .none kVGN dcGN pmGN anGN cdGN ctGN), slGN⟩)
    (cGN : PySem.W.codeIn K cdGN "_law_gate_names" = true)
    (kGN : PySem.W.keepIn K (.ref fGN) = true)
    (aLaw : PySem.W.nsIn K mainGlobals "law" = some (some (.ref fLaw)))
    (lLaw : K.lookup fLaw = some ⟨ocLaw, odLaw, .func (PySem.W.fnOf "law" "law" (C8.fnArgs sLaw) (C8.fnBody sLaw) (C8.fnScope sLaw) .none kVLaw dcLaw pmLaw anLaw cdLaw ctLaw), slLaw⟩)
    (cLaw : PySem.W.codeIn K cdLaw "law" = true)
    (kLaw : PySem.W.keepIn K (.ref fLaw) = true)
    (pg : PySem.W.plainGet K C Str.empty = true)
    (hd : PySem.W.hasDictIn K C = true)
    (po : PySem.W.plainOver K C = true)
    (sa : PySem.W.findIn K (.ref C) "__setattr__" = some (some (.builtin "object.__setattr__")))
    (mk : PySem.W.makesIn K C = true)
    (kc : PySem.W.keepIn K (.ref C) = true)
    (nI : PySem.W.findIn K (.ref C) "ins" = some none)
    (nG : PySem.W.findIn K (.ref C) "gates" = some none)
    (nO : PySem.W.findIn K (.ref C) "outs" = some none)
    (nW : PySem.W.findIn K (.ref C) "wires" = some none)
    (nN : PySem.W.findIn K (.ref C) "names" = some none)
    (z_len : PySem.W.nsIn K mainGlobals "len" = some none)
    (z_int : PySem.W.nsIn K mainGlobals "int" = some none)
    (z_range : PySem.W.nsIn K mainGlobals "range" = some none)
    (z_tuple : PySem.W.nsIn K mainGlobals "tuple" = some none)
    (z_min : PySem.W.nsIn K mainGlobals "min" = some none)
    (z_sum : PySem.W.nsIn K mainGlobals "sum" = some none)
    (z_str : PySem.W.nsIn K mainGlobals "str" = some none)
    (z_enumerate : PySem.W.nsIn K mainGlobals "enumerate" = some none)
    (gB : PySem.W.nsIn K mainGlobals "BARRED" = some (some (.ref aB)))
    (lB : K.lookup aB = some ⟨.type "tuple", odB, .seq itB nB, slB⟩)
    (vB : Vals (barred.map V.str) itB.toList)
    (gW : PySem.W.nsIn K mainGlobals "WIDTHS" = some (some (.ref aW)))
    (lW : K.lookup aW = some ⟨.type "tuple", odW, .seq itW nWd, slW⟩)
    (vW : Vals (widths.map V.str) itW.toList)
    (gLet : PySem.W.nsIn K mainGlobals "LETTERS" = some (some (.str letters tLet)))
    (gFig : PySem.W.nsIn K mainGlobals "FIGURES" = some (some (.str figures tFig)))
    (gn8 : PySem.W.nsIn K mainGlobals "LONGEST_NAME" = some (some (.int 8 tn8)))
    (gn80 : PySem.W.nsIn K mainGlobals "MOST_ROWS" = some (some (.int 80 tn80)))
    (gni : PySem.W.nsIn K mainGlobals "MOST_INS" = some (some (.int 6 tni)))
    (gng : PySem.W.nsIn K mainGlobals "MOST_GATES" = some (some (.int 60 tng)))
    (gno : PySem.W.nsIn K mainGlobals "MOST_OUTS" = some (some (.int 6 tno)))
    (gnw : PySem.W.nsIn K mainGlobals "MOST_WIRES" = some (some (.int 3 tnw)))
    (gL : PySem.W.nsIn K mainGlobals "LEGS" = some (some (.ref aL)))
    (lL : K.lookup aL = some ⟨.type "dict", none, .dict esL nL, #[]⟩)
    (kL : PySem.W.KeysLit w.params esL.toList)
    (qnot : PySem.W.nsIn K aL "not" = some (some (.int 1 tknot)))
    (qand : PySem.W.nsIn K aL "and" = some (some (.int 2 tkand)))
    (qor : PySem.W.nsIn K aL "or" = some (some (.int 2 tkor)))
    (qxor : PySem.W.nsIn K aL "xor" = some (some (.int 2 tkxor)))
    (qvote : PySem.W.nsIn K aL "vote" = some (some (.int 3 tkvote)))
    (lowL : (aL == sysModules) = false)
    : ∃ fd : FuncData, (∀ (s : Shared) (v : Value), BindsTo s fd ⟨[v], []⟩ [("script", v)]) ∧ ∀ base : Heap, K.In base → base.Ns mainGlobals mg → FnOk l.prog w K mg base C8.CX0 5 fa fd ["script"] (spLaw K) := by
  have e := hfa.symm.trans (PySem.W.mg_of X G aLaw)
  cases e
  have legsAt : ∀ k ∈ kinds, KDct K w aL k (.int (legs k)) := fun k hk => by
    rcases kinds_cases hk with rfl | rfl | rfl | rfl | rfl
    · exact ⟨esL, nL, _, lL, kL, qnot, ⟨_, rfl⟩⟩
    · exact ⟨esL, nL, _, lL, kL, qand, ⟨_, rfl⟩⟩
    · exact ⟨esL, nL, _, lL, kL, qor, ⟨_, rfl⟩⟩
    · exact ⟨esL, nL, _, lL, kL, qxor, ⟨_, rfl⟩⟩
    · exact ⟨esL, nL, _, lL, kL, qvote, ⟨_, rfl⟩⟩
  have T : Txt K mg w C aB aW aL :=
    { cBar := ⟨_, PySem.W.mg_of X G gB, rfl⟩,
      barAt := fun H => sqt_of lB rfl vB (by decide),
      cLet := ⟨_, PySem.W.mg_of X G gLet, ⟨_, rfl⟩⟩,
      cLegs := ⟨_, PySem.W.mg_of X G gL, rfl⟩,
      legsAt := legsAt,
      legsLow := lowL,
      cFig := ⟨_, PySem.W.mg_of X G gFig, ⟨_, rfl⟩⟩,
      cWid := ⟨_, PySem.W.mg_of X G gW, rfl⟩,
      widAt := fun H => sqt_of lW rfl vW (by decide),
      n8 := ⟨_, PySem.W.mg_of X G gn8, ⟨_, rfl⟩⟩,
      n80 := ⟨_, PySem.W.mg_of X G gn80, ⟨_, rfl⟩⟩,
      ni := ⟨_, PySem.W.mg_of X G gni, ⟨_, rfl⟩⟩,
      ng := ⟨_, PySem.W.mg_of X G gng, ⟨_, rfl⟩⟩,
      no := ⟨_, PySem.W.mg_of X G gno, ⟨_, rfl⟩⟩,
      nw := ⟨_, PySem.W.mg_of X G gnw, ⟨_, rfl⟩⟩,
      len := PySem.W.mg_none_of X G z_len,
      int := PySem.W.mg_none_of X G z_int,
      range := PySem.W.mg_none_of X G z_range,
      tuple := PySem.W.mg_none_of X G z_tuple,
      min := PySem.W.mg_none_of X G z_min,
      sum := PySem.W.mg_none_of X G z_sum,
      str := PySem.W.mg_none_of X G z_str,
      enum := PySem.W.mg_none_of X G z_enumerate,
      cl := ⟨pg, hd, po, sa⟩,
      nI := nI,
      nG := nG,
      nO := nO,
      nW := nW,
      nN := nN }
  have FIsName : C8.Fun K "is_name" "is_name" sIsName fIsName (PySem.W.fnOf "is_name" "is_name" (C8.fnArgs sIsName) (C8.fnBody sIsName) (C8.fnScope sIsName) .none kVIsName dcIsName pmIsName anIsName cdIsName ctIsName) := ⟨⟨ocIsName, odIsName, .none, kVIsName, dcIsName, pmIsName, anIsName, cdIsName, ctIsName, slIsName, rfl, lIsName, cIsName⟩⟩
  have DIsName : C8.Def K mg "is_name" sIsName fIsName (PySem.W.fnOf "is_name" "is_name" (C8.fnArgs sIsName) (C8.fnBody sIsName) (C8.fnScope sIsName) .none kVIsName dcIsName pmIsName anIsName cdIsName ctIsName) := ⟨FIsName, PySem.W.mg_of X G aIsName, kIsName⟩
  have bIsName := FIsName.binds rfl (ps := ["word"]) fun _ _ _ _ _ _ us hl => match us, hl with | [_], _ => rfl
  have FNamed : C8.Fun K "named" "named" sNamed fNamed (PySem.W.fnOf "named" "named" (C8.fnArgs sNamed) (C8.fnBody sNamed) (C8.fnScope sNamed) .none kVNamed dcNamed pmNamed anNamed cdNamed ctNamed) := ⟨⟨ocNamed, odNamed, .none, kVNamed, dcNamed, pmNamed, anNamed, cdNamed, ctNamed, slNamed, rfl, lNamed, cNamed⟩⟩
  have DNamed : C8.Def K mg "named" sNamed fNamed (PySem.W.fnOf "named" "named" (C8.fnArgs sNamed) (C8.fnBody sNamed) (C8.fnScope sNamed) .none kVNamed dcNamed pmNamed anNamed cdNamed ctNamed) := ⟨FNamed, PySem.W.mg_of X G aNamed, kNamed⟩
  have bNamed := FNamed.binds rfl (ps := ["word"]) fun _ _ _ _ _ _ us hl => match us, hl with | [_], _ => rfl
  have FWire : C8.Fun K "wire_told" "wire_told" sWireTold fWire (PySem.W.fnOf "wire_told" "wire_told" (C8.fnArgs sWireTold) (C8.fnBody sWireTold) (C8.fnScope sWireTold) .none kVWire dcWire pmWire anWire cdWire ctWire) := ⟨⟨ocWire, odWire, .none, kVWire, dcWire, pmWire, anWire, cdWire, ctWire, slWire, rfl, lWire, cWire⟩⟩
  have DWire : C8.Def K mg "wire_told" sWireTold fWire (PySem.W.fnOf "wire_told" "wire_told" (C8.fnArgs sWireTold) (C8.fnBody sWireTold) (C8.fnScope sWireTold) .none kVWire dcWire pmWire anWire cdWire ctWire) := ⟨FWire, PySem.W.mg_of X G aWire, kWire⟩
  have bWire := FWire.binds rfl (ps := ["word"]) fun _ _ _ _ _ _ us hl => match us, hl with | [_], _ => rfl
  have FRowTold : C8.Fun K "row_told" "row_told" sRowTold fRowTold (PySem.W.fnOf "row_told" "row_told" (C8.fnArgs sRowTold) (C8.fnBody sRowTold) (C8.fnScope sRowTold) .none kVRowTold dcRowTold pmRowTold anRowTold cdRowTold ctRowTold) := ⟨⟨ocRowTold, odRowTold, .none, kVRowTold, dcRowTold, pmRowTold, anRowTold, cdRowTold, ctRowTold, slRowTold, rfl, lRowTold, cRowTold⟩⟩
  have DRowTold : C8.Def K mg "row_told" sRowTold fRowTold (PySem.W.fnOf "row_told" "row_told" (C8.fnArgs sRowTold) (C8.fnBody sRowTold) (C8.fnScope sRowTold) .none kVRowTold dcRowTold pmRowTold anRowTold cdRowTold ctRowTold) := ⟨FRowTold, PySem.W.mg_of X G aRowTold, kRowTold⟩
  have bRowTold := FRowTold.binds rfl (ps := ["row"]) fun _ _ _ _ _ _ us hl => match us, hl with | [_], _ => rfl
  have FInit : C8.Fun K "__init__" "Reading.__init__" sInit fInit (PySem.W.fnOf "__init__" "Reading.__init__" (C8.fnArgs sInit) (C8.fnBody sInit) (C8.fnScope sInit) .none kVInit dcInit pmInit anInit cdInit ctInit) := ⟨⟨ocInit, odInit, .none, kVInit, dcInit, pmInit, anInit, cdInit, ctInit, slInit, rfl, lInit, cInit⟩⟩
  have bInit := FInit.binds rfl (ps := ["self"]) fun _ _ _ _ _ _ us hl => match us, hl with | [_], _ => rfl
  have FInRead : C8.Fun K "in_read" "Reading.in_read" sInRead fInRead (PySem.W.fnOf "in_read" "Reading.in_read" (C8.fnArgs sInRead) (C8.fnBody sInRead) (C8.fnScope sInRead) .none kVInRead dcInRead pmInRead anInRead cdInRead ctInRead) := ⟨⟨ocInRead, odInRead, .none, kVInRead, dcInRead, pmInRead, anInRead, cdInRead, ctInRead, slInRead, rfl, lInRead, cInRead⟩⟩
  have MInRead : Meth K C "in_read" fInRead := ⟨aInRead, iInRead, kInRead⟩
  have bInRead := FInRead.binds rfl (ps := ["self", "name", "width"]) fun _ _ _ _ _ _ us hl => match us, hl with | [_, _, _], _ => rfl
  have FNumbers : C8.Fun K "numbers_of" "Reading.numbers_of" sNumbers fNumbers (PySem.W.fnOf "numbers_of" "Reading.numbers_of" (C8.fnArgs sNumbers) (C8.fnBody sNumbers) (C8.fnScope sNumbers) .none kVNumbers dcNumbers pmNumbers anNumbers cdNumbers ctNumbers) := ⟨⟨ocNumbers, odNumbers, .none, kVNumbers, dcNumbers, pmNumbers, anNumbers, cdNumbers, ctNumbers, slNumbers, rfl, lNumbers, cNumbers⟩⟩
  have MNumbers : Meth K C "numbers_of" fNumbers := ⟨aNumbers, iNumbers, kNumbers⟩
  have bNumbers := FNumbers.binds rfl (ps := ["self", "words"]) fun _ _ _ _ _ _ us hl => match us, hl with | [_, _], _ => rfl
  have FGateRead : C8.Fun K "gate_read" "Reading.gate_read" sGateRead fGateRead (PySem.W.fnOf "gate_read" "Reading.gate_read" (C8.fnArgs sGateRead) (C8.fnBody sGateRead) (C8.fnScope sGateRead) .none kVGateRead dcGateRead pmGateRead anGateRead cdGateRead ctGateRead) := ⟨⟨ocGateRead, odGateRead, .none, kVGateRead, dcGateRead, pmGateRead, anGateRead, cdGateRead, ctGateRead, slGateRead, rfl, lGateRead, cGateRead⟩⟩
  have MGateRead : Meth K C "gate_read" fGateRead := ⟨aGateRead, iGateRead, kGateRead⟩
  have bGateRead := FGateRead.binds rfl (ps := ["self", "word", "name", "kind", "wires"]) fun _ _ _ _ _ _ us hl => match us, hl with | [_, _, _, _, _], _ => rfl
  have FOutRead : C8.Fun K "out_read" "Reading.out_read" sOutRead fOutRead (PySem.W.fnOf "out_read" "Reading.out_read" (C8.fnArgs sOutRead) (C8.fnBody sOutRead) (C8.fnScope sOutRead) .none kVOutRead dcOutRead pmOutRead anOutRead cdOutRead ctOutRead) := ⟨⟨ocOutRead, odOutRead, .none, kVOutRead, dcOutRead, pmOutRead, anOutRead, cdOutRead, ctOutRead, slOutRead, rfl, lOutRead, cOutRead⟩⟩
  have MOutRead : Meth K C "out_read" fOutRead := ⟨aOutRead, iOutRead, kOutRead⟩
  have bOutRead := FOutRead.binds rfl (ps := ["self", "name", "words"]) fun _ _ _ _ _ _ us hl => match us, hl with | [_, _, _], _ => rfl
  have FRowRead : C8.Fun K "row_read" "Reading.row_read" sRowRead fRowRead (PySem.W.fnOf "row_read" "Reading.row_read" (C8.fnArgs sRowRead) (C8.fnBody sRowRead) (C8.fnScope sRowRead) .none kVRowRead dcRowRead pmRowRead anRowRead cdRowRead ctRowRead) := ⟨⟨ocRowRead, odRowRead, .none, kVRowRead, dcRowRead, pmRowRead, anRowRead, cdRowRead, ctRowRead, slRowRead, rfl, lRowRead, cRowRead⟩⟩
  have MRowRead : Meth K C "row_read" fRowRead := ⟨aRowRead, iRowRead, kRowRead⟩
  have bRowRead := FRowRead.binds rfl (ps := ["self", "said"]) fun _ _ _ _ _ _ us hl => match us, hl with | [_, _], _ => rfl
  have FRead : C8.Fun K "read" "read" sRead fRead (PySem.W.fnOf "read" "read" (C8.fnArgs sRead) (C8.fnBody sRead) (C8.fnScope sRead) .none kVRead dcRead pmRead anRead cdRead ctRead) := ⟨⟨ocRead, odRead, .none, kVRead, dcRead, pmRead, anRead, cdRead, ctRead, slRead, rfl, lRead, cRead⟩⟩
  have DRead : C8.Def K mg "read" sRead fRead (PySem.W.fnOf "read" "read" (C8.fnArgs sRead) (C8.fnBody sRead) (C8.fnScope sRead) .none kVRead dcRead pmRead anRead cdRead ctRead) := ⟨FRead, PySem.W.mg_of X G aRead, kRead⟩
  have bRead := FRead.binds rfl (ps := ["text"]) fun _ _ _ _ _ _ us hl => match us, hl with | [_], _ => rfl
  have FCell : C8.Fun K "_law_cell_at" "_law_cell_at" sCell fCell (PySem.W.fnOf "_law_cell_at" "_law_cell_at" (C8.fnArgs sCell) (C8.fnBody sCell) (C8.fnScope sCell) .none kVCell dcCell pmCell anCell cdCell ctCell) := ⟨⟨ocCell, odCell, .none, kVCell, dcCell, pmCell, anCell, cdCell, ctCell, slCell, rfl, lCell, cCell⟩⟩
  have DCell : C8.Def K mg "_law_cell_at" sCell fCell (PySem.W.fnOf "_law_cell_at" "_law_cell_at" (C8.fnArgs sCell) (C8.fnBody sCell) (C8.fnScope sCell) .none kVCell dcCell pmCell anCell cdCell ctCell) := ⟨FCell, PySem.W.mg_of X G aCell, kCell⟩
  have bCell := FCell.binds rfl (ps := ["script", "k"]) fun _ _ _ _ _ _ us hl => match us, hl with | [_, _], _ => rfl
  have FStir : C8.Fun K "_law_stir" "_law_stir" sStir fStir (PySem.W.fnOf "_law_stir" "_law_stir" (C8.fnArgs sStir) (C8.fnBody sStir) (C8.fnScope sStir) .none kVStir dcStir pmStir anStir cdStir ctStir) := ⟨⟨ocStir, odStir, .none, kVStir, dcStir, pmStir, anStir, cdStir, ctStir, slStir, rfl, lStir, cStir⟩⟩
  have DStir : C8.Def K mg "_law_stir" sStir fStir (PySem.W.fnOf "_law_stir" "_law_stir" (C8.fnArgs sStir) (C8.fnBody sStir) (C8.fnScope sStir) .none kVStir dcStir pmStir anStir cdStir ctStir) := ⟨FStir, PySem.W.mg_of X G aStir, kStir⟩
  have bStir := FStir.binds rfl (ps := ["cell", "k"]) fun _ _ _ _ _ _ us hl => match us, hl with | [_, _], _ => rfl
  have FNames : C8.Fun K "_law_names" "_law_names" sNames fNames (PySem.W.fnOf "_law_names" "_law_names" (C8.fnArgs sNames) (C8.fnBody sNames) (C8.fnScope sNames) .none kVNames dcNames pmNames anNames cdNames ctNames) := ⟨⟨ocNames, odNames, .none, kVNames, dcNames, pmNames, anNames, cdNames, ctNames, slNames, rfl, lNames, cNames⟩⟩
  have DNames : C8.Def K mg "_law_names" sNames fNames (PySem.W.fnOf "_law_names" "_law_names" (C8.fnArgs sNames) (C8.fnBody sNames) (C8.fnScope sNames) .none kVNames dcNames pmNames anNames cdNames ctNames) := ⟨FNames, PySem.W.mg_of X G aNames, kNames⟩
  have bNames := FNames.binds rfl (ps := ["head", "k", "many"]) fun _ _ _ _ _ _ us hl => match us, hl with | [_, _, _], _ => rfl
  have FWires : C8.Fun K "_law_wires" "_law_wires" sWires fWires (PySem.W.fnOf "_law_wires" "_law_wires" (C8.fnArgs sWires) (C8.fnBody sWires) (C8.fnScope sWires) .none kVWires dcWires pmWires anWires cdWires ctWires) := ⟨⟨ocWires, odWires, .none, kVWires, dcWires, pmWires, anWires, cdWires, ctWires, slWires, rfl, lWires, cWires⟩⟩
  have DWires : C8.Def K mg "_law_wires" sWires fWires (PySem.W.fnOf "_law_wires" "_law_wires" (C8.fnArgs sWires) (C8.fnBody sWires) (C8.fnScope sWires) .none kVWires dcWires pmWires anWires cdWires ctWires) := ⟨FWires, PySem.W.mg_of X G aWires, kWires⟩
  have bWires := FWires.binds rfl (ps := ["cell", "k", "many", "count"]) fun _ _ _ _ _ _ us hl => match us, hl with | [_, _, _, _], _ => rfl
  have FGate : C8.Fun K "_law_gate" "_law_gate" sGate fGate (PySem.W.fnOf "_law_gate" "_law_gate" (C8.fnArgs sGate) (C8.fnBody sGate) (C8.fnScope sGate) .none kVGate dcGate pmGate anGate cdGate ctGate) := ⟨⟨ocGate, odGate, .none, kVGate, dcGate, pmGate, anGate, cdGate, ctGate, slGate, rfl, lGate, cGate⟩⟩
  have DGate : C8.Def K mg "_law_gate" sGate fGate (PySem.W.fnOf "_law_gate" "_law_gate" (C8.fnArgs sGate) (C8.fnBody sGate) (C8.fnScope sGate) .none kVGate dcGate pmGate anGate cdGate ctGate) := ⟨FGate, PySem.W.mg_of X G aGate, kGate⟩
  have bGate := FGate.binds rfl (ps := ["cell", "count"]) fun _ _ _ _ _ _ us hl => match us, hl with | [_, _], _ => rfl
  have FNet : C8.Fun K "_law_net" "_law_net" sNet fNet (PySem.W.fnOf "_law_net" "_law_net" (C8.fnArgs sNet) (C8.fnBody sNet) (C8.fnScope sNet) .none kVNet dcNet pmNet anNet cdNet ctNet) := ⟨⟨ocNet, odNet, .none, kVNet, dcNet, pmNet, anNet, cdNet, ctNet, slNet, rfl, lNet, cNet⟩⟩
  have DNet : C8.Def K mg "_law_net" sNet fNet (PySem.W.fnOf "_law_net" "_law_net" (C8.fnArgs sNet) (C8.fnBody sNet) (C8.fnScope sNet) .none kVNet dcNet pmNet anNet cdNet ctNet) := ⟨FNet, PySem.W.mg_of X G aNet, kNet⟩
  have bNet := FNet.binds rfl (ps := ["script"]) fun _ _ _ _ _ _ us hl => match us, hl with | [_], _ => rfl
  have FWords : C8.Fun K "_law_words" "_law_words" sWords fWords (PySem.W.fnOf "_law_words" "_law_words" (C8.fnArgs sWords) (C8.fnBody sWords) (C8.fnScope sWords) .none kVWords dcWords pmWords anWords cdWords ctWords) := ⟨⟨ocWords, odWords, .none, kVWords, dcWords, pmWords, anWords, cdWords, ctWords, slWords, rfl, lWords, cWords⟩⟩
  have DWords : C8.Def K mg "_law_words" sWords fWords (PySem.W.fnOf "_law_words" "_law_words" (C8.fnArgs sWords) (C8.fnBody sWords) (C8.fnScope sWords) .none kVWords dcWords pmWords anWords cdWords ctWords) := ⟨FWords, PySem.W.mg_of X G aWords, kWords⟩
  have bWords := FWords.binds rfl (ps := ["ins", "gate_names"]) fun _ _ _ _ _ _ us hl => match us, hl with | [_, _], _ => rfl
  have FRows : C8.Fun K "_law_rows" "_law_rows" sRows fRows (PySem.W.fnOf "_law_rows" "_law_rows" (C8.fnArgs sRows) (C8.fnBody sRows) (C8.fnScope sRows) .none kVRows dcRows pmRows anRows cdRows ctRows) := ⟨⟨ocRows, odRows, .none, kVRows, dcRows, pmRows, anRows, cdRows, ctRows, slRows, rfl, lRows, cRows⟩⟩
  have DRows : C8.Def K mg "_law_rows" sRows fRows (PySem.W.fnOf "_law_rows" "_law_rows" (C8.fnArgs sRows) (C8.fnBody sRows) (C8.fnScope sRows) .none kVRows dcRows pmRows anRows cdRows ctRows) := ⟨FRows, PySem.W.mg_of X G aRows, kRows⟩
  have bRows := FRows.binds rfl (ps := ["net", "gate_names"]) fun _ _ _ _ _ _ us hl => match us, hl with | [_, _], _ => rfl
  have FGN : C8.Fun K "_law_gate_names" "_law_gate_names" sGateNames fGN (PySem.W.fnOf "_law_gate_names" "_law_gate_names" (C8.fnArgs sGateNames) (C8.fnBody sGateNames) (C8.fnScope sGateNames) .none kVGN dcGN pmGN anGN cdGN ctGN) := ⟨⟨ocGN, odGN, .none, kVGN, dcGN, pmGN, anGN, cdGN, ctGN, slGN, rfl, lGN, cGN⟩⟩
  have DGN : C8.Def K mg "_law_gate_names" sGateNames fGN (PySem.W.fnOf "_law_gate_names" "_law_gate_names" (C8.fnArgs sGateNames) (C8.fnBody sGateNames) (C8.fnScope sGateNames) .none kVGN dcGN pmGN anGN cdGN ctGN) := ⟨FGN, PySem.W.mg_of X G aGN, kGN⟩
  have bGN := FGN.binds rfl (ps := ["net", "head"]) fun _ _ _ _ _ _ us hl => match us, hl with | [_, _], _ => rfl
  have FLaw : C8.Fun K "law" "law" sLaw fa (PySem.W.fnOf "law" "law" (C8.fnArgs sLaw) (C8.fnBody sLaw) (C8.fnScope sLaw) .none kVLaw dcLaw pmLaw anLaw cdLaw ctLaw) := ⟨⟨ocLaw, odLaw, .none, kVLaw, dcLaw, pmLaw, anLaw, cdLaw, ctLaw, slLaw, rfl, lLaw, cLaw⟩⟩
  have DLaw : C8.Def K mg "law" sLaw fa (PySem.W.fnOf "law" "law" (C8.fnArgs sLaw) (C8.fnBody sLaw) (C8.fnScope sLaw) .none kVLaw dcLaw pmLaw anLaw cdLaw ctLaw) := ⟨FLaw, PySem.W.mg_of X G aLaw, kLaw⟩
  have bLaw := FLaw.binds rfl (ps := ["script"]) fun _ _ _ _ _ _ us hl => match us, hl with | [_], _ => rfl
  refine ⟨PySem.W.fnOf "law" "law" (C8.fnArgs sLaw) (C8.fnBody sLaw) (C8.fnScope sLaw) .none kVLaw dcLaw pmLaw anLaw cdLaw ctLaw, fun s v => .of_eq rfl, fun base _ _ => ?_⟩
  · have cIs := ok_is_name (P := l.prog) (base := base) T DIsName bIsName
    have cNm := ok_named cIs DNamed bNamed
    have cWt := ok_wire T cIs DWire bWire
    have cRt := ok_row_told T cNm cWt DRowTold bRowTold
    have cMk := ok_init (P := l.prog) (base := base) T ⟨mk, aInit, iInit, kc⟩ (PySem.W.mg_of X G aC) FInit bInit
    have cIn := ok_in_read (P := l.prog) (base := base) T MInRead FInRead bInRead
    have cNu := ok_numbers (P := l.prog) (base := base) T MNumbers FNumbers bNumbers
    have cGr := ok_gate_read T cNu MGateRead FGateRead bGateRead
    have cOr := ok_out_read T cNu MOutRead FOutRead bOutRead
    have cRr := ok_row_read T cIn cGr cOr MRowRead FRowRead bRowRead
    have cRd := ok_read T cMk cRt cRr DRead bRead
    have cCe := ok_cell (P := l.prog) (base := base) T DCell bCell
    have cSt := ok_stir (P := l.prog) (w := w) (base := base) DStir bStir
    have cNa := ok_names T cSt DNames bNames
    have cWi := ok_wires T cSt DWires bWires
    have cGa := ok_gate cSt cWi DGate bGate
    have cNe := ok_net T cCe cSt cNa cWi cGa DNet bNet
    have cWo := ok_words (P := l.prog) (base := base) T DWords bWords
    have cRo := ok_rows T cWo DRows bRows
    have cGn := ok_gn T cNa DGN bGN
    exact ok_law T cCe cNa cNe cGn cRo cRd FLaw
theorem walk {l : PySem.W.OpenLaw} {q : Program} {loose : List Str} {XP : (Str → Option Value) → Heap → Prop} {YP : World → Heap → Prop} {d : DefRec} {K : Params → PySem.W.Frag} (hn : l.most = some 63) (hdf : d.params.defaults = [])
    (hY : ∀ (w : World) (h : Heap), YP w h → (K w.params).In h)
    (F : ∀ (w : World) (mg : Str → Option Value) (fa : Addr) (h : Heap), (K w.params).In h → h.Ns mainGlobals mg → mg d.name = some (.ref fa) →
      ∃ fd : FuncData, (∀ (s : Shared) (u : Value), BindsTo s fd ⟨[u], []⟩ [("script", u)]) ∧ ∀ base : Heap, (K w.params).In base → base.Ns mainGlobals mg → FnOk l.prog w (K w.params) mg base C8.CX0 5 fa fd ["script"] (spLaw (K w.params))) :
    PySem.W.WalkO q loose XP YP l.row.toRowW d [] (fun f vs => PySem.call f vs) :=
  L2.walk_of (n := 63) (k := 5) (x := "script") (CX := fun _ => C8.CX0) (sp := fun w => spLaw (K w.params)) hn (by decide) hdf ⟨rfl, by decide, by decide⟩ hY F (fun _ _ a ns hl _ hS => ⟨a, ns, rfl, hS, hl, fun _ => rfl⟩) fun _ _ _ _ _ z => z
end BF
open PySem PySem.W PyProof.Rows
set_option maxRecDepth 100000 in
set_option maxHeartbeats 0 in
theorem PySem.Challenge.cw_bearfaults_k08_whole_names_otherwise_holds : PySem.Challenge.rw_bearfaults_k08_whole_names_otherwise.Holds := by
  w_on; o_law; k_head; (case hw => w_witness2)
  k_fill
  refine BF.walk (l := PySem.Challenge.rw_bearfaults_k08_whole_names_otherwise) rfl rfl (fun w h Y => PySem.W.kIn_of Y) ?F
  case F =>
    intro w mg fa h KX G hmg
    refine' BF.all_mk KX G hmg ?aC ?aIsName ?lIsName ?cIsName ?kIsName ?aNamed ?lNamed ?cNamed ?kNamed ?aWire ?lWire ?cWire ?kWire ?aRowTold ?lRowTold ?cRowTold ?kRowTold ?aInit ?iInit ?lInit ?cInit ?kInit ?aInRead ?iInRead ?lInRead ?cInRead ?kInRead ?aNumbers ?iNumbers ?lNumbers ?cNumbers ?kNumbers ?aGateRead ?iGateRead ?lGateRead ?cGateRead ?kGateRead ?aOutRead ?iOutRead ?lOutRead ?cOutRead ?kOutRead ?aRowRead ?iRowRead ?lRowRead ?cRowRead ?kRowRead ?aRead ?lRead ?cRead ?kRead ?aCell ?lCell ?cCell ?kCell ?aStir ?lStir ?cStir ?kStir ?aNames ?lNames ?cNames ?kNames ?aWires ?lWires ?cWires ?kWires ?aGate ?lGate ?cGate ?kGate ?aNet ?lNet ?cNet ?kNet ?aWords ?lWords ?cWords ?kWords ?aRows ?lRows ?cRows ?kRows ?aGN ?lGN ?cGN ?kGN ?aLaw ?lLaw ?cLaw ?kLaw ?pg ?hd ?po ?sa ?mk ?kc ?nI ?nG ?nO ?nW ?nN ?z_len ?z_int ?z_range ?z_tuple ?z_min ?z_sum ?z_str ?z_enumerate ?gB ?lB ?vB ?gW ?lW ?vW ?gLet ?gFig ?gn8 ?gn80 ?gni ?gng ?gno ?gnw ?gL ?lL ?kL ?qnot ?qand ?qor ?qxor ?qvote ?lowL
    (case aC => k_is)
    (case aIsName => k_is)
    (case lIsName => k_is)
    (case cIsName => k_is)
    (case kIsName => k_is)
    (case aNamed => k_is)
    (case lNamed => k_is)
    (case cNamed => k_is)
    (case kNamed => k_is)
    (case aWire => k_is)
    (case lWire => k_is)
    (case cWire => k_is)
    (case kWire => k_is)
    (case aRowTold => k_is)
    (case lRowTold => k_is)
    (case cRowTold => k_is)
    (case kRowTold => k_is)
    (case aInit => k_is)
    (case iInit => k_is)
    (case lInit => k_is)
    (case cInit => k_is)
    (case kInit => k_is)
    (case aInRead => k_is)
    (case iInRead => k_is)
    (case lInRead => k_is)
    (case cInRead => k_is)
    (case kInRead => k_is)
    (case aNumbers => k_is)
    (case iNumbers => k_is)
    (case lNumbers => k_is)
    (case cNumbers => k_is)
    (case kNumbers => k_is)
    (case aGateRead => k_is)
    (case iGateRead => k_is)
    (case lGateRead => k_is)
    (case cGateRead => k_is)
    (case kGateRead => k_is)
    (case aOutRead => k_is)
    (case iOutRead => k_is)
    (case lOutRead => k_is)
    (case cOutRead => k_is)
    (case kOutRead => k_is)
    (case aRowRead => k_is)
    (case iRowRead => k_is)
    (case lRowRead => k_is)
    (case cRowRead => k_is)
    (case kRowRead => k_is)
    (case aRead => k_is)
    (case lRead => k_is)
    (case cRead => k_is)
    (case kRead => k_is)
    (case aCell => k_is)
    (case lCell => k_is)
    (case cCell => k_is)
    (case kCell => k_is)
    (case aStir => k_is)
    (case lStir => k_is)
    (case cStir => k_is)
    (case kStir => k_is)
    (case aNames => k_is)
    (case lNames => k_is)
    (case cNames => k_is)
    (case kNames => k_is)
    (case aWires => k_is)
    (case lWires => k_is)
    (case cWires => k_is)
    (case kWires => k_is)
    (case aGate => k_is)
    (case lGate => k_is)
    (case cGate => k_is)
    (case kGate => k_is)
    (case aNet => k_is)
    (case lNet => k_is)
    (case cNet => k_is)
    (case kNet => k_is)
    (case aWords => k_is)
    (case lWords => k_is)
    (case cWords => k_is)
    (case kWords => k_is)
    (case aRows => k_is)
    (case lRows => k_is)
    (case cRows => k_is)
    (case kRows => k_is)
    (case aGN => k_is)
    (case lGN => k_is)
    (case cGN => k_is)
    (case kGN => k_is)
    (case aLaw => k_is)
    (case lLaw => k_is)
    (case cLaw => k_is)
    (case kLaw => k_is)
    (case pg => k_is)
    (case hd => k_is)
    (case po => k_is)
    (case sa => k_is)
    (case mk => k_is)
    (case kc => k_is)
    (case nI => k_is)
    (case nG => k_is)
    (case nO => k_is)
    (case nW => k_is)
    (case nN => k_is)
    (case z_len => k_is)
    (case z_int => k_is)
    (case z_range => k_is)
    (case z_tuple => k_is)
    (case z_min => k_is)
    (case z_sum => k_is)
    (case z_str => k_is)
    (case z_enumerate => k_is)
    (case gB => k_is)
    (case lB => k_is)
    (case vB => exact Paired.cons ⟨_, rfl⟩ (Paired.cons ⟨_, rfl⟩ (Paired.cons ⟨_, rfl⟩ (Paired.cons ⟨_, rfl⟩ (Paired.cons ⟨_, rfl⟩ (Paired.cons ⟨_, rfl⟩ (Paired.cons ⟨_, rfl⟩ (Paired.cons ⟨_, rfl⟩ (Paired.cons ⟨_, rfl⟩ Paired.nil)))))))))
    (case gW => k_is)
    (case lW => k_is)
    (case vW => exact Paired.cons ⟨_, rfl⟩ (Paired.cons ⟨_, rfl⟩ (Paired.cons ⟨_, rfl⟩ Paired.nil)))
    (case gLet => k_is)
    (case gFig => k_is)
    (case gn8 => k_is)
    (case gn80 => k_is)
    (case gni => k_is)
    (case gng => k_is)
    (case gno => k_is)
    (case gnw => k_is)
    (case gL => k_is)
    (case lL => k_is)
    (case kL => exact ⟨⟨_, _, rfl, rfl⟩, ⟨_, _, rfl, rfl⟩, ⟨_, _, rfl, rfl⟩, ⟨_, _, rfl, rfl⟩, ⟨_, _, rfl, rfl⟩, trivial⟩)
    (case qnot => k_is)
    (case qand => k_is)
    (case qor => k_is)
    (case qxor => k_is)
    (case qvote => k_is)
    (case lowL => rfl)
