import PyProof.Rows.All
import Wide.All
import OpenK.AllK
import Wide.FinOn
import Lean
import PySem.Challenge.RW_pq0343_01
open PySem PySem.W PyProof.Rows
set_option Elab.async false
set_option maxRecDepth 100000
set_option maxHeartbeats 8000000
namespace Mine
open_top hd for PySem.Challenge.rw_pq0343_01
end Mine
namespace Mine
abbrev Led := List (PySem.Addr × PySem.Obj)
/-- a call of the def at f, with these arguments, over this ledger: what comes back, and the ledger behind it; D bounds the frames that it needs -/
def Spec (D : Nat) (w : World) (p : Program) (loose : List Str) (mean : ExcName → Option Value) (mg mb : Str → Option Value) (f : PySem.Addr) (vs : List Value) (news : Led) (Post : Value → Led → Prop) : Prop :=
  ∀ (dp un : Nat) (gd : Option (List Code)) (cn : Str) (cs : Scope) (a : PySem.Addr) (ccd : Value) (cl : List (Str × PySem.Addr)) (outer : List Env) (A₀ : Around) (base h₀ : Heap) (L : PySem.Addr) (m : Str → Option Value) (s : Shared) (Q E : Value → Shared → Prop),
    Below A₀ base outer h₀ → Fr h₀ L s.heap m → (hd.heap_39 w.params).In h₀ → News h₀ L s.heap news → Top p loose mean mg mb h₀ → cs.kind = .function →
    dp + D < recursionLimit → un + 8 * D + 100 < cLine →
    (∀ (r : Value) (news' : Led) (h' : Heap) (tk' : Nat), Post r news' → Fr h₀ L h' m → News h₀ L h' news' → Q r { s with heap := h', toks := tk' }) →
    wpAny (model PySem.Challenge.rw_pq0343_01.row.prog w) (ktrTop dp un gd cn cs L a ccd cl outer) (call (.ref f) vs) Q E s
/-- an int comes back, the ledger as it was -/
def PInt (news : Led) (V : Int) : Value → Led → Prop := fun r n => n = news ∧ ∃ t, r = .int V t
/-- a pair whose first is an int comes back, new -/
def PTup (news : Led) (V : Int) (P : Value → Prop) : Value → Led → Prop := fun r n => ∃ a t v, r = .ref a ∧ n = (a, { cls := .type "tuple", data := .seq [Value.int V t, v].toArray }) :: news ∧ (∀ q ∈ news, q.1 < a) ∧ P v
section
variable {D : Nat} {w : World} {p : Program} {loose : List Str} {mean : ExcName → Option Value} {mg mb : Str → Option Value} {f : PySem.Addr} {vs : List Value} {news : Led} {Post : Value → Led → Prop} {V : Int}
  {dp un : Nat} {gd : Option (List Code)} {cn : Str} {cs : Scope} {a : PySem.Addr} {ccd : Value} {cl : List (Str × PySem.Addr)} {outer : List Env} {A₀ : Around} {base h₀ : Heap} {L : PySem.Addr} {m : Str → Option Value} {s : Shared} {Q E : Value → Shared → Prop}
theorem use_spec (S : Spec D w p loose mean mg mb f vs news Post) (B : Below A₀ base outer h₀) (F : Fr h₀ L s.heap m) (X : (hd.heap_39 w.params).In h₀) (N : News h₀ L s.heap news) (T : Top p loose mean mg mb h₀) (hk : cs.kind = .function)
    (hd : dp + D < recursionLimit) (hu : un + 8 * D + 100 < cLine)
    (ret : ∀ (r : Value) (news' : Led) (h' : Heap) (tk' : Nat), Post r news' → Fr h₀ L h' m → News h₀ L h' news' → Q r { s with heap := h', toks := tk' }) :
    wpAny (model PySem.Challenge.rw_pq0343_01.row.prog w) (ktrTop dp un gd cn cs L a ccd cl outer) (call (.ref f) vs) Q E s := S _ _ _ _ _ _ _ _ _ _ _ _ _ _ _ _ _ B F X N T hk hd hu ret
theorem use_int (S : Spec D w p loose mean mg mb f vs news (PInt news V)) (B : Below A₀ base outer h₀) (F : Fr h₀ L s.heap m) (X : (hd.heap_39 w.params).In h₀) (N : News h₀ L s.heap news) (T : Top p loose mean mg mb h₀) (hk : cs.kind = .function)
    (hd : dp + D < recursionLimit) (hu : un + 8 * D + 100 < cLine)
    (ret : ∀ (t : Tok) (h' : Heap) (tk' : Nat), Fr h₀ L h' m → News h₀ L h' news → Q (.int V t) { s with heap := h', toks := tk' }) :
    wpAny (model PySem.Challenge.rw_pq0343_01.row.prog w) (ktrTop dp un gd cn cs L a ccd cl outer) (call (.ref f) vs) Q E s := use_spec S B F X N T hk hd hu fun r n h' tk' P F' N' => by
  obtain ⟨rfl, t, rfl⟩ := P
  exact ret t h' tk' F' N'
theorem ret_int {V' : Int} {t : Tok} {h' : Heap} {tk' : Nat} (hret : ∀ (r : Value) (news' : Led) (h' : Heap) (tk' : Nat), PInt news V r news' → Fr h₀ L h' m → News h₀ L h' news' → Q r { s with heap := h', toks := tk' })
    (F : Fr h₀ L h' m) (N : News h₀ L h' news) (e : V' = V) : Q (.int V' t) { s with heap := h', toks := tk' } := by
  subst e
  exact hret _ _ _ _ ⟨rfl, t, rfl⟩ F N
end
theorem memOf {α : Type} {a : α} {as : List α} (h : a ∈ as) : List.Mem a as := h
/-- the view object -/
def View (news : Led) (x : PySem.Addr) (codes : List Int) (first : Int) : Prop :=
  ∃ (dx c : PySem.Addr) (us : List Value) (k n : Nat) (h1 h2 : Int) (t1 t2 t3 : Tok),
    (x, instObj 123 dx) ∈ news ∧ (dx, dictOf [⟨h1, .str (Str.ofString "codes") t1, .ref c⟩, ⟨h2, .str (Str.ofString "place") t2, .int first t3⟩] n) ∈ news ∧ (c, listOf us.toArray k) ∈ news ∧ IntsAre us codes ∧ codes.length ≤ 40 ∧ 1 ≤ first ∧ first ≤ 5
theorem View.of {news : Led} {x dx c : PySem.Addr} {us : List Value} {k n : Nat} {h1 h2 : Int} {t1 t2 t3 : Tok} {codes : List Int} {first : Int} (m1 : (x, instObj 123 dx) ∈ news) (m2 : (dx, dictOf [⟨h1, .str (Str.ofString "codes") t1, .ref c⟩, ⟨h2, .str (Str.ofString "place") t2, .int first t3⟩] n) ∈ news)
  (m3 : (c, listOf us.toArray k) ∈ news) (hi : IntsAre us codes) (hl : codes.length ≤ 40) (hf1 : 1 ≤ first) (hf2 : first ≤ 5) : View news x codes first := ⟨dx, c, us, k, n, h1, h2, t1, t2, t3, m1, m2, m3, hi, hl, hf1, hf2⟩
theorem View.mono {news news' : Led} {x : PySem.Addr} {codes : List Int} {first : Int} (h : View news x codes first) (hs : ∀ q ∈ news, q ∈ news') : View news' x codes first := by
  obtain ⟨dx, c, us, k, n, h1, h2, t1, t2, t3, m1, m2, m3, r⟩ := h
  exact ⟨dx, c, us, k, n, h1, h2, t1, t2, t3, hs _ m1, hs _ m2, hs _ m3, r⟩
end Mine
local macro_rules | `(tactic| k_room) => `(tactic| ktr_room)
local macro_rules | `(tactic| k_units) => `(tactic| ktr_units)
local macro_rules | `(tactic| is_list) => `(tactic| exact News.isList (by assumption) (by k_mem))
local macro_rules | `(tactic| units_room) => `(tactic| ktr_units)
local macro_rules | `(tactic| k_all) => `(tactic| assumption)
local macro_rules | `(tactic| k_mem) => `(tactic| (refine' Mine.memOf ?_; ktr_member))
section
namespace Mine
theorem clamped_spec {w : World} {p : Program} {loose : List Str} {mean : ExcName → Option Value} {mg mb : Str → Option Value} {news : Led} {x : PySem.Addr} {codes : List Int} {first place : Int} {t : Tok}
  (hV : View news x codes first) : Spec 3 w p loose mean mg mb 49 [.ref x, .int place t] news (PInt news (max first (min (first + codes.length) place))) := by
  obtain ⟨dx, c, us, k, n, h1, h2, t1, t2, t3, m1, m2, m3, hi, hl, hf1, hf2⟩ := hV
  unfold Spec
  k_fill
  k_with_none
  intro dp un gd cn cs a ccd cl outer A₀ base h₀ L m s Q E B F X N T hk hd hu hret
  refine wpAny_call ?_
  k_dflt cell_enter
  k_steps
  refine ret_int hret (by k_asm) (by k_asm) ?_
  repeat' split
  all_goals omega
end Mine
end
local macro_rules | `(tactic| walk_at "call ref") => `(tactic| (k_here; (with_reducible show wpAny _ _ (call (Value.ref 49) _) _ _ _); k_dflt (refine' Mine.use_int (Mine.clamped_spec ?V) ?k1 ?k2 ?k3 ?k4 ?k5 ?kK ?kd ?ku ?_; (case k1 => k_asm); (case k2 => k_asm); (case k3 => k_asm); (case k4 => k_asm); (case k5 => k_asm); (case V => (first | assumption | (refine' Mine.View.of ?m1 ?m2 ?m3 ?vi ?vl ?vf ?vg; (case m1 => k_mem); (case m2 => k_mem); (case m3 => k_mem); (case vi => l_ints); (case vl => (first | omega | l_fact)); (case vf => (first | omega | l_fact)); (case vg => (first | omega | l_fact))))); (case kK => first | exact rfl | assumption); (case kd => ktr_room); (case ku => ktr_units); k_whole; intro t9 h9 tk9 F9 N9; (try dsimp only); (try k_fold))))
section
namespace Mine
/-- the first place from i on that bears a newline, or the end -/
def nl (cs : List Int) (i : Nat) : Nat := i + ((cs.drop i).takeWhile (fun c => decide (c ≠ 10))).length
theorem nl_ge (cs : List Int) (i : Nat) : i ≤ nl cs i := Nat.le_add_right _ _
theorem nl_le {cs : List Int} {i : Nat} (h : i ≤ cs.length) : nl cs i ≤ cs.length := by
  have := (List.takeWhile_prefix (p := fun c => decide (c ≠ 10)) (l := cs.drop i)).length_le
  simp only [List.length_drop] at this
  unfold nl; omega
theorem nl_hit {cs : List Int} {i : Nat} (h : i < cs.length) (e : cs[i] = 10) : nl cs i = i := by
  unfold nl; rw [List.drop_eq_getElem_cons h]; simp [e]
theorem nl_miss {cs : List Int} {i : Nat} (h : i < cs.length) (e : cs[i] ≠ 10) : nl cs i = nl cs (i + 1) := by
  unfold nl; rw [List.drop_eq_getElem_cons h]; simp only [decide_not]; rw [List.takeWhile_cons_of_pos (by simp [e])]; simp only [List.length_cons]; omega
theorem nl_end {cs : List Int} {i : Nat} (h : cs.length ≤ i) : nl cs i = i := by
  unfold nl; rw [List.drop_eq_nil_of_le h]; rfl
theorem le_turn {first a : Int} {cs : List Int} {r : Nat} (h0 : first ≤ a) (h1 : a < first + cs.length) (e : r = nl cs (a - first).toNat) (hne : cs.getD (a - first).toNat 0 ≠ 10) :
    first ≤ a + 1 ∧ a + 1 ≤ first + cs.length ∧ r = nl cs (a + 1 - first).toNat := by
  have hlt : (a - first).toNat < cs.length := by omega
  have hs : (a + 1 - first).toNat = (a - first).toNat + 1 := by omega
  refine ⟨by omega, by omega, ?_⟩
  rw [hs, ← nl_miss hlt ?_]
  · exact e
  · simpa [List.getD, List.getElem?_eq_getElem hlt] using hne
theorem le_hit {first a : Int} {cs : List Int} {r : Nat} (h0 : first ≤ a) (h1 : a < first + cs.length) (e : r = nl cs (a - first).toNat) (he : cs.getD (a - first).toNat 0 = 10) : a = first + (r : Nat) := by
  have hlt : (a - first).toNat < cs.length := by omega
  rw [e, nl_hit hlt]
  · omega
  · simpa [List.getD, List.getElem?_eq_getElem hlt] using he
theorem le_end {first a : Int} {cs : List Int} {r : Nat} (h0 : first ≤ a) (h1 : ¬ a < first + cs.length) (e : r = nl cs (a - first).toNat) : a = first + (r : Nat) := by
  rw [e, nl_end (by omega)]
  omega
theorem lineend_spec {w : World} {p : Program} {loose : List Str} {mean : ExcName → Option Value} {mg mb : Str → Option Value} {news : Led} {x : PySem.Addr} {codes : List Int} {first place : Int} {t : Tok}
  (hV : View news x codes first) (hp0 : first ≤ place) (hp1 : place ≤ first + codes.length) : Spec 3 w p loose mean mg mb 28 [.ref x, .int place t] news (PInt news (first + (nl codes (place - first).toNat : Nat))) := by
  obtain ⟨dx, c, us, k, n, h1, h2, t1, t2, t3, m1, m2, m3, hi, hl, hf1, hf2⟩ := hV
  unfold Spec
  k_fill
  k_with_none
  intro dp un gd cn cs a ccd cl outer A₀ base h₀ L m s Q E B F X N T hk hd hu hret
  refine wpAny_call ?_
  k_dflt cell_enter
  k_with "exec While BoolOp cons nil" => k_while (fun script a => first ≤ a ∧ a ≤ first + codes.length ∧ nl codes (place - first).toNat = nl codes (a - first).toNat) (fun _ a => (first + codes.length - a).toNat) "at"
  k_with "state" => exact le_turn (by assumption) (by assumption) (by assumption) (by assumption)
  k_steps
  · refine ret_int hret (by k_asm) (by k_asm) ?_
    exact le_hit (by assumption) (by assumption) (by assumption) (by assumption)
  · refine ret_int hret (by k_asm) (by k_asm) ?_
    exact le_end (by assumption) (by assumption) (by assumption)
end Mine
end
local macro_rules | `(tactic| walk_at "call ref") => `(tactic| (k_here; (with_reducible show wpAny _ _ (call (Value.ref 28) _) _ _ _); k_dflt (refine' Mine.use_int (Mine.lineend_spec ?V ?P0 ?P1) ?k1 ?k2 ?k3 ?k4 ?k5 ?kK ?kd ?ku ?_; (case k1 => k_asm); (case k2 => k_asm); (case k3 => k_asm); (case k4 => k_asm); (case k5 => k_asm); (case V => (first | assumption | (refine' Mine.View.of ?m1 ?m2 ?m3 ?vi ?vl ?vf ?vg; (case m1 => k_mem); (case m2 => k_mem); (case m3 => k_mem); (case vi => l_ints); (case vl => (first | omega | l_fact)); (case vf => (first | omega | l_fact)); (case vg => (first | omega | l_fact))))); (case P0 => l_fact); (case P1 => l_fact); (case kK => first | exact rfl | assumption); (case kd => ktr_room); (case ku => ktr_units); k_whole; intro t9 h9 tk9 F9 N9; (try dsimp only); (try k_fold))))
section
namespace Mine
def nextV (cs : List Int) (first place : Int) : Int := if nl cs (place - first).toNat < cs.length then first + (nl cs (place - first).toNat : Nat) + 1 else -1
theorem nextstart_spec {w : World} {p : Program} {loose : List Str} {mean : ExcName → Option Value} {mg mb : Str → Option Value} {news : Led} {x : PySem.Addr} {codes : List Int} {first place : Int} {t : Tok}
  (hV : View news x codes first) (hp0 : first ≤ place) (hp1 : place ≤ first + codes.length) : Spec 5 w p loose mean mg mb 35 [.ref x, .int place t] news (PInt news (nextV codes first place)) := by
  have hV' := hV
  obtain ⟨dx, c, us, k, n, h1, h2, t1, t2, t3, m1, m2, m3, hi, hl, hf1, hf2⟩ := hV'
  unfold Spec
  k_fill
  k_with_none
  intro dp un gd cn cs a ccd cl outer A₀ base h₀ L m s Q E B F X N T hk hd hu hret
  refine wpAny_call ?_
  k_dflt cell_enter
  k_steps
  all_goals (refine ret_int hret (by k_asm) (by k_asm) ?_)
  · unfold nextV; rw [if_pos (by omega)]
  · unfold nextV; rw [if_neg (by omega)]
end Mine
end
local macro_rules | `(tactic| walk_at "call ref") => `(tactic| (k_here; (with_reducible show wpAny _ _ (call (Value.ref 35) _) _ _ _); k_dflt (refine' Mine.use_int (Mine.nextstart_spec ?V ?P0 ?P1) ?k1 ?k2 ?k3 ?k4 ?k5 ?kK ?kd ?ku ?_; (case k1 => k_asm); (case k2 => k_asm); (case k3 => k_asm); (case k4 => k_asm); (case k5 => k_asm); (case V => (first | assumption | (refine' Mine.View.of ?m1 ?m2 ?m3 ?vi ?vl ?vf ?vg; (case m1 => k_mem); (case m2 => k_mem); (case m3 => k_mem); (case vi => l_ints); (case vl => (first | omega | l_fact)); (case vf => (first | omega | l_fact)); (case vg => (first | omega | l_fact))))); (case P0 => l_fact); (case P1 => l_fact); (case kK => first | exact rfl | assumption); (case kd => ktr_room); (case ku => ktr_units); k_whole; intro t9 h9 tk9 F9 N9; (try dsimp only); (try k_fold))))
section
namespace Mine
theorem linestart_spec {w : World} {p : Program} {loose : List Str} {mean : ExcName → Option Value} {mg mb : Str → Option Value} {news : Led} {x : PySem.Addr} {codes : List Int} {first : Int} {t : Tok}
  (hV : View news x codes first) : Spec 3 w p loose mean mg mb 21 [.ref x, .int first t] news (PInt news first) := by
  have hV' := hV
  obtain ⟨dx, c, us, k, n, h1, h2, t1, t2, t3, m1, m2, m3, hi, hl, hf1, hf2⟩ := hV'
  unfold Spec
  k_fill
  k_with_none
  intro dp un gd cn cs a ccd cl outer A₀ base h₀ L m s Q E B F X N T hk hd hu hret
  refine wpAny_call ?_
  k_dflt cell_enter
  k_with "exec While BoolOp cons nil" => k_while (fun script a => a = first) (fun _ _ => 0) "at"
  k_steps
  exact ret_int hret (by k_asm) (by k_asm) (by assumption)
end Mine
end
local macro_rules | `(tactic| walk_at "call ref") => `(tactic| (k_here; (with_reducible show wpAny _ _ (call (Value.ref 21) _) _ _ _); k_dflt (refine' Mine.use_int (Mine.linestart_spec ?V) ?k1 ?k2 ?k3 ?k4 ?k5 ?kK ?kd ?ku ?_; (case k1 => k_asm); (case k2 => k_asm); (case k3 => k_asm); (case k4 => k_asm); (case k5 => k_asm); (case V => (first | assumption | (refine' Mine.View.of ?m1 ?m2 ?m3 ?vi ?vl ?vf ?vg; (case m1 => k_mem); (case m2 => k_mem); (case m3 => k_mem); (case vi => l_ints); (case vl => (first | omega | l_fact)); (case vf => (first | omega | l_fact)); (case vg => (first | omega | l_fact))))); (case kK => first | exact rfl | assumption); (case kd => ktr_room); (case ku => ktr_units); k_whole; intro t9 h9 tk9 F9 N9; (try dsimp only); (try k_fold))))
section
namespace Mine
/-- k line beginnings on from i, or the end -/
def go (cs : List Int) : Nat → Nat → Nat
  | 0, i => i
  | k + 1, i => if nl cs i < cs.length then go cs k (nl cs i + 1) else cs.length
theorem lt_turn {first a m : Int} {cs : List Int} {r : Nat} (_hf : 1 ≤ first) (_h0 : first ≤ a) (_h1 : a ≤ first + cs.length) (hm : 0 < m) (e : r = go cs m.toNat (a - first).toNat) (hn : ¬ nextV cs first a < 0) :
    first ≤ nextV cs first a ∧ nextV cs first a ≤ first + cs.length ∧ 0 ≤ m - 1 ∧ r = go cs (m - 1).toNat (nextV cs first a - first).toNat := by
  unfold nextV at hn ⊢
  split at hn
  · rename_i hlt
    have hs : m.toNat = (m - 1).toNat + 1 := by omega
    rw [if_pos hlt]
    refine ⟨by omega, by omega, by omega, ?_⟩
    rw [e, hs, go, if_pos hlt]
    congr 1
    omega
  · omega
theorem lt_out {first a m : Int} {cs : List Int} {r : Nat} (hf : 1 ≤ first) (hm : 0 < m) (e : r = go cs m.toNat (a - first).toNat) (hn : nextV cs first a < 0) : first + (cs.length : Int) = first + (r : Nat) := by
  unfold nextV at hn
  split at hn
  · omega
  · rename_i hlt
    have hs : m.toNat = (m - 1).toNat + 1 := by omega
    rw [e, hs, go, if_neg hlt]
theorem lt_done {first a m : Int} {cs : List Int} {r : Nat} (h0 : first ≤ a) (hm : 0 ≤ m) (hm' : ¬ 0 < m) (e : r = go cs m.toNat (a - first).toNat) : a = first + (r : Nat) := by
  have hs : m.toNat = 0 := by omega
  rw [e, hs, go]
  omega
section
variable {news : Led} {V : Int} {P : Value → Prop} {h₀ : Heap} {L : PySem.Addr} {m : Str → Option Value} {s : Shared} {Q : Value → Shared → Prop}
theorem ret_tup {a : PySem.Addr} {V' : Int} {t : Tok} {v : Value} {h' : Heap} {tk' : Nat} (hret : ∀ (r : Value) (news' : Led) (h' : Heap) (tk' : Nat), PTup news V P r news' → Fr h₀ L h' m → News h₀ L h' news' → Q r { s with heap := h', toks := tk' })
    (F : Fr h₀ L h' m) (N : News h₀ L h' ((a, { cls := .type "tuple", data := .seq [Value.int V' t, v].toArray }) :: news)) (ha : ∀ q ∈ news, q.1 < a) (e : V' = V) (hP : P v) : Q (.ref a) { s with heap := h', toks := tk' } := by
  subst e
  exact hret _ _ _ _ ⟨a, t, v, rfl, rfl, ha, hP⟩ F N
end
theorem linestarget_spec {w : World} {p : Program} {loose : List Str} {mean : ExcName → Option Value} {mg mb : Str → Option Value} {news : Led} {x : PySem.Addr} {codes : List Int} {first place many : Int} {t tm : Tok}
  (hV : View news x codes first) (hp0 : first ≤ place) (hp1 : place ≤ first + codes.length) (hm : 0 ≤ many) (hz : many = 0 → place = first) :
  Spec 7 w p loose mean mg mb 42 [.ref x, .int place t, .int many tm] news (PTup news (first + (go codes many.toNat (place - first).toNat : Nat)) (fun _ => True)) := by
  have hV' := hV
  obtain ⟨dx, c, us, k, n, h1, h2, t1, t2, t3, m1, m2, m3, hi, hl, hf1, hf2⟩ := hV'
  unfold Spec
  k_fill
  k_with_none
  intro dp un gd cn cs a ccd cl outer A₀ base h₀ L m s Q E B F X N T hk hd hu hret
  refine wpAny_call ?_
  rcases Decidable.em (many = 0) with hm0 | hm0
  · obtain rfl := hz hm0
    subst hm0
    clear hz hm hp0 hp1
    k_dflt cell_enter
    k_with "exec While BoolOp cons nil" => k_while (fun script a m => a = place ∧ m = 0) (fun _ _ _ => 0) "at" "many"
    k_steps
    refine ret_tup hret (by k_asm) (by k_asm) (by assumption) ?_ trivial
    show _ = place + (((place - place).toNat : Nat) : Int)
    omega
  · have hm1 : 0 < many := by omega
    clear hz hm0
    k_dflt cell_enter
    k_with "exec While Compare cons nil" => k_while (fun script a m => first ≤ a ∧ a ≤ first + codes.length ∧ 0 ≤ m ∧ go codes many.toNat (place - first).toNat = go codes m.toNat (a - first).toNat) (fun _ _ m => m.toNat) "at" "many"
    k_with "state" => exact lt_turn (by assumption) (by assumption) (by assumption) (by assumption) (by assumption) (by assumption)
    k_steps
    · refine ret_tup hret (by k_asm) (by k_asm) (by assumption) ?_ trivial
      exact lt_out (by assumption) (by assumption) (by assumption) (by assumption)
    · refine ret_tup hret (by k_asm) (by k_asm) (by assumption) ?_ trivial
      exact lt_done (by assumption) (by assumption) (by assumption) (by assumption)
end Mine
end
local macro_rules | `(tactic| walk_at "call ref") => `(tactic| (k_here; (with_reducible show wpAny _ _ (call (Value.ref 42) _) _ _ _); k_dflt (refine' Mine.use_spec (Mine.linestarget_spec ?V ?P0 ?P1 ?P2 ?P3) ?k1 ?k2 ?k3 ?k4 ?k5 ?kK ?kd ?ku ?_; (case k1 => k_asm); (case k2 => k_asm); (case k3 => k_asm); (case k4 => k_asm); (case k5 => k_asm); (case V => (first | assumption | (refine' Mine.View.of ?m1 ?m2 ?m3 ?vi ?vl ?vf ?vg; (case m1 => k_mem); (case m2 => k_mem); (case m3 => k_mem); (case vi => l_ints); (case vl => (first | omega | l_fact)); (case vf => (first | omega | l_fact)); (case vg => (first | omega | l_fact))))); (case P0 => (first | omega | l_fact)); (case P1 => (first | omega | l_fact)); (case P2 => (first | omega | l_fact)); (case P3 => (intro _; first | rfl | l_fact)); (case kK => first | exact rfl | assumption); (case kd => ktr_room); (case ku => ktr_units); k_whole; intro r9 n9 h9 tk9 P9 F9 N9; obtain ⟨a9, t9, v9, e9, e9', la9, hp9⟩ := P9; subst e9; subst e9'; (try k_lt la9); (try dsimp only); (try k_fold))))
section
namespace Mine
/-- the name of the edge -/
def edge (V wanted : Int) : Str := if V < wanted then Str.ofString "end-of-buffer" else if V > wanted then Str.ofString "beginning-of-buffer" else Str.ofString ""
theorem edge_end {V w : Int} (h : V < w) : edge V w = Str.ofString "end-of-buffer" := by unfold edge; rw [if_pos h]
theorem edge_begin {V w : Int} (h : w < V) : edge V w = Str.ofString "beginning-of-buffer" := by unfold edge; rw [if_neg (by omega), if_pos h]
theorem edge_none {V w : Int} (h : ¬ V < w) (h' : ¬ w < V) : edge V w = Str.ofString "" := by unfold edge; rw [if_neg h, if_neg (by omega)]
theorem chars_spec {w : World} {p : Program} {loose : List Str} {mean : ExcName → Option Value} {mg mb : Str → Option Value} {news : Led} {x : PySem.Addr} {codes : List Int} {first place many : Int} {t tm : Tok}
  (hV : View news x codes first) : Spec 5 w p loose mean mg mb 56 [.ref x, .int place t, .int many tm] news (PTup news (max first (min (first + codes.length) (place + many))) (fun v => ∃ t, v = .str (edge (max first (min (first + codes.length) (place + many))) (place + many)) t)) := by
  have hV' := hV
  obtain ⟨dx, c, us, k, n, h1, h2, t1, t2, t3, m1, m2, m3, hi, hl, hf1, hf2⟩ := hV'
  unfold Spec
  k_fill
  k_with_none
  intro dp un gd cn cs a ccd cl outer A₀ base h₀ L m s Q E B F X N T hk hd hu hret
  refine wpAny_call ?_
  k_dflt cell_enter
  k_steps
  all_goals (refine ret_tup hret (by k_asm) (by k_asm) (by assumption) rfl ?_)
  · rw [edge_end (by assumption)]; exact ⟨_, rfl⟩
  · rw [edge_begin (by assumption)]; exact ⟨_, rfl⟩
  · rw [edge_none (by assumption) (by assumption)]; exact ⟨_, rfl⟩
end Mine
end
section
namespace Mine
theorem tenths_spec {w : World} {p : Program} {loose : List Str} {mean : ExcName → Option Value} {mg mb : Str → Option Value} {news : Led} {x : PySem.Addr} {codes : List Int} {first tenths : Int} {t : Tok}
  (hV : View news x codes first) (ht0 : 0 ≤ tenths) (ht1 : tenths ≤ 10) : Spec 3 w p loose mean mg mb 63 [.ref x, .int tenths t] news (PInt news (tenths * codes.length / 10)) := by
  have hV' := hV
  obtain ⟨dx, c, us, k, n, h1, h2, t1, t2, t3, m1, m2, m3, hi, hl, hf1, hf2⟩ := hV'
  unfold Spec
  k_fill
  k_with_none
  intro dp un gd cn cs a ccd cl outer A₀ base h₀ L m s Q E B F X N T hk hd hu hret
  refine wpAny_call ?_
  k_dflt cell_enter
  k_steps
  refine ret_int hret (by k_asm) (by k_asm) ?_
  rw [show first + (codes.length : Int) - first = codes.length from by omega, Int.fdiv_eq_ediv_of_nonneg _ (by omega)]
end Mine
end
local macro_rules | `(tactic| walk_at "call ref") => `(tactic| (k_here; (with_reducible show wpAny _ _ (call (Value.ref 63) _) _ _ _); k_dflt (refine' Mine.use_int (Mine.tenths_spec ?V ?P0 ?P1) ?k1 ?k2 ?k3 ?k4 ?k5 ?kK ?kd ?ku ?_; (case k1 => k_asm); (case k2 => k_asm); (case k3 => k_asm); (case k4 => k_asm); (case k5 => k_asm); (case V => (first | assumption | (refine' Mine.View.of ?m1 ?m2 ?m3 ?vi ?vl ?vf ?vg; (case m1 => k_mem); (case m2 => k_mem); (case m3 => k_mem); (case vi => l_ints); (case vl => (first | omega | l_fact)); (case vf => (first | omega | l_fact)); (case vg => (first | omega | l_fact))))); (case P0 => l_fact); (case P1 => l_fact); (case kK => first | exact rfl | assumption); (case kd => ktr_room); (case ku => ktr_units); k_whole; intro t9 h9 tk9 F9 N9; (try dsimp only); (try k_fold))))
section
namespace Mine
theorem begin_eq {first tenths : Int} {n : Nat} (h0 : 0 ≤ tenths) : (max first (min (first + (n : Int)) (first + (10 + (first + (n : Int) - first) * tenths).fdiv 10)) - first).toNat = min n ((10 + (n : Int) * tenths) / 10).toNat := by
  rw [show first + (n : Int) - first = n from by omega]
  have h : 0 ≤ (n : Int) * tenths := Int.mul_nonneg (by omega) h0
  rw [Int.fdiv_eq_ediv_of_nonneg _ (by omega)]
  generalize (n : Int) * tenths = x at h
  omega
theorem begin_none_spec {w : World} {p : Program} {loose : List Str} {mean : ExcName → Option Value} {mg mb : Str → Option Value} {news : Led} {x : PySem.Addr} {codes : List Int} {first  : Int}
  (hV : View news x codes first) : Spec 9 w p loose mean mg mb 70 [.ref x, .none] news (PInt news first) := by
  have hV' := hV
  obtain ⟨dx, c, us, k, n, h1, h2, t1, t2, t3, m1, m2, m3, hi, hl, hf1, hf2⟩ := hV'
  unfold Spec
  k_fill
  k_with_none
  intro dp un gd cn cs a ccd cl outer A₀ base h₀ L m s Q E B F X N T hk hd hu hret
  refine wpAny_call ?_
  k_dflt cell_enter
  k_steps
  exact ret_int hret (by k_asm) (by k_asm) rfl
theorem begin_spec {w : World} {p : Program} {loose : List Str} {mean : ExcName → Option Value} {mg mb : Str → Option Value} {news : Led} {x : PySem.Addr} {codes : List Int} {first tenths : Int} {t : Tok}
  (hV : View news x codes first) (ht0 : 0 ≤ tenths) (ht1 : tenths ≤ 10) : Spec 9 w p loose mean mg mb 70 [.ref x, .int tenths t] news (PInt news (first + (go codes 1 (min codes.length ((10 + codes.length * tenths) / 10).toNat) : Nat))) := by
  have hV' := hV
  obtain ⟨dx, c, us, k, n, h1, h2, t1, t2, t3, m1, m2, m3, hi, hl, hf1, hf2⟩ := hV'
  unfold Spec
  k_fill
  k_with_none
  intro dp un gd cn cs a ccd cl outer A₀ base h₀ L m s Q E B F X N T hk hd hu hret
  refine wpAny_call ?_
  k_dflt cell_enter
  k_steps
  refine ret_int hret (by k_asm) (cb_drop (by k_asm) fun _ h => List.Mem.tail _ h) ?_
  rw [begin_eq ht0]
  rfl
end Mine
end
local macro_rules | `(tactic| walk_at "call ref") => `(tactic| (k_here; (with_reducible show wpAny _ _ (call (Value.ref 70) _) _ _ _); k_dflt (refine' Mine.use_int (Mine.begin_none_spec ?V) ?k1 ?k2 ?k3 ?k4 ?k5 ?kK ?kd ?ku ?_; (case k1 => k_asm); (case k2 => k_asm); (case k3 => k_asm); (case k4 => k_asm); (case k5 => k_asm); (case V => (first | assumption | (refine' Mine.View.of ?m1 ?m2 ?m3 ?vi ?vl ?vf ?vg; (case m1 => k_mem); (case m2 => k_mem); (case m3 => k_mem); (case vi => l_ints); (case vl => (first | omega | l_fact)); (case vf => (first | omega | l_fact)); (case vg => (first | omega | l_fact))))); (case kK => first | exact rfl | assumption); (case kd => ktr_room); (case ku => ktr_units); k_whole; intro t9 h9 tk9 F9 N9; (try dsimp only); (try k_fold))))
local macro_rules | `(tactic| walk_at "call ref") => `(tactic| (k_here; (with_reducible show wpAny _ _ (call (Value.ref 70) _) _ _ _); k_dflt (refine' Mine.use_int (Mine.begin_spec ?V ?P0 ?P1) ?k1 ?k2 ?k3 ?k4 ?k5 ?kK ?kd ?ku ?_; (case k1 => k_asm); (case k2 => k_asm); (case k3 => k_asm); (case k4 => k_asm); (case k5 => k_asm); (case V => (first | assumption | (refine' Mine.View.of ?m1 ?m2 ?m3 ?vi ?vl ?vf ?vg; (case m1 => k_mem); (case m2 => k_mem); (case m3 => k_mem); (case vi => l_ints); (case vl => (first | omega | l_fact)); (case vf => (first | omega | l_fact)); (case vg => (first | omega | l_fact))))); (case P0 => (first | omega | l_fact)); (case P1 => (first | omega | l_fact)); (case kK => first | exact rfl | assumption); (case kd => ktr_room); (case ku => ktr_units); k_whole; intro t9 h9 tk9 F9 N9; (try dsimp only); (try k_fold))))
section
namespace Mine
theorem end_eq {first q : Int} {n : Nat} (h0 : 0 ≤ q) : (max first (min (first + (n : Int)) (first + (n : Int) - q)) - first).toNat = ((n : Int) - q).toNat := by
  omega
theorem end_none_spec {w : World} {p : Program} {loose : List Str} {mean : ExcName → Option Value} {mg mb : Str → Option Value} {news : Led} {x : PySem.Addr} {codes : List Int} {first  : Int}
  (hV : View news x codes first) : Spec 9 w p loose mean mg mb 77 [.ref x, .none] news (PInt news (first + codes.length)) := by
  have hV' := hV
  obtain ⟨dx, c, us, k, n, h1, h2, t1, t2, t3, m1, m2, m3, hi, hl, hf1, hf2⟩ := hV'
  unfold Spec
  k_fill
  k_with_none
  intro dp un gd cn cs a ccd cl outer A₀ base h₀ L m s Q E B F X N T hk hd hu hret
  refine wpAny_call ?_
  k_dflt cell_enter
  k_steps
  exact ret_int hret (by k_asm) (by k_asm) rfl
theorem end_spec {w : World} {p : Program} {loose : List Str} {mean : ExcName → Option Value} {mg mb : Str → Option Value} {news : Led} {x : PySem.Addr} {codes : List Int} {first tenths : Int} {t : Tok}
  (hV : View news x codes first) (ht0 : 0 ≤ tenths) (ht1 : tenths ≤ 10) : Spec 9 w p loose mean mg mb 77 [.ref x, .int tenths t] news (PInt news (first + (go codes 1 (codes.length - (tenths * codes.length / 10)).toNat : Nat))) := by
  have hV' := hV
  obtain ⟨dx, c, us, k, n, h1, h2, t1, t2, t3, m1, m2, m3, hi, hl, hf1, hf2⟩ := hV'
  unfold Spec
  k_fill
  k_with_none
  intro dp un gd cn cs a ccd cl outer A₀ base h₀ L m s Q E B F X N T hk hd hu hret
  refine wpAny_call ?_
  k_dflt cell_enter
  k_steps
  refine ret_int hret (by k_asm) (cb_drop (by k_asm) fun _ h => List.Mem.tail _ h) ?_
  have hq : 0 ≤ tenths * (codes.length : Int) := Int.mul_nonneg ht0 (by omega)
  rw [end_eq (by omega)]
  rfl
end Mine
end
local macro_rules | `(tactic| walk_at "call ref") => `(tactic| (k_here; (with_reducible show wpAny _ _ (call (Value.ref 77) _) _ _ _); k_dflt (refine' Mine.use_int (Mine.end_none_spec ?V) ?k1 ?k2 ?k3 ?k4 ?k5 ?kK ?kd ?ku ?_; (case k1 => k_asm); (case k2 => k_asm); (case k3 => k_asm); (case k4 => k_asm); (case k5 => k_asm); (case V => (first | assumption | (refine' Mine.View.of ?m1 ?m2 ?m3 ?vi ?vl ?vf ?vg; (case m1 => k_mem); (case m2 => k_mem); (case m3 => k_mem); (case vi => l_ints); (case vl => (first | omega | l_fact)); (case vf => (first | omega | l_fact)); (case vg => (first | omega | l_fact))))); (case kK => first | exact rfl | assumption); (case kd => ktr_room); (case ku => ktr_units); k_whole; intro t9 h9 tk9 F9 N9; (try dsimp only); (try k_fold))))
local macro_rules | `(tactic| walk_at "call ref") => `(tactic| (k_here; (with_reducible show wpAny _ _ (call (Value.ref 77) _) _ _ _); k_dflt (refine' Mine.use_int (Mine.end_spec ?V ?P0 ?P1) ?k1 ?k2 ?k3 ?k4 ?k5 ?kK ?kd ?ku ?_; (case k1 => k_asm); (case k2 => k_asm); (case k3 => k_asm); (case k4 => k_asm); (case k5 => k_asm); (case V => (first | assumption | (refine' Mine.View.of ?m1 ?m2 ?m3 ?vi ?vl ?vf ?vg; (case m1 => k_mem); (case m2 => k_mem); (case m3 => k_mem); (case vi => l_ints); (case vl => (first | omega | l_fact)); (case vf => (first | omega | l_fact)); (case vg => (first | omega | l_fact))))); (case P0 => (first | omega | l_fact)); (case P1 => (first | omega | l_fact)); (case kK => first | exact rfl | assumption); (case kd => ktr_room); (case ku => ktr_units); k_whole; intro t9 h9 tk9 F9 N9; (try dsimp only); (try k_fold))))
section
namespace Mine
theorem number_eq {number first : Int} : (if number - 1 > 0 then number - 1 else 0).toNat = (number - 1).toNat ∧ (first - first).toNat = 0 := by
  refine ⟨?_, by omega⟩
  split <;> omega
theorem number_spec {w : World} {p : Program} {loose : List Str} {mean : ExcName → Option Value} {mg mb : Str → Option Value} {news : Led} {x : PySem.Addr} {codes : List Int} {first number : Int} {t : Tok}
  (hV : View news x codes first) : Spec 9 w p loose mean mg mb 84 [.ref x, .int number t] news (PInt news (first + (go codes (number - 1).toNat 0 : Nat))) := by
  have hV' := hV
  obtain ⟨dx, c, us, k, n, h1, h2, t1, t2, t3, m1, m2, m3, hi, hl, hf1, hf2⟩ := hV'
  unfold Spec
  k_fill
  k_with_none
  intro dp un gd cn cs a ccd cl outer A₀ base h₀ L m s Q E B F X N T hk hd hu hret
  refine wpAny_call ?_
  k_dflt cell_enter
  k_steps
  refine ret_int hret (by k_asm) (cb_drop (by k_asm) fun _ h => List.Mem.tail _ h) ?_
  rw [(number_eq (number := number) (first := first)).1, (number_eq (number := number) (first := first)).2]
end Mine
end
local macro_rules | `(tactic| walk_at "call ref") => `(tactic| (k_here; (with_reducible show wpAny _ _ (call (Value.ref 84) _) _ _ _); k_dflt (refine' Mine.use_int (Mine.number_spec ?V) ?k1 ?k2 ?k3 ?k4 ?k5 ?kK ?kd ?ku ?_; (case k1 => k_asm); (case k2 => k_asm); (case k3 => k_asm); (case k4 => k_asm); (case k5 => k_asm); (case V => (first | assumption | (refine' Mine.View.of ?m1 ?m2 ?m3 ?vi ?vl ?vf ?vg; (case m1 => k_mem); (case m2 => k_mem); (case m3 => k_mem); (case vi => l_ints); (case vl => (first | omega | l_fact)); (case vf => (first | omega | l_fact)); (case vg => (first | omega | l_fact))))); (case kK => first | exact rfl | assumption); (case kd => ktr_room); (case ku => ktr_units); k_whole; intro t9 h9 tk9 F9 N9; (try dsimp only); (try k_fold))))
section
namespace Mine
theorem pos_of_ne {ns : List Int} (h : decide (ns = []) = false) : 0 < ns.length := by
  cases ns with
  | nil => simp at h
  | cons _ _ => simp
section
variable {prog : Program} {w : World} {A : Around} {E : Value → Shared → Prop} {s : Shared} {h₀ : Heap} {L D : PySem.Addr} {m : Str → Option Value} {news news' : Led} {n : Nat}
theorem pop0 {us : List Value} {l : List Int} {u : Tok} {Q : Value → Shared → Prop} (F : Fr h₀ L s.heap m) (N : News h₀ L s.heap news) (U : Upd D (listOf us.toArray n) (listOf us.tail.toArray (n + 1)) news news') (hi : IntsAre us l) (hne : 0 < l.length)
    (hz : l.length ≤ 1000) (h : ∀ h' t, Fr h₀ L h' m → News h₀ L h' news' → IntsAre us.tail l.tail → Q (.int (l.headD 0) t) { s with heap := h' }) : wpAny (model prog w) A (call (.builtin "list.pop") [.ref D, .int 0 u]) Q E s := by
  have hlen := hi.length
  cases hi with
  | nil => exact absurd hne (Nat.lt_irrefl 0)
  | cons k t r =>
    rename_i us' l'
    refine kl_popAt (n := n) (its := (Value.int k t :: us').toArray) (k := 0) (p := []) (y := .int k t) (q := us') F N rfl ?_ rfl ?_ ?_ fun h' F' N' => h h' t F' N' r
    · simp [seqIndex?]
    · exact U
    · rw [PySem.sizeLine_eq]
      simp only [List.length_cons] at hz ⊢
      have := r.length
      omega
end
local macro_rules | `(tactic| walk_at "subscriptTail Name Constant ref int") => `(tactic| ((rename (decide (_ = ([] : List Int)) = false) => hd9); (have hP9 := pos_of_ne hd9); clear hd9; walk_at "subscriptTail Name Constant ref int"))
local macro_rules | `(tactic| walk_at "call builtin:list.pop") => `(tactic| (k_here; k_dflt (refine' pop0 ?F ?N ?U ?i ?l ?z ?_; (case F => k_asm); (case N => k_asm); (case U => k_upd); (case i => with_reducible assumption); (case l => assumption); (case z => omega)); (intro h' t' F' N' hI'; (try dsimp only [List.nil_append, List.cons_append] at N'))))
local macro_rules | `(tactic| walk_at "binaryOp FloorDiv int int") => `(tactic| (refine floordiv_int (by omega) ?_ (Or.inl (PyProof.noPylong_small (by omega)))))
theorem draw_turn {l : List Int} (h : ∀ x ∈ l, 0 ≤ x) (h' : l.length ≤ 16) : (∀ x ∈ l.tail, 0 ≤ x) ∧ l.tail.length ≤ 16 := ⟨fun x hx => h x (List.mem_of_mem_tail hx), by rw [List.length_tail]; omega⟩
theorem draw_less {l : List Int} (h : 0 < l.length) : l.tail.length < l.length := by rw [List.length_tail]; omega
theorem draw_nn {l : List Int} {v : Int} {j : Nat} (h : ∀ x ∈ l, 0 ≤ x) (hv : 0 ≤ v) : ∀ x ∈ l.set j v, 0 ≤ x := fun x hx => by
  rcases List.mem_or_eq_of_mem_set hx with h1 | h1
  · exact h x h1
  · rw [h1]; exact hv
theorem draw_at {l : List Int} {j : Nat} (h : ∀ x ∈ l, 0 ≤ x) : 0 ≤ l.getD j 0 := by
  rw [List.getD_eq_getElem?_getD]
  cases e : l[j]? with
  | none => exact Int.le_refl 0
  | some v => exact h v (List.mem_of_getElem? e)
section
variable {rest : Led} {d : PySem.Addr} {many : Int} {h₀ : Heap} {L : PySem.Addr} {m : Str → Option Value} {s : Shared} {Q : Value → Shared → Prop}
def PDraw (rest : Led) (d : PySem.Addr) (many : Int) : Value → Led → Prop := fun r n => ∃ x t us' ns' k', r = .int x t ∧ 0 ≤ x ∧ x < many ∧ n = (d, listOf us'.toArray k') :: rest ∧ IntsAre us' ns' ∧ (∀ y ∈ ns', 0 ≤ y) ∧ ns'.length ≤ 16
theorem ret_draw {x : Int} {t : Tok} {us' : List Value} {ns' : List Int} {k' : Nat} {h' : Heap} {tk' : Nat} {news' : Led} (hret : ∀ (r : Value) (news' : Led) (h' : Heap) (tk' : Nat), PDraw rest d many r news' → Fr h₀ L h' m → News h₀ L h' news' → Q r { s with heap := h', toks := tk' })
    (F : Fr h₀ L h' m) (N : News h₀ L h' news') (h0 : 0 ≤ x) (h1 : x < many) (hs : (d, listOf us'.toArray k') ∈ news') (hr : ∀ q ∈ rest, q ∈ news') (hi : IntsAre us' ns') (hn : ∀ y ∈ ns', 0 ≤ y) (hl : ns'.length ≤ 16) : Q (.int x t) { s with heap := h', toks := tk' } :=
  hret _ _ _ _ ⟨x, t, us', ns', k', rfl, h0, h1, rfl, hi, hn, hl⟩ F fun q hq => by
    rcases List.mem_cons.mp hq with rfl | hq
    · exact N _ hs
    · exact N _ (hr q hq)
end
theorem draw_core {w : World} {p : Program} {loose : List Str} {mean : ExcName → Option Value} {mg mb : Str → Option Value} {rest : Led} {d : PySem.Addr} {us : List Value} {ns : List Int} {k : Nat} {many : Int} {t : Tok}
  (hi : IntsAre us ns) (hnn : ∀ x ∈ ns, 0 ≤ x) (hlen : ns.length ≤ 16) (hm : 0 < many) (hmb : many ≤ 200) (hd0 : ∀ q ∈ rest, q.1 ≠ d) :
  Spec 3 w p loose mean mg mb 139 [.ref d, .int many t] ((d, listOf us.toArray k) :: rest)
    (PDraw rest d many) := by
  unfold Spec
  k_fill
  k_with_none
  intro dp un gd cn cs a ccd cl outer A₀ base h₀ L m s Q E B F X N T hk hd hu hret
  refine wpAny_call ?_
  k_dflt cell_enter
  k_with "exec While BoolOp cons nil" => k_while (fun script (c : List Int) => (∀ x ∈ c, 0 ≤ x) ∧ c.length ≤ 16) (fun _ c => c.length) "deck"
  k_with "state" => exact draw_turn (by assumption) (by assumption)
  k_with "measure" => exact draw_less (by assumption)
  k_steps
  · exact ret_draw hret (by k_asm) (by k_asm) (Int.le_refl 0) hm (by k_mem) (fun _ h => .tail _ (.tail _ (.tail _ h))) (by assumption) (by assumption) (by assumption)
  · exact ret_draw hret (by k_asm) (by k_asm) (Int.le_refl 0) hm (by k_mem) (fun _ h => .tail _ (.tail _ (.tail _ h))) (by assumption) (by assumption) (by assumption)
  · refine ret_draw hret (by k_asm) (by k_asm) (fmod_lo _ hm) (fmod_hi _ hm) (by k_mem) (fun _ h => .tail _ (.tail _ (.tail _ h))) (by assumption) (draw_nn (by assumption) ?_) (by rw [List.length_set]; assumption)
    exact Int.fdiv_nonneg (draw_at (by assumption)) (by omega)
theorem draw_spec {w : World} {p : Program} {loose : List Str} {mean : ExcName → Option Value} {mg mb : Str → Option Value} {news : Led} {g : PySem.Obj → Led} {d : PySem.Addr} {us : List Value} {ns : List Int} {k : Nat} {many : Int} {t : Tok}
  (U : UpdF d (listOf us.toArray k) news g) (hi : IntsAre us ns) (hnn : ∀ x ∈ ns, 0 ≤ x) (hlen : ns.length ≤ 16) (hm : 0 < many) (hmb : many ≤ 200) :
  Spec 3 w p loose mean mg mb 139 [.ref d, .int many t] news
    (fun r n => ∃ x t us' ns' k', r = .int x t ∧ 0 ≤ x ∧ x < many ∧ n = g (listOf us'.toArray k') ∧ IntsAre us' ns' ∧ (∀ y ∈ ns', 0 ≤ y) ∧ ns'.length ≤ 16) := by
  obtain ⟨pre, post, e1, e2, e3, e4⟩ := U.split
  subst e1
  intro dp un gd cn cs a ccd cl outer A₀ base h₀ L m s Q E B F X N T hk hd hu hret
  refine use_spec (draw_core (rest := pre ++ post) (d := d) (us := us) (k := k) hi hnn hlen hm hmb fun q hq => (List.mem_append.mp hq).elim (e3 q) (e4 q)) B F X ?_ T hk hd hu fun r n h' tk' P F' N' => ?_
  · intro q hq
    refine N q ?_
    rcases List.mem_cons.mp hq with rfl | hq
    · exact List.mem_append.mpr (.inr (.head _))
    · exact (List.mem_append.mp hq).elim (fun h => List.mem_append.mpr (.inl h)) fun h => List.mem_append.mpr (.inr (.tail _ h))
  · obtain ⟨x, t', us', ns', k', rfl, h0, h1, rfl, hi', hn', hl'⟩ := P
    refine hret _ _ _ _ ⟨x, t', us', ns', k', rfl, h0, h1, rfl, hi', hn', hl'⟩ F' ?_
    rw [e2]
    intro q hq
    refine N' q ?_
    rcases List.mem_append.mp hq with h | h
    · exact .tail _ (List.mem_append.mpr (.inl h))
    · rcases List.mem_cons.mp h with rfl | h
      · exact .head _
      · exact .tail _ (List.mem_append.mpr (.inr h))
end Mine
end
local macro_rules | `(tactic| walk_at "call ref") => `(tactic| (k_here; (with_reducible show wpAny _ _ (call (Value.ref 139) _) _ _ _); k_dflt (refine' Mine.use_spec (Mine.draw_spec ?U ?I ?n ?l ?P0 ?P1) ?k1 ?k2 ?k3 ?k4 ?k5 ?kK ?kd ?ku ?_; (case k1 => k_asm); (case k2 => k_asm); (case k3 => k_asm); (case k4 => k_asm); (case k5 => k_asm); (case U => k_updF); (case I => assumption); (case n => assumption); (case l => assumption); (case P0 => (first | omega | l_fact)); (case P1 => (first | omega | l_fact)); (case kK => first | exact rfl | assumption); (case kd => ktr_room); (case ku => ktr_units); k_whole; intro r9 n9 h9 tk9 P9 F9 N9; obtain ⟨x9, t9, us9, ns9, k9, e9, lo9, hi9, e9', ia9, nn9, ln9⟩ := P9; subst e9; subst e9'; (try dsimp only); (try k_fold))))
local macro_rules | `(tactic| walk_at "subscriptTail Name Constant ref int") => `(tactic| ((rename (decide (_ = ([] : List Int)) = false) => hd9); (have hP9 := Mine.pos_of_ne hd9); clear hd9; walk_at "subscriptTail Name Constant ref int"))
section
namespace Mine
/-- _law_deck upon the script -/
def DeckSpec (w : World) (p : Program) (loose : List Str) (mean : ExcName → Option Value) (mg mb : Str → Option Value) (l : PySem.Addr) (vs : List Value) (a1 a2 : PySem.Addr) (o1 o2 : PySem.Obj) : Prop :=
  ∀ (dp un : Nat) (gd : Option (List Code)) (cn : Str) (cs : Scope) (a : PySem.Addr) (ccd : Value) (cl : List (Str × PySem.Addr)) (outer : List Env) (A₀ : Around) (base h₀ : Heap) (L : PySem.Addr) (m : Str → Option Value) (s : Shared) (Q E : Value → Shared → Prop),
    Below A₀ base outer h₀ → Fr h₀ L s.heap m → (hd.heap_39 w.params).In h₀ → News h₀ L s.heap [(a1, o1), (a2, o2)] → Top p loose mean mg mb h₀ → cs.kind = .function → base.IsList l vs.toArray →
    dp + 3 < recursionLimit → un + 8 * 3 + 100 < cLine →
    (∀ (d : PySem.Addr) (us' : List Value) (ns' : List Int) (k' : Nat) (h' : Heap) (tk' : Nat), (@Ne Nat a1 d ∧ @Ne Nat a2 d) → IntsAre us' ns' → (∀ y ∈ ns', 0 ≤ y) → ns'.length ≤ 16 → Fr h₀ L h' m → News h₀ L h' [(d, listOf us'.toArray k'), (a1, o1), (a2, o2)] → Q (.ref d) { s with heap := h', toks := tk' }) →
    wpAny (model PySem.Challenge.rw_pq0343_01.row.prog w) (ktrTop dp un gd cn cs L a ccd cl outer) (call (.ref 132) [.ref l]) Q E s
theorem deck_ret {h₀ h' : Heap} {L d x1 a1 a2 : PySem.Addr} {m : Str → Option Value} {ox o1 o2 : PySem.Obj} {ys : List Value} {zs : List Int} {s : Shared} {tk : Nat} {Q : Value → Shared → Prop}
  (hret : ∀ (d : PySem.Addr) (us' : List Value) (ns' : List Int) (k' : Nat) (h' : Heap) (tk' : Nat), (@Ne Nat a1 d ∧ @Ne Nat a2 d) → IntsAre us' ns' → (∀ y ∈ ns', 0 ≤ y) → ns'.length ≤ 16 → Fr h₀ L h' m → News h₀ L h' [(d, listOf us'.toArray k'), (a1, o1), (a2, o2)] → Q (.ref d) { s with heap := h', toks := tk' })
  (F : Fr h₀ L h' m) (N : News h₀ L h' [(d, LCg.lst ys), (x1, ox), (a1, o1), (a2, o2)]) (o : x1 ≠ d ∧ a1 ≠ d ∧ a2 ≠ d) (hi : IntsAre ys zs) (hn : ∀ y ∈ zs, 0 ≤ y) (hl : zs.length ≤ 16) : Q (.ref d) { s with heap := h', toks := tk } := by
  refine hret d ys zs ys.length h' tk o.2 hi hn hl F (cb_drop N ?_)
  intro q hq
  rcases List.mem_cons.mp hq with rfl | hq
  · exact .head _
  · exact .tail _ (.tail _ hq)
theorem deck_spec {w : World} {p : Program} {loose : List Str} {mean : ExcName → Option Value} {mg mb : Str → Option Value} {a1 a2 : PySem.Addr} {o1 o2 : PySem.Obj} {l : PySem.Addr} {vs : List Value} {ns : List Int}
  (hi : IntsAre vs ns) (hlen : ns.length ≤ 63) : DeckSpec w p loose mean mg mb l vs a1 a2 o1 o2 := by
  unfold DeckSpec
  k_fill
  k_with_none
  intro dp un gd cn cs a ccd cl outer A₀ base h₀ L m s Q E B F X N T hk hl hd hu hret
  refine wpAny_call ?_
  k_dflt cell_enter
  k_steps
  refine deck_ret hret (by k_asm) (by k_asm) (by assumption) (by assumption) ?_ ?_
  · intro y hy
    obtain ⟨x, _, rfl⟩ := List.mem_map.mp hy
    exact fmod_lo _ (by decide)
  · rw [List.length_map, List.length_take]; omega
end Mine
end
local macro_rules | `(tactic| walk_at "call ref") => `(tactic| (k_here; (with_reducible show wpAny _ _ (call (Value.ref 132) _) _ _ _); k_dflt (refine' Mine.deck_spec ?hi ?hl _ _ _ _ _ _ _ _ _ _ _ _ _ _ _ _ _ ?k1 ?k2 ?k3 ?k4 ?k5 ?kK ?kB ?kd ?ku ?_; (case k1 => k_asm); (case k2 => k_asm); (case k3 => k_asm); (case k4 => k_asm); (case k5 => k_asm); (case kK => first | exact rfl | assumption); (case kB => k_asm); (case hi => assumption); (case hl => l_fact); (case kd => ktr_room); (case ku => ktr_units); k_whole; intro d9 us9 ns9 k9 h9 tk9 ne9 hi9 nn9 hl9 F9 N9; (try dsimp only); (try k_fold))))
section
namespace Mine
section
variable {prog : Program} {w : World} {A : Around} {h₀ : Heap} {L : PySem.Addr} {m : Str → Option Value} {env : Env} {elt : Expr} {x : Str} {scope : Scope} {cl : List (Str × PySem.Addr)} {s : Shared} {S : Led → Prop} {P : Nat → Value → Prop} {Fin : List Value → Led → Prop} {news : Led} {g : PySem.Obj → Led} {d : PySem.Addr} {us : List Value} {ns : List Int} {k : Nat}
theorem UpdF.now {o : PySem.Obj} (U : UpdF d o news g) : news = g o := by
  obtain ⟨pre, post, e1, e2, _, _⟩ := U.split
  rw [e1, e2]
/-- a turn of the comprehension that draws: an int comes, the deck is another one -/
def PTurn (g : PySem.Obj → Led) (y : Value) (news' : Led) : Prop := ∃ (c : Int) (t : Tok) (us' : List Value) (ns' : List Int) (k' : Nat), y = .int c t ∧ (∀ q ∈ g (listOf us'.toArray k'), q ∈ news') ∧ IntsAre us' ns' ∧ (∀ z ∈ ns', 0 ≤ z) ∧ ns'.length ≤ 16
theorem codes_rest {n : Nat} (hSall : ∀ l, S l) (U : UpdF d (listOf us.toArray k) news g) (hi : IntsAre us ns) (hn : ∀ z ∈ ns, 0 ≤ z) (hl : ns.length ≤ 16)
    (turn : ∀ us' ns' k' v I oI C oC D m₂ ys h tk (E' : Value → Shared → Prop), IntsAre us' ns' → (∀ z ∈ ns', 0 ≤ z) → ns'.length ≤ 16 → LCg.NsObj oC m₂ → m₂ x = some v → Fr h₀ L h m → News h₀ L h ((I, oI) :: (C, oC) :: (D, LCg.lst ys) :: g (listOf us'.toArray k')) → LCg.Off3 I C D (g (listOf us'.toArray k')) → ((@Ne Nat I C) ∧ (@Ne Nat I D) ∧ (@Ne Nat C D)) →
      wpAny (model prog w) A (eval elt (compEnvC scope cl C env)) (LCg.CompEnd h₀ L m { s with heap := h, toks := tk } I oI C oC D (LCg.lst ys) S (PTurn g)) E' { s with heap := h, toks := tk })
    (fin : ∀ ys cs us' ns' k', IntsAre ys cs → cs.length = n → IntsAre us' ns' → (∀ z ∈ ns', 0 ≤ z) → ns'.length ≤ 16 → Fin ys (g (listOf us'.toArray k'))) :
    LCg.CompRest prog w A h₀ L m env elt x scope cl s S P Fin n 0 [] news := by
  have key : ∀ (j i : Nat) (ys : List Value) (cs : List Int) (us' : List Value) (ns' : List Int) (k' : Nat), i + j = n → cs.length = i → IntsAre ys cs → IntsAre us' ns' → (∀ z ∈ ns', 0 ≤ z) → ns'.length ≤ 16 →
      LCg.CompRest prog w A h₀ L m env elt x scope cl s S P Fin j i ys (g (listOf us'.toArray k')) := by
    intro j
    induction j with
    | zero => intro i ys cs us' ns' k' e1 e2 hy h1 h2 h3; exact LCg.CompRest.zero (fin ys cs us' ns' k' hy (by omega) h1 h2 h3)
    | succ j ih =>
      intro i ys cs us' ns' k' e1 e2 hy h1 h2 h3
      refine LCg.CompRest.succ ?_
      intro v I oI C oC D m₂ h tk E' _ hC hx F N off ne
      refine wpAny_mono (turn us' ns' k' v I oI C oC D m₂ ys h tk E' h1 h2 h3 hC hx F N off ne) (fun y s₂ hq => ?_) fun _ _ e => e
      obtain ⟨h', tk', nw, e, F', N', off', hS, c, t, us'', ns'', k'', rfl, sub, q1, q2, q3⟩ := hq
      have om := off'.mem
      refine ⟨h', tk', g (listOf us''.toArray k''), e, F', fun q hq => N' q ?_, LCg.Off3.of fun q hq => om q (sub q hq), hSall _, ih (i + 1) _ (cs ++ [c]) us'' ns'' k'' (by omega) (by rw [List.length_append, List.length_singleton, e2]) (IntsAre.append hy (.cons c t .nil)) q1 q2 q3⟩
      rcases List.mem_cons.mp hq with rfl | hq
      · exact .head _
      · rcases List.mem_cons.mp hq with rfl | hq
        · exact .tail _ (.head _)
        · rcases List.mem_cons.mp hq with rfl | hq
          · exact .tail _ (.tail _ (.head _))
          · exact .tail _ (.tail _ (.tail _ (sub q hq)))
  rw [UpdF.now U]
  exact key n 0 [] [] us ns k (by omega) rfl .nil hi hn hl
theorem compEnd_same {h' : Heap} {I C D : PySem.Addr} {oI oC oD : PySem.Obj} {s₁ : Shared} {tk : Nat} {rest : Value → Led → Prop} {y : Value} (F : Fr h₀ L h' m) (N : News h₀ L h' ((I, oI) :: (C, oC) :: (D, oD) :: news)) (off : LCg.Off3 I C D news) (hS : S news) (r : rest y news) :
    LCg.CompEnd h₀ L m s₁ I oI C oC D oD S rest y { s₁ with heap := h', toks := tk } := ⟨h', tk, news, rfl, F, N, off, hS, r⟩
end
end Mine
end
local macro_rules | `(tactic| walk_at "CompEnd") => `(tactic| (refine' Mine.compEnd_same ?F ?N ?o ?S ?_; (case F => k_asm); (case N => k_asm); (case o => (first | assumption | (simp only [LCg.Off3, and_true]; assumption))); (case S => (first | trivial | lcg_src))))
section
namespace Mine
/-- the line beginnings behind the newlines from spot on -/
def hits (cs : List Int) (spot : Int) : List Int := (rangeKs 0 ((cs.length : Int) - 0).toNat).foldl (fun l k => if cs.getD k.toNat 0 = 10 ∧ spot ≤ k then l ++ [k + 1] else if cs.getD k.toNat 0 = 10 ∧ ¬ spot ≤ k then l else l) []
def afterV (cs : List Int) (spot : Int) : Int := if (hits cs spot).length = 0 then (cs.length : Int) else (hits cs spot).getD 0 0
theorem after_none {cs : List Int} {spot : Int} (h : decide (hits cs spot = []) = true) : (cs.length : Int) = afterV cs spot := by
  unfold afterV; rw [if_pos (by rw [of_decide_eq_true h]; rfl)]
theorem after_some {cs : List Int} {spot : Int} (h : 0 < (hits cs spot).length) : (hits cs spot).getD (Int.toNat 0) 0 = afterV cs spot := by
  unfold afterV; rw [if_neg (by omega)]; rfl
theorem after_spec {w : World} {p : Program} {loose : List Str} {mean : ExcName → Option Value} {mg mb : Str → Option Value} {news : Led} {c : PySem.Addr} {us : List Value} {k : Nat} {codes : List Int} {spot : Int} {t : Tok}
  (mC : (c, listOf us.toArray k) ∈ news) (hi : IntsAre us codes) (hl : codes.length ≤ 40) : Spec 3 w p loose mean mg mb 144 [.ref c, .int spot t] news (PInt news (afterV codes spot)) := by
  unfold Spec
  k_fill
  k_with_none
  intro dp un gd cn cs a ccd cl outer A₀ base h₀ L m s Q E B F X N T hk hd hu hret
  refine wpAny_call ?_
  k_dflt (refine' code_defC ?k1 ?k2 ?k3 ?k4 ?k5 ?kA ?kF ?kK ?k6 ?k7 ?k8 ?k9 ?kB ?kD ?_ ?c2 ?c3 ?c4; (case kA => exact rfl); (case kF => exact rfl); (case kK => assumption); (case k1 => k_asm); (case k2 => k_asm); (case k3 => k_asm); (case k4 => k_asm); (case k5 => k_asm); (case k6 => k_is); (case k7 => k_is); (case k8 => k_room); (case k9 => exact BindsTo.of_eq rfl); (case kB => exact rfl); (case kD => decide +kernel); (case c2 => exact rfl); (case c3 => exact rfl); (case c4 => exact rfl); k_whole)
  intro g' L' h' tk' cells' FG' F' N' Y' B' X' T' l1
  k_cells Y'
  (try simp only [List.cons_append, List.nil_append] at N')
  (try dsimp only)
  (try k_fold)
  k_steps
  · exact ret_int hret (by k_asm) (cb_drop (by k_asm) fun _ h => .tail _ (.tail _ (.tail _ (.tail _ h)))) (after_none (by assumption))
  · exact ret_int hret (by k_asm) (cb_drop (by k_asm) fun _ h => .tail _ (.tail _ (.tail _ (.tail _ h)))) (after_some (by assumption))
end Mine
end
local macro_rules | `(tactic| walk_at "call ref") => `(tactic| (k_here; (with_reducible show wpAny _ _ (call (Value.ref 144) _) _ _ _); k_dflt (refine' Mine.use_int (Mine.after_spec ?m ?vi ?vl) ?k1 ?k2 ?k3 ?k4 ?k5 ?kK ?kd ?ku ?_; (case k1 => k_asm); (case k2 => k_asm); (case k3 => k_asm); (case k4 => k_asm); (case k5 => k_asm); (case m => k_mem); (case vi => assumption); (case vl => (first | omega | l_fact)); (case kK => first | exact rfl | assumption); (case kd => ktr_room); (case ku => ktr_units); k_whole; intro t9 h9 tk9 F9 N9; (try dsimp only); (try k_fold))))
section
namespace Mine
section
variable {prog : Program} {w : World} {A : Around} {E : Value → Shared → Prop} {s : Shared} {env : Env} {h₀ : Heap} {x : Str} {body : List Stmt} {Q : Flow → Shared → Prop} {news : Led} {g : PySem.Obj → Led} {d : PySem.Addr} {us : List Value} {ns : List Int} {k : Nat} {m₀ : Str → Option Value}
/-- the end of a turn of the law's loop: the deck is another one, the rest stands -/
def LoopEnd (h₀ : Heap) (L : PySem.Addr) (g : PySem.Obj → Led) (own : Led) (x : Str) (stored : List Str) (m₀ : Str → Option Value) (s₁ : Shared) (Q : Flow → Shared → Prop) (f : Flow) (s₂ : Shared) : Prop :=
  match f with
  | .ret v => Q (.ret v) s₂
  | .brk => Q .next s₂
  | _ => ∃ (us' : List Value) (ns' : List Int) (k' : Nat) (h' : Heap) (tk : Nat) (m' : Str → Option Value) (news' : Led), s₂ = { s₁ with heap := h', toks := tk } ∧ Fr h₀ L h' m' ∧ News h₀ L h' news' ∧ (∀ p ∈ g (listOf us'.toArray k'), p ∈ news') ∧ (∀ p ∈ own, p ∈ news') ∧
      (∀ z, z ≠ x → stored.contains z = false → m' z = m₀ z) ∧ IntsAre us' ns' ∧ (∀ z ∈ ns', 0 ≤ z) ∧ ns'.length ≤ 16
theorem loopEnd {L : PySem.Addr} {own : Led} {stored : List Str} {s₁ : Shared} {us' : List Value} {ns' : List Int} {k' : Nat} {h' : Heap} {tk : Nat} {m' : Str → Option Value} {news' : Led} (F : Fr h₀ L h' m') (N : News h₀ L h' news') (hi : IntsAre us' ns') (hn : ∀ z ∈ ns', 0 ≤ z) (hl : ns'.length ≤ 16)
    (hg : ∀ p ∈ g (listOf us'.toArray k'), p ∈ news') (ho : ∀ p ∈ own, p ∈ news') (hm : ∀ z, z ≠ x → stored.contains z = false → m' z = m₀ z) : LoopEnd h₀ L g own x stored m₀ s₁ Q .next { s₁ with heap := h', toks := tk } :=
  ⟨us', ns', k', h', tk, m', news', rfl, F, N, hg, ho, hm, hi, hn, hl⟩
theorem UpdF.adr {o o' : PySem.Obj} (U : UpdF d o news g) : (g o').map (·.1) = news.map (·.1) := by
  obtain ⟨pre, post, e1, e2, _, _⟩ := U.split
  rw [e1, e2]
  simp
theorem loop3 {r : PySem.Addr} {t₀ u₀ v₀ : Tok} (stored : List Str) (_hd : (d, listOf us.toArray k) ∈ news) (U : UpdF d (listOf us.toArray k) news g) (hi : IntsAre us ns) (hn : ∀ z ∈ ns, 0 ≤ z) (hl : ns.length ≤ 16)
    (hh : A.handled = none) (hr : IsRange s.heap r 0 3 1 t₀ u₀ v₀) (F : Fr h₀ env.locals s.heap m₀) (N : News h₀ env.locals s.heap news)
    (turn : ∀ us' ns' k' lap t (u : Str → Option Value) h tk own, IntsAre us' ns' → (∀ z ∈ ns', 0 ≤ z) → ns'.length ≤ 16 → OwnOff own (news.map (·.1)) →
      Fr h₀ env.locals h (fun y => if y = x then some (.int lap t) else if stored.contains y then u y else m₀ y) → News h₀ env.locals h (g (listOf us'.toArray k') ++ own) →
      wpAny (model prog w) A (execs body env) (LoopEnd h₀ env.locals g own x stored m₀ { s with heap := h, toks := tk } Q) E { s with heap := h, toks := tk })
    (done : ∀ us' ns' k' (u : Str → Option Value) h tk, IntsAre us' ns' → Fr h₀ env.locals h (fun y => if y = x then u y else if stored.contains y then u y else m₀ y) → News h₀ env.locals h (g (listOf us'.toArray k')) → Q .next { s with heap := h, toks := tk }) :
    wpAny (model prog w) A (pyIter (.ref r)) (fun it s₂ => LoopAtV prog w A h₀ env x body Q E it s₂) E s := by
  have e0 := UpdF.now U
  refine kst_range (σ := List Value × List Int × Nat) (n := 3) (fun c => g (listOf c.1.toArray c.2.2)) (fun _ => []) (fun c => IntsAre c.1 c.2.1 ∧ (∀ z ∈ c.2.1, 0 ≤ z) ∧ c.2.1.length ≤ 16) stored (fun _ _ => True) (us, ns, k) hh hr (by decide) (by decide) F (by rw [← e0]; exact N) ⟨hi, hn, hl⟩ (fun _ hp => nomatch hp) trivial ?_ ?_
  · rintro ⟨us', ns', k'⟩ pre lap t u h tk own _ _ hoff ⟨q1, q2, q3⟩ _ F' N'
    refine wpAny_mono (turn us' ns' k' lap t u h tk own q1 q2 q3 (by rw [← UpdF.adr U]; exact hoff) F' N') (fun f s₂ hf => ?_) fun _ _ e => e
    have fin : (∃ (us' : List Value) (ns' : List Int) (k' : Nat) (h' : Heap) (tk' : Nat) (m' : Str → Option Value) (news' : Led), s₂ = { s with heap := h', toks := tk' } ∧ Fr h₀ env.locals h' m' ∧ News h₀ env.locals h' news' ∧ (∀ p ∈ g (listOf us'.toArray k'), p ∈ news') ∧ (∀ p ∈ own, p ∈ news') ∧
        (∀ z, z ≠ x → stored.contains z = false → m' z = m₀ z) ∧ IntsAre us' ns' ∧ (∀ z ∈ ns', 0 ≤ z) ∧ ns'.length ≤ 16) →
        InvEndN h₀ env.locals (KstS (σ := List Value × List Int × Nat) (fun c => g (listOf c.1.toArray c.2.2)) (fun _ => []) (fun c => IntsAre c.1 c.2.1 ∧ (∀ z ∈ c.2.1, 0 ≤ z) ∧ c.2.1.length ≤ 16) x stored m₀ (fun _ _ => True) (pre ++ [lap])) own ((g (listOf us.toArray k)).map (·.1)) { s with heap := h, toks := tk } s₂ := by
      rintro ⟨us'', ns'', k'', h', tk', m', news', rfl, F₁, N₁, hg, ho, hm, i1, i2, i3⟩
      exact kst_end (us'', ns'', k'') F₁ N₁ hg ho (by rw [UpdF.adr U, UpdF.adr U]) ⟨i1, i2, i3⟩ (fun _ hp => nomatch hp) (fun z h1 _ h3 => hm z h1 h3) trivial
    cases f with
    | ret v => exact hf
    | brk => exact hf
    | next => exact fin hf
    | cont => exact fin hf
  · rintro ⟨us', ns', k'⟩ u h tk ⟨q1, _, _⟩ _ F' N'
    exact done us' ns' k' u h tk q1 F' N'
end
section
variable {prog : Program} {w : World} {A : Around} {E : Value → Shared → Prop} {s : Shared} {env : Env} {h₀ : Heap} {L : PySem.Addr} {m : Str → Option Value} {news : Led}
/-- two statements that store one name and leave the ledger as it was, then the rest: the paths through the two meet -/
theorem cut_two {x1 x2 : Stmt} {rest : List Stmt} {Q : Flow → Shared → Prop} (z : Str) (_F : Fr h₀ L s.heap m) (_N : News h₀ L s.heap news)
    (h1 : wpAny (model prog w) A (exec x1 env) (fun f s' => match f with | .next => wpAny (model prog w) A (exec x2 env) (fun f s'' => f = .next ∧ ∃ h' tk v, s'' = { s with heap := h', toks := tk } ∧ Fr h₀ L h' (fun y => if y = z then some v else m y) ∧ News h₀ L h' news) E s' | _ => False) E s)
    (h2 : ∀ h' tk v, Fr h₀ L h' (fun y => if y = z then some v else m y) → News h₀ L h' news → wpAny (model prog w) A (execs rest env) Q E { s with heap := h', toks := tk }) :
    wpAny (model prog w) A (execs (x1 :: x2 :: rest) env) Q E s := by
  refine wpAny_execs_cons (wpAny_mono h1 (fun f s' hf => ?_) fun _ _ e => e)
  cases f <;> first | exact hf.elim | skip
  refine wpAny_execs_cons (wpAny_mono hf (fun f s'' hg => ?_) fun _ _ e => e)
  obtain ⟨rfl, h', tk, v, rfl, F', N'⟩ := hg
  exact h2 h' tk v F' N'
theorem cut_end {s₀ : Shared} {z : Str} {v : Value} {h' : Heap} {tk : Nat} {news' : Led} (F' : Fr h₀ L h' (fun y => if y = z then some v else m y)) (N' : News h₀ L h' news') (hs : ∀ q ∈ news, q ∈ news') :
    Flow.next = Flow.next ∧ ∃ h'' tk' v', ({ s₀ with heap := h', toks := tk } : Shared) = { s₀ with heap := h'', toks := tk' } ∧ Fr h₀ L h'' (fun y => if y = z then some v' else m y) ∧ News h₀ L h'' news :=
  ⟨rfl, h', tk, v, rfl, F', fun q hq => N' q (hs q hq)⟩
end
end Mine
end
section
namespace Mine
theorem chars_spec2 {w : World} {p : Program} {loose : List Str} {mean : ExcName → Option Value} {mg mb : Str → Option Value} {news : Led} {x : PySem.Addr} {codes : List Int} {first place many : Int} {t tm : Tok} {S : Str}
  (hV : View news x codes first) (hS : edge (max first (min (first + codes.length) (place + many))) (place + many) = S) : Spec 5 w p loose mean mg mb 56 [.ref x, .int place t, .int many tm] news (PTup news (max first (min (first + codes.length) (place + many))) (fun v => ∃ t, v = .str S t)) := by
  subst hS
  exact chars_spec hV
end Mine
end
local macro_rules | `(tactic| walk_at "call ref") => `(tactic| (k_here; (with_reducible show wpAny _ _ (call (Value.ref 56) _) _ _ _); k_dflt (refine' Mine.use_spec (Mine.chars_spec2 ?V ?S) ?k1 ?k2 ?k3 ?k4 ?k5 ?kK ?kd ?ku ?_; (case k1 => k_asm); (case k2 => k_asm); (case k3 => k_asm); (case k4 => k_asm); (case k5 => k_asm); (case V => (first | assumption | (refine' Mine.View.of ?m1 ?m2 ?m3 ?vi ?vl ?vf ?vg; (case m1 => k_mem); (case m2 => k_mem); (case m3 => k_mem); (case vi => l_ints); (case vl => (first | omega | l_fact)); (case vf => (first | omega | l_fact)); (case vg => (first | omega | l_fact))))); (case S => (first | exact Mine.edge_end (by omega) | exact Mine.edge_begin (by omega) | exact Mine.edge_none (by omega) (by omega))); (case kK => first | exact rfl | assumption); (case kd => ktr_room); (case ku => ktr_units); k_whole; intro r9 n9 h9 tk9 P9 F9 N9; obtain ⟨a9, t9, v9, e9, e9', la9, t9', e9''⟩ := P9; subst e9; subst e9'; subst e9''; (try k_lt la9); (try dsimp only); (try k_fold))))
section
namespace Mine
theorem rangeKs_zero (a : Int) : rangeKs a 0 = [] := rfl
theorem rangeKs_cons (a : Int) (n : Nat) : rangeKs a (n + 1) = a :: rangeKs (a + 1) n := by
  unfold rangeKs
  rw [List.range_succ_eq_map, List.map_cons, List.map_map]
  congr 1
  · simp
  · apply List.map_congr_left
    intro i _
    simp only [Function.comp_apply, Nat.succ_eq_add_one, Int.natCast_add]
    omega
/-- line beginnings: what a loop that keeps some places gives -/
theorem foldl_keep (P : Int → Prop) [DecidablePred P] (ks : List Int) : ∀ acc : List Int, ks.foldl (fun l k => if P k then l ++ [k + 1] else l) acc = acc ++ (ks.filter (fun k => decide (P k))).map (· + 1) := by
  induction ks with
  | nil => intro acc; simp
  | cons k r ih =>
    intro acc
    rw [List.foldl_cons, ih]
    by_cases h : P k
    · simp [h]
    · simp [h]
/-- the line beginnings behind the newlines at a, a + 1 .. -/
def begins (cs : List Int) (a : Nat) (n : Nat) : List Int := ((rangeKs (a : Int) n).filter (fun k => decide (cs.getD k.toNat 0 = 10))).map (· + 1)
theorem getD_at {cs : List Int} {i : Nat} (h : i < cs.length) : cs.getD ((i : Nat) : Int).toNat 0 = cs[i] := by
  simp [List.getD, h]
theorem begins_eq (cs : List Int) : ∀ (n a : Nat), a + n = cs.length →
    begins cs a n = if nl cs a < cs.length then ((nl cs a + 1 : Nat) : Int) :: begins cs (nl cs a + 1) (cs.length - (nl cs a + 1)) else [] := by
  intro n
  induction n with
  | zero =>
    intro a ha
    rw [nl_end (by omega), if_neg (by omega)]
    rfl
  | succ n ih =>
    intro a ha
    have hlt : a < cs.length := by omega
    have step : begins cs a (n + 1) = if cs[a] = 10 then ((a + 1 : Nat) : Int) :: begins cs (a + 1) n else begins cs (a + 1) n := by
      unfold begins
      rw [rangeKs_cons, List.filter_cons, getD_at hlt]
      by_cases h : cs[a] = 10
      · simp [h]
      · simp [h]
    rw [step]
    by_cases h : cs[a] = 10
    · rw [if_pos h, nl_hit hlt h, if_pos hlt]
      have e : cs.length - (a + 1) = n := by omega
      rw [e]
    · rw [if_neg h, nl_miss hlt h]
      exact ih (a + 1) (by omega)
theorem go_begins (cs : List Int) : ∀ (k a n : Nat), a + n = cs.length → ((go cs (k + 1) a : Nat) : Int) = if k < (begins cs a n).length then (begins cs a n).getD k 0 else (cs.length : Int) := by
  intro k
  induction k with
  | zero =>
    intro a n ha
    rw [begins_eq cs n a ha, go]
    by_cases h : nl cs a < cs.length
    · rw [if_pos h, if_pos h, go]
      simp
    · rw [if_neg h, if_neg h]
      simp
  | succ k ih =>
    intro a n ha
    rw [begins_eq cs n a ha, go]
    by_cases h : nl cs a < cs.length
    · rw [if_pos h, if_pos h, ih (nl cs a + 1) (cs.length - (nl cs a + 1)) (by omega)]
      simp
    · rw [if_neg h, if_neg h]
      simp
theorem hits_begins {cs : List Int} {spot : Nat} (h : spot ≤ cs.length) : hits cs (spot : Int) = begins cs spot (cs.length - spot) := by
  have e1 : hits cs (spot : Int) = ((rangeKs 0 cs.length).filter (fun k => decide (cs.getD k.toNat 0 = 10 ∧ (spot : Int) ≤ k))).map (· + 1) := by
    unfold hits
    rw [show ((cs.length : Int) - 0).toNat = cs.length from by omega]
    have := foldl_keep (fun k => cs.getD k.toNat 0 = 10 ∧ (spot : Int) ≤ k) (rangeKs 0 cs.length) []
    rw [List.nil_append] at this
    rw [← this]
    congr 1
    funext l k
    by_cases h1 : cs.getD k.toNat 0 = 10 ∧ (spot : Int) ≤ k
    · rw [if_pos h1, if_pos h1]
    · rw [if_neg h1, if_neg h1]; split <;> rfl
  rw [e1]
  unfold begins
  congr 1
  have key : ∀ (n a : Nat), a ≤ spot → a + n = cs.length → (rangeKs (a : Int) n).filter (fun k => decide (cs.getD k.toNat 0 = 10 ∧ (spot : Int) ≤ k)) = (rangeKs (spot : Int) (cs.length - spot)).filter (fun k => decide (cs.getD k.toNat 0 = 10)) := by
    intro n
    induction n with
    | zero =>
      intro a h1 h2
      have : cs.length - spot = 0 := by omega
      rw [this]; rfl
    | succ n ih =>
      intro a h1 h2
      by_cases h3 : a = spot
      · subst h3
        have e : cs.length - a = n + 1 := by omega
        rw [e]
        apply List.filter_congr
        intro k hk
        have := (mem_rangeKs hk).1
        simp [this]
      · rw [rangeKs_cons, List.filter_cons, if_neg (by simp only [decide_eq_true_eq]; omega)]
        have := ih (a + 1) (by omega) (by omega)
        rw [show ((a + 1 : Nat) : Int) = (a : Int) + 1 from by omega] at this
        exact this
  have := key cs.length 0 (by omega) (by omega)
  exact this
theorem after_go {cs : List Int} {spot : Nat} (h : spot ≤ cs.length) : afterV cs (spot : Int) = ((go cs 1 spot : Nat) : Int) := by
  unfold afterV
  rw [hits_begins h, go_begins cs 0 spot (cs.length - spot) (by omega)]
  by_cases h0 : (begins cs spot (cs.length - spot)).length = 0
  · rw [if_pos h0, if_neg (by omega)]
  · rw [if_neg h0, if_pos (by omega)]
theorem after_of {cs : List Int} {E : Int} {i : Nat} (e : E = (i : Int)) (h : i ≤ cs.length) : ((go cs 1 i : Nat) : Int) = afterV cs E := by
  rw [e, after_go h]
theorem begin_after {cs : List Int} {first tenths : Int} (h0 : 0 ≤ tenths) :
    first + ((go cs 1 (min cs.length ((10 + (cs.length : Int) * tenths) / 10).toNat) : Nat) : Int) = first + afterV cs (if (10 + (cs.length : Int) * tenths).fdiv 10 < (cs.length : Int) then (10 + (cs.length : Int) * tenths).fdiv 10 else (cs.length : Int)) := by
  congr 1
  have h : 0 ≤ (cs.length : Int) * tenths := Int.mul_nonneg (by omega) h0
  rw [Int.fdiv_eq_ediv_of_nonneg _ (by omega)]
  generalize (cs.length : Int) * tenths = q at h
  refine after_of ?_ (by omega)
  split <;> omega
theorem end_after {cs : List Int} {first tenths : Int} (h0 : 0 ≤ tenths) (h1 : tenths ≤ 10) :
    first + ((go cs 1 ((cs.length : Int) - tenths * (cs.length : Int) / 10).toNat : Nat) : Int) = first + afterV cs ((cs.length : Int) - (tenths * (cs.length : Int)).fdiv 10) := by
  congr 1
  have h : 0 ≤ tenths * (cs.length : Int) := Int.mul_nonneg h0 (by omega)
  have h' : tenths * (cs.length : Int) ≤ 10 * (cs.length : Int) := Int.mul_le_mul_of_nonneg_right h1 (by omega)
  rw [Int.fdiv_eq_ediv_of_nonneg _ (by omega)]
  generalize tenths * (cs.length : Int) = q at h h'
  exact after_of (by omega) (by omega)
theorem number_lists (cs : List Int) : (rangeKs 0 ((cs.length : Int) - 0).toNat).foldl (fun (l : List Int) (k : Int) => if cs.getD k.toNat 0 = 10 then l ++ [k + 1] else l) [] = begins cs 0 cs.length := by
  rw [show ((cs.length : Int) - 0).toNat = cs.length from by omega, foldl_keep (fun k => cs.getD k.toNat 0 = 10)]
  rfl
theorem number_all {cs : List Int} {number : Int} : ((go cs (number - 1).toNat 0 : Nat) : Int) = if (number - 1).toNat < 1 + (begins cs 0 cs.length).length then ([0] ++ begins cs 0 cs.length).getD (number - 1).toNat 0 else (cs.length : Int) := by
  cases h : (number - 1).toNat with
  | zero => rw [if_pos (by omega)]; rfl
  | succ j =>
    rw [go_begins cs j 0 cs.length (by omega)]
    by_cases h1 : j < (begins cs 0 cs.length).length
    · rw [if_pos h1, if_pos (by omega)]
      simp
    · rw [if_neg h1, if_neg (by omega)]
theorem number_in {cs : List Int} {number first : Int} (h : (if number - 1 > 0 then number - 1 else 0) < ((1 + ((rangeKs 0 ((cs.length : Int) - 0).toNat).foldl (fun (l : List Int) (k : Int) => if cs.getD k.toNat 0 = 10 then l ++ [k + 1] else l) []).length : Nat) : Int)) :
    first + ((go cs (number - 1).toNat 0 : Nat) : Int) = first + ([0] ++ (rangeKs 0 ((cs.length : Int) - 0).toNat).foldl (fun (l : List Int) (k : Int) => if cs.getD k.toNat 0 = 10 then l ++ [k + 1] else l) []).getD (if number - 1 > 0 then number - 1 else 0).toNat 0 := by
  rw [number_lists] at h ⊢
  rw [(number_eq (number := number) (first := first)).1, number_all]
  have e := (number_eq (number := number) (first := first)).1
  rw [if_pos (by omega)]
theorem number_out {cs : List Int} {number first : Int} (h : ¬ (if number - 1 > 0 then number - 1 else 0) < ((1 + ((rangeKs 0 ((cs.length : Int) - 0).toNat).foldl (fun (l : List Int) (k : Int) => if cs.getD k.toNat 0 = 10 then l ++ [k + 1] else l) []).length : Nat) : Int)) :
    first + ((go cs (number - 1).toNat 0 : Nat) : Int) = first + (cs.length : Int) := by
  rw [number_lists] at h
  have e := (number_eq (number := number) (first := first)).1
  rw [number_all, if_neg (by omega)]
end Mine
end
section
local macro_rules | `(tactic| walk_at "eval ListComp") => `(tactic| (k_dflt (k_here; (with_reducible show wpAny _ _ (eval (Expr.ListComp _ [⟨_, _, [_], _⟩] _ _) _) _ _ _); k_dflt (refine LCt.ListComp_T (F₀ := by k_asm) (by with_unfolding_all rfl) (by decide) (by rfl) (by decide) (by rfl) ?_))))
local macro_rules | `(tactic| walk_at "CompSrcT") => `(tactic| (k_dflt (k_here; k_dflt (refine' LCt.CompSrcT.range ?q1 ?q2 ?q3 ?q4 ?q5 ?q6 ?q7 ?_; (case q1 => rfl); (case q2 => k_asm); (case q3 => k_asm); (case q4 => assumption); (case q5 => exact small_one (by omega) (by omega) (by omega) (by omega)); (case q6 => exact rangeSize_nat _ _); (case q7 => (rw [PySem.sizeLine_eq]; omega)); intro g'; (refine' kci_range _ (fun k' t' I' oI' C' oC' D' m' ys' l' h' tk' E' hlo' hhi' hI' hC' hx' F' N' off' ne' => ?_) ?_ ?_); (all_goals (try (simp only [LCg.Off3, and_true] at off'))); (all_goals (try ((show KPfMark → _); intro hMark'))); kcf_last))))
local macro_rules | `(tactic| walk_at "execs cons") => `(tactic| (k_dflt ((with_reducible show wpAny _ _ (execs (Stmt.Assign _ (Expr.Tuple _ _ _) _ :: Stmt.If _ _ _ _ :: _) _) _ _ _); (refine' Mine.cut_two (Str.ofString "due") ?F ?N ?h1 ?h2); (case F => k_asm); (case N => k_asm); (case' h2 => (intro h9 tk9 v9 F9 N9; (try k_fold))))))
local macro_rules | `(tactic| walk_at "And") => `(tactic| (k_dflt ((refine' Mine.cut_end ?F ?N ?s); (case F => k_asm); (case N => k_asm); (case s => kcf_all))))
local macro_rules | `(tactic| walk_at "LoopEnd") => `(tactic| (k_dflt ((refine' Mine.loopEnd ?F ?N ?i ?n ?l ?g ?o ?m); (case F => k_asm); (case N => k_asm); (case n => assumption); (case i => assumption); (case l => assumption); (case g => kcf_all); (case o => kcf_all); (case m => (intro z h1 h2; (have h3 := h2); (simp only [List.contains_cons, List.contains_nil, Bool.or_false, Bool.or_eq_false_iff, beq_eq_false_iff_ne, ne_eq] at h3); (simp only [h1, h2, h3, if_false, Bool.false_eq_true]))))))
local macro_rules | `(tactic| walk_at "exec Return some") => `(tactic| (k_dflt ((with_reducible show wpAny _ _ (exec (Stmt.Return (some (Expr.Constant (Const.bool false) _ _)) _) _) _ _ _); exfalso; first
  | (refine' absurd (Mine.begin_after ?t0) ?h; (case h => assumption); (case t0 => omega))
  | (refine' absurd (Mine.end_after ?t0 ?t1) ?h; (case h => assumption); (case t0 => omega); (case t1 => omega))
  | (refine' absurd (Mine.number_in ?t0) ?h; (case h => assumption); (case t0 => assumption))
  | (refine' absurd (Mine.number_out ?t0) ?h; (case h => assumption); (case t0 => assumption))
  | omega
  | walk_say "FALSE LEFT")))
local macro_rules | `(tactic| walk_at "exec For Name Call cons nil") => `(tactic| (k_dflt (k_here; (rename Fr _ _ _ _ => lF'); (with_unfolding_all refine' For_invVF lF' ?k1 ?k2 ?_; (case k1 => exact rfl); (case k2 => exact rfl); k_whole))))
local macro_rules | `(tactic| walk_at "pyIter ref") => `(tactic| (k_dflt (k_here; k_dflt (refine' Mine.loop3 [Str.ofString "spot", Str.ofString "many", Str.ofString "goal", Str.ofString "due", Str.ofString "tenths", Str.ofString "ahead", Str.ofString "number", Str.ofString "starts"] ?D ?U ?I ?n ?l ?hh ?hr ?F ?N ?turn ?done); (case N => k_asm); (case n => assumption); (case I => assumption); (case D => k_mem); (case U => k_updF); (case l => assumption); (case hh => rfl); (case hr => assumption); (case F => k_asm); (case' turn => (intro us2 ns2 k2 lap t u h tk own hI2 hn2 hl2 hoff F2 N2; (simp only [List.cons_append, List.nil_append] at N2); (try k_fold))); (case' done => (intro us2 ns2 k2 u h tk hI2 F2 N2; (try k_fold))))))
local macro_rules | `(tactic| walk_at "CompSrc") => `(tactic| (k_dflt (k_here; (with_reducible show LCg.CompSrc _ _ _ _ _ _ _ (Expr.Subscript (Expr.List _ _) _ _) _ _ _ _ _ _); k_dflt (refine' LCg.CompSrc.range ?q1 ?q2 ?q3 ?q4 ?q5 ?q6 ?q7 ?_); (case q1 => rfl); (case q2 => k_asm); (case q3 => k_asm); (case q4 => assumption); (case q5 => exact small_one (by omega) (by omega) (by omega) (by omega)); (case q6 => exact rangeSize_nat _ _); (case q7 => (rw [PySem.sizeLine_eq]; omega)); intro g'; (refine' Mine.codes_rest (fun _ => trivial) ?U ?I ?n ?l ?turn ?fin); (case U => k_updF); (case I => assumption); (case n => assumption); (case l => assumption); (case' turn => (intro us' ns' k' v I oI C oC D m₂ ys h tk E' hI nn ln hC hx F' N' off' ne'; (simp only [LCg.Off3, and_true] at off'); (try k_fold))); (case' fin => (intro ys cs us' ns' k' hy hc hI nn ln)))))
local macro_rules | `(tactic| walk_at "PTurn") => `(tactic| (k_dflt ((refine' ⟨_, _, _, _, _, rfl, ?sub, ?ia, ?nn, ?ln⟩); (case ia => assumption); (case sub => lcg_sub); (case nn => assumption); (case ln => assumption))))
theorem PySem.Challenge.cw_pq0343_01_holds : PySem.Challenge.rw_pq0343_01.Holds := by
  refine Mine.hd ?_
  k_with_none
  k_go0
  (try (rename CellsAre _ _ _ => x0; clear x0))
  (try (rename Dflts _ _ _ _ _ _ => x0; clear x0))
  (try (rename BMod _ _ _ _ _ => x0; clear x0))
  (try (rename TopW _ _ _ => x0; clear x0))
  (try (rename TopE _ _ _ _ => x0; clear x0))
  (try (rename Tables _ _ _ _ => x0; clear x0))
  (try (rename Glob _ _ _ _ _ _ _ _ => x0; clear x0))
  (try (rename LooseAre _ _ _ => x0; clear x0))
  (try (rename Flt.MathXP _ _ _ => x0; clear x0))
  (try (rename Heap.CodeRec _ _ _ => x0; clear x0))
  (try (rename Ground _ _ _ _ _ _ _ _ _ => x0; clear x0))
  all_goals try k_fold
  k_steps
end
