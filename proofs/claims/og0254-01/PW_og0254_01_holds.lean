import PyProof.Rows.All
import Wide.All
import OpenK.AllK
import Wide.FinOn
import PySem.Challenge.RW_og0254_01
open PySem PySem.W PyProof.Rows
set_option Elab.async false
namespace Mine
open PySem.Builtin (bitAnd bitOr)

-- top
-- the view: the law's own def alone
noncomputable def vw : Program := { PySem.Challenge.pw_og0254_01 with main := { PySem.Challenge.pw_og0254_01.main with body := PySem.Challenge.pw_og0254_01.main.body.drop 55 } }
noncomputable def lo : List Str := [Str.ofString "ESCAPE", Str.ofString "decimal_octets", Str.ofString "number_of", Str.ofString "MOUSE_MODES", Str.ofString "MOUSE_ENCODINGS", Str.ofString "FIRST_ON", Str.ofString "modes_group", Str.ofString "Modes", Str.ofString "mouse_mode", Str.ofString "mouse_encoding", Str.ofString "MOUSE_MODIFIERS", Str.ofString "NO_BUTTON", Str.ofString "FIRST_WHEEL", Str.ofString "LAST_WHEEL", Str.ofString "LAST_BUTTON", Str.ofString "CODE_NONE", Str.ofString "CODE_MODIFIERS", Str.ofString "CODE_MOVE", Str.ofString "CODE_WHEEL", Str.ofString "CODE_OTHERS", Str.ofString "OCTET_ADDED", Str.ofString "OCTET_MOST", Str.ofString "UTF8_MOST", Str.ofString "UTF8_TWO", Str.ofString "MOUSE_HEAD", Str.ofString "MOUSE_SGR_HEAD", Str.ofString "MouseEvent", Str.ofString "same_event", Str.ofString "mouse_is_wheel", Str.ofString "mouse_number", Str.ofString "mouse_button", Str.ofString "mouse_is_told", Str.ofString "mouse_code_octets", Str.ofString "mouse_plain_octets", Str.ofString "mouse_decimals", Str.ofString "mouse_octets", Str.ofString "mouse_event_of", Str.ofString "mouse_code_at", Str.ofString "mouse_read_plain", Str.ofString "mouse_decimals_at", Str.ofString "read_mouse", Str.ofString "mouse_is_begun", Str.ofString "mouse_are_decimals", Str.ofString "read_focus", Str.ofString "_law_parts", Str.ofString "_law_event", Str.ofString "_law_told", Str.ofString "_law_listed", Str.ofString "_law_row_right", Str.ofString "_law_none_right", Str.ofString "_law_likes_right"]
theorem head_of (H : Hook) {d : DefRec} {kwd : List (PySem.Str × PySem.Expr)}
    (k1 : PySem.Challenge.rw_og0254_01.row.wellSaid = true)
    (hdef : defOf vw PySem.Challenge.rw_og0254_01.row.name = some (d, kwd)) (hp : PySem.Challenge.rw_og0254_01.row.prog.theDef PySem.Challenge.rw_og0254_01.row.name = some (d.params, d.body, d.scope)) (hk : kwWritten? d.params.kwonlyargs d.params.kw_defaults = some kwd)
    (left : LeftO PySem.Challenge.rw_og0254_01.row.prog vw lo (fun s => xlAt vw [] s && recOk (RowW.records PySem.Challenge.rw_og0254_01.row.toRowW) s) H.obs H.val 1800)
    (hw : PySem.Challenge.rw_og0254_01.row.toRowW.promised)
    (call : WalkO vw lo (XL vw []) H.says PySem.Challenge.rw_og0254_01.row.toRowW d kwd fun f vs => PySem.call f vs) : PySem.Challenge.rw_og0254_01.row.Holds :=
  holds_open left H.of H.keeps (fun s e => xl_of s (Bool.and_eq_true_iff.mp e).1) XL.keeps hdef hp hk (fun s e => recFacts_of (Bool.and_eq_true_iff.mp e).2) (by rfl) k1 (by decide +kernel) ⟨rfl, rfl, rfl, rfl, rfl, by decide +kernel⟩ hw call
set_option maxRecDepth 100000 in
set_option maxHeartbeats 0 in
theorem law_said : PySem.Challenge.rw_og0254_01.wellSaid = true := by
  delta OpenLaw.wellSaid
  repeat' first | with_reducible refine look_both ?_ ?_ | (delta OpenRow.wellSaid; with_reducible refine look_both ?_ ?_) | (delta OpenRow.partSaid; with_reducible refine look_both ?_ ?_) | (delta looksOpen; with_reducible refine look_both ?_ ?_)
  all_goals decide +kernel
theorem own_top : True := by
  k_with "o_law" => refine holds_law law_said fun said => ?_
  k_with "o_head" => ((case hl => (intro w; kernel_rfl)); (case hk => assumption))
  trivial
local macro_rules | `(tactic| o_head $H:term) => `(tactic| (refine head_of $H ?hk (by rfl) (by rfl) (by rfl) ?hl ?hw ?hc; k_extra "o_head"))
local macro_rules | `(tactic| k_qdec) => `(tactic| decide +kernel)
local macro_rules | `(tactic| o_law) => `(tactic| k_extra "o_law")
set_option maxRecDepth 100000 in
set_option maxHeartbeats 0 in
open_top hd for PySem.Challenge.rw_og0254_01


-- H
noncomputable abbrev P0 : Program := PySem.Challenge.rw_og0254_01.row.prog

-- what a call of the def at f asks and gives: the ledger of the caller, its values, what comes back over a longer ledger
noncomputable def Con (w : World) (need : Nat) (f : Addr) (vs : List Value) (news : List (Addr × Obj)) (R : Value → List (Addr × Obj) → Prop) : Prop :=
  ∀ (p : Program) (loose : List Str) (mean : ExcName → Option Value) (mg mb : Str → Option Value) (dp un : Nat) (gd : Option (List Code)) (cn : Str) (cs : Scope) (a : Addr) (ccd : Value) (cl : List (Str × Addr)) (outer : List Env) (A₀ : Around) (base h₀ : Heap) (L : Addr) (m : Str → Option Value) (s : Shared)
    (Q E : Value → Shared → Prop),
    Below A₀ base outer h₀ → Fr h₀ L s.heap m → (hd.heap_1 w.params).In h₀ → News h₀ L s.heap news → Top p loose mean mg mb h₀ → cs.kind = .function → dp + need < recursionLimit → un + 8 * need < cLine →
    (∀ r tl h' tk', Fr h₀ L h' m → News h₀ L h' (tl ++ news) → R r tl → Q r { s with heap := h', toks := tk' }) →
    wpAny (model P0 w) (ktrTop dp un gd cn cs L a ccd cl outer) (call (.ref f) vs) Q E s

noncomputable def Only (v : Value → Prop) (r : Value) (tl : List (Addr × Obj)) : Prop := tl = [] ∧ v r
theorem cb_drop {h₀ h : Heap} {L : Addr} {news news' : List (Addr × Obj)} (N : News h₀ L h news') (hs : ∀ p ∈ news, p ∈ news') : News h₀ L h news := fun p hp => N p (hs p hp)


theorem fill_start {P : Prop} (h : P ∨ (False ∧ (∀ w h, (hd.heap_1 w).In h) ∧ PySem.Challenge.rw_og0254_01.Holds)) : P := h.elim id fun h => h.1.elim

theorem Con.use {w : World} {need : Nat} {f : Addr} {vs : List Value} {news : List (Addr × Obj)} {R : Value → List (Addr × Obj) → Prop} (C : Con w need f vs news R)
    {p : Program} {loose : List Str} {mean : ExcName → Option Value} {mg mb : Str → Option Value} {dp un : Nat} {gd : Option (List Code)} {cn : Str} {cs : Scope} {a : Addr} {ccd : Value} {cl : List (Str × Addr)} {outer : List Env} {A₀ : Around} {base h₀ : Heap} {L : Addr} {m : Str → Option Value} {s : Shared}
    {Q E : Value → Shared → Prop}
    (B : Below A₀ base outer h₀) (F : Fr h₀ L s.heap m) (X : (hd.heap_1 w.params).In h₀) (N : News h₀ L s.heap news) (T : Top p loose mean mg mb h₀) (hk : cs.kind = .function) (hd : dp + need < recursionLimit) (hu : un + 8 * need < cLine)
    (ret : ∀ r tl h' tk', Fr h₀ L h' m → News h₀ L h' (tl ++ news) → R r tl → Q r { s with heap := h', toks := tk' }) :
    wpAny (model P0 w) (ktrTop dp un gd cn cs L a ccd cl outer) (call (.ref f) vs) Q E s := C p loose mean mg mb dp un gd cn cs a ccd cl outer A₀ base h₀ L m s Q E B F X N T hk hd hu ret

theorem filled_all : True := by
  refine fill_start ?_
  k_fill
  exact Or.inl trivial
local macro_rules | `(tactic| walk_at $s:str) => `(tactic| k_extra $s)
local macro_rules | `(tactic| walk1) => `(tactic| k_extra "walk1")
local macro_rules | `(tactic| kba_ints2) => `(tactic| k_extra "kba_ints2")
local macro_rules | `(tactic| ktr_room) => `(tactic| k_extra "ktr_room")
local macro_rules | `(tactic| ktr_units) => `(tactic| k_extra "ktr_units")
local macro_rules | `(tactic| walk_at "call ref") => `(tactic| k_extra "con")
local macro_rules | `(tactic| walk_at "exec While") => `(tactic| k_extra "exec While BoolOp cons nil")
local macro_rules | `(tactic| cell_enter) => `(tactic| k_extra "cell_enter")
local macro_rules | `(tactic| units_room) => `(tactic| k_extra "units_room")
local macro_rules | `(tactic| k_all) => `(tactic| k_extra "k_all")

-- R
section
open PySem.Calls
open PySem.Builtin
set_option maxRecDepth 100000

-- ### bytes.startswith
section
variable {b c : Array UInt8} {t u : Tok}
noncomputable def fitsB (b c : Array UInt8) : Bool := if (b.size : Int) < c.size then false else b.extract 0 c.size == c
theorem starts_raw : «bytes.startswith» ⟨[.bytes b t, .bytes c u], []⟩ = ret (.bool (if (Bytes.window b.size none none).2 - (Bytes.window b.size none none).1 < (c.size : Int) then false else b.extract (Bytes.window b.size none none).1.toNat ((Bytes.window b.size none none).1.toNat + c.size) == c)) := by kernel_rfl
theorem starts_eq : «bytes.startswith» ⟨[.bytes b t, .bytes c u], []⟩ = ret (.bool (fitsB b c)) := by
  have w1 : (Bytes.window b.size none none).1 = 0 := by simp [Bytes.window]
  have w2 : (Bytes.window b.size none none).2 = b.size := by simp only [Bytes.window, Option.getD_none]; omega
  rw [starts_raw, w1, w2, Int.sub_zero, Int.toNat_zero, Nat.zero_add]
  rfl
theorem meets_starts : Meets («bytes.startswith» ⟨[.bytes b t, .bytes c u], []⟩) (fun _ R s => R (.ok (.ret (.bool (fitsB b c)))) s) := by
  refine .of_wp fun prog w A R s hS => ?_
  rw [starts_eq]
  exact wpAny_pure ⟨_, rfl, hS⟩
theorem call_starts {prog : Program} {w : World} {A : Around} {E : Value → Shared → Prop} {s : Shared} {Q : Value → Shared → Prop} (h : Q (.bool (fitsB b c)) s) :
    wpAny (model prog w) A (call (.builtin "bytes.startswith") [.bytes b t, .bytes c u]) Q E s :=
  call_meets FB.slot_bytes_startswith (typeIs_bytes _ _ _) FB.entry_bytes_startswith (FB.args_bytes_startswith_2 _ _) meets_starts h
theorem meth_starts {M : Model} {A : Around} {E : Value → Shared → Prop} {s : Shared} {pl : Sem Bool} {Q : Value × List Value → Shared → Prop} (h : Q (.builtin "bytes.startswith", [.bytes b t]) s) : wpAny M A (getMethod (.bytes b t) "startswith" pl) Q E s := by
  with_reducible exact KBd.method_of (.bytes b t) (typeIs_bytes _ _ _) FB.slot_bytes_startswith FB.type_bytes_startswith KBd.noRef h
end

-- ### bytes.split by one octet
theorem owner_bytes' : True := trivial
theorem slot_split : Slot "bytes" "split" "bytes.split" :=
  .of (owner := "bytes") (n := "split") (by rw [typeLookup_type, builtinLookup_eq_fast]; kernel_rfl) (by decide +kernel) (by decide +kernel) (by decide +kernel)
    (by first | exact .inl (by decide +kernel) | exact .inr (by decide +kernel)) (by rw [isSubtype_type]; kernel_rfl)
theorem type_split : typeOf (.builtin "bytes.split") = pure (.type "method_descriptor") := by show builtinType _ = _; rw [builtinType_eq_fast]; kernel_rfl
theorem entry_split : entryFor table "bytes.split" = some Builtin.«bytes.split» := entryFor_of_tree (by kernel_rfl)
theorem args_split (a b : Value) : argsOk "bytes.split" ⟨[a, b], []⟩ := by
  unfold argsOk; kernel_rfl
theorem slot_join : Slot "bytes" "join" "bytes.join" :=
  .of (owner := "bytes") (n := "join") (by rw [typeLookup_type, builtinLookup_eq_fast]; kernel_rfl) (by decide +kernel) (by decide +kernel) (by decide +kernel)
    (by first | exact .inl (by decide +kernel) | exact .inr (by decide +kernel)) (by rw [isSubtype_type]; kernel_rfl)
theorem type_join : typeOf (.builtin "bytes.join") = pure (.type "method_descriptor") := by show builtinType _ = _; rw [builtinType_eq_fast]; kernel_rfl
theorem entry_join : entryFor table "bytes.join" = some Builtin.«bytes.join» := entryFor_of_tree (by kernel_rfl)
theorem args_join (a b : Value) : argsOk "bytes.join" ⟨[a, b], []⟩ := by
  unfold argsOk; kernel_rfl

section
variable {prog : Program} {w : World} {A : Around} {E : Value → Shared → Prop} {s : Shared} {h₀ : Heap} {L : Addr} {m : PySem.Str → Option Value} {news : List (Addr × Obj)} {Q : Value → Shared → Prop} {b c : Array UInt8} {t u : Tok}
noncomputable def bvals : Nat → List (Array UInt8) → List Value
  | _, [] => []
  | k, p :: r => .bytes p k :: bvals (k + 1) r
theorem bvals_len : ∀ (k : Nat) (l : List (Array UInt8)), (bvals k l).length = l.length
  | _, [] => rfl
  | k, _ :: r => congrArg (· + 1) (bvals_len (k + 1) r)
theorem mapM_new : ∀ (parts : List (Array UInt8)) (s : Shared) {Q : List Value → Shared → Prop}, (∀ p ∈ parts, p.size ≤ sizeLine) → (∀ k, Q (bvals s.toks parts) { s with toks := k }) →
    wpAny (model prog w) A (parts.mapM (Bytes.Kind.new .bytes)) Q E s
  | [], s, Q, _, h => by rw [List.mapM_nil]; exact wpAny_pure (h s.toks)
  | p :: r, s, Q, hp, h => by
    rw [List.mapM_cons]
    refine wpAny_bind (m := Bytes.Kind.new .bytes p) ?_
    show wpAny _ _ (mkBytes p) _ _ _
    refine wpAny_mkBytes ?_ (hp p (.head _))
    refine wpAny_bind (mapM_new r _ (fun q hq => hp q (.tail _ hq)) fun k => ?_)
    exact wpAny_pure (h k)
noncomputable def partsB (b c : Array UInt8) : List (Array UInt8) := Bytes.between b c.size ((Bytes.occurrences b c 0 b.size).take (b.size + 1))
theorem split_eq : «bytes.split» ⟨[.bytes b t, .bytes #[59] u], []⟩ = (if ((Bytes.occurrences b #[59] 0 b.size).take (b.size + 1)).isEmpty = true then (do rule "bytes.split.no-separator"; ret (← newList [← Bytes.Kind.same .bytes (.bytes b t)])) else (do ret (← newList (← (partsB b #[59]).mapM (Bytes.Kind.new .bytes))))) := by kernel_rfl
theorem call_split {parts : List (Array UInt8)} (F : Fr h₀ L s.heap m) (N : News h₀ L s.heap news) (e : partsB b #[59] = parts) (hp : ∀ p ∈ parts, p.size ≤ sizeLine) (hn : parts.length ≤ sizeLine)
    (h : ∀ D k0 h' k, Fr h₀ L h' m → News h₀ L h' ((D, listOf (bvals k0 parts).toArray 0) :: news) → (∀ p ∈ news, p.1 < D) → Q (.ref D) { s with heap := h', toks := k }) :
    wpAny (model prog w) A (call (.builtin "bytes.split") [.bytes b t, .bytes #[59] u]) Q E s := by
  refine call_meets (S := fun A R s' => s' = s ∧ R = wants Q E) slot_split (typeIs_bytes _ _ _) entry_split (args_split _ _) (.of_wp fun prog w A R s' hS => ?_) ⟨rfl, rfl⟩
  obtain ⟨rfl, rfl⟩ := hS
  rw [split_eq]
  by_cases hz : ((Bytes.occurrences b #[59] 0 b.size).take (b.size + 1)).isEmpty = true
  · rw [if_pos hz]
    have e0 : parts = [b] := by
      rw [← e, partsB, List.isEmpty_iff.mp hz]
      simp [Bytes.between]
    subst e0
    refine wpAny_bind (wpAny_rule ?_)
    refine wpAny_bind (m := Bytes.Kind.same .bytes (.bytes b t)) (wpAny_of_eq (a := Value.bytes b t) rfl ?_)
    refine wpAny_bind (newList_N F N (fun h' F' N' => ?_) (by rw [sizeLine_eq]; show 1 ≤ 16777216; decide))
    exact wpAny_pure ⟨_, rfl, h _ t _ _ F' N' fun p hp => Heap.lt_size (N p hp).1⟩
  · rw [if_neg hz]
    rw [e]
    refine wpAny_bind (mapM_new parts _ hp fun k => ?_)
    refine wpAny_bind (newList_N (s := ⟨_, _, _, _, _⟩) F N (fun h' F' N' => ?_) (by rw [bvals_len]; exact hn))
    exact wpAny_pure ⟨_, rfl, h _ _ _ _ F' N' fun p hp => Heap.lt_size (N p hp).1⟩
theorem meth_split {M : Model} {pl : Sem Bool} {Q : Value × List Value → Shared → Prop} (h : Q (.builtin "bytes.split", [.bytes b t]) s) : wpAny M A (getMethod (.bytes b t) "split" pl) Q E s := by
  with_reducible exact KBd.method_of (.bytes b t) (typeIs_bytes _ _ _) slot_split type_split KBd.noRef h
theorem meth_join {M : Model} {pl : Sem Bool} {Q : Value × List Value → Shared → Prop} (h : Q (.builtin "bytes.join", [.bytes b t]) s) : wpAny M A (getMethod (.bytes b t) "join" pl) Q E s := by
  with_reducible exact KBd.method_of (.bytes b t) (typeIs_bytes _ _ _) slot_join type_join KBd.noRef h
end


-- the parts, octet by octet
noncomputable def splitL : List UInt8 → List (List UInt8)
  | [] => [[]]
  | c :: r => if c = 59 then [] :: splitL r else match splitL r with | [] => [[c]] | p :: ps => (c :: p) :: ps
theorem splitL_ne : ∀ l : List UInt8, splitL l ≠ []
  | [] => by simp [splitL]
  | c :: r => by
    unfold splitL
    split
    · simp
    · split <;> simp
theorem splitL_snoc (c : UInt8) : ∀ (l : List UInt8) (i : List (List UInt8)) (p : List UInt8), splitL l = i ++ [p] → splitL (l ++ [c]) = if c = 59 then i ++ [p] ++ [[]] else i ++ [p ++ [c]]
  | [], i, p, e => by
    have hi : i = [] ∧ p = [] := by
      cases i with
      | nil => simp [splitL] at e; exact ⟨rfl, e⟩
      | cons x y => simp [splitL] at e
    obtain ⟨rfl, rfl⟩ := hi
    by_cases h : c = 59 <;> simp [splitL, h]
  | a :: r, i, p, e => by
    have hr := splitL_ne r
    obtain ⟨i', p', e'⟩ : ∃ i' p', splitL r = i' ++ [p'] := ⟨(splitL r).dropLast, (splitL r).getLast hr, (List.dropLast_concat_getLast hr).symm⟩
    have ih := splitL_snoc c r i' p' e'
    rw [List.cons_append]
    by_cases ha : a = 59
    · have e1 : splitL (a :: r) = [] :: splitL r := by rw [splitL, if_pos ha]
      rw [e1, e'] at e
      have : i = [] :: i' ∧ p = p' := by
        have := List.append_inj' (s₁ := [] :: i') (t₁ := [p']) (s₂ := i) (t₂ := [p]) (by simpa using e) rfl
        exact ⟨this.1.symm, by simpa using this.2.symm⟩
      obtain ⟨rfl, rfl⟩ := this
      rw [splitL, if_pos ha, ih]
      split <;> simp
    · cases i' with
      | nil =>
        have e1 : splitL (a :: r) = [a :: p'] := by rw [splitL, if_neg ha, e']; rfl
        rw [e1] at e
        have : i = [] ∧ p = a :: p' := by
          have := List.append_inj' (s₁ := []) (t₁ := [a :: p']) (s₂ := i) (t₂ := [p]) (by simpa using e) rfl
          exact ⟨this.1.symm, by simpa using this.2.symm⟩
        obtain ⟨rfl, rfl⟩ := this
        rw [splitL, if_neg ha, ih]
        by_cases hc : c = 59 <;> simp [hc]
      | cons q i'' =>
        have e1 : splitL (a :: r) = ((a :: q) :: i'') ++ [p'] := by rw [splitL, if_neg ha, e']; rfl
        rw [e1] at e
        have := List.append_inj' e rfl
        obtain ⟨h1, h2⟩ := this
        subst h1
        have h2 : p' = p := by simpa using h2
        subst h2
        rw [splitL, if_neg ha, ih]
        by_cases hc : c = 59 <;> simp [hc]
theorem extract_one (b : Array UInt8) (i : Nat) : (b.extract i (i + 1) == #[59]) = (b[i]? == some 59) := by
  apply Bool.eq_iff_iff.mpr
  rw [beq_iff_eq, beq_iff_eq]
  by_cases h : i < b.size
  · rw [Array.getElem?_eq_getElem h]
    have : b.extract i (i + 1) = #[b[i]] := by
      apply Array.ext
      · simp; omega
      · intro j h1 h2
        have : j = 0 := by simp at h2; omega
        subst this
        simp
    rw [this]
    simp
  · rw [Array.getElem?_eq_none (by omega)]
    constructor
    · intro e
      have := congrArg Array.size e
      simp at this
      omega
    · intro e; cases e
theorem occ_fold (b : Array UInt8) : ∀ n : Nat, ∃ k, k ≤ n ∧ (((List.range n).map (· + 0)).foldl (fun (acc : List Nat × Nat) i => if i ≥ acc.2 && b.extract i (i + 1) == #[59] then (i :: acc.1, i + 1) else acc) ([], 0)) = (((List.range n).filter fun i => b[i]? == some 59).reverse, k)
  | 0 => ⟨0, Nat.le_refl _, rfl⟩
  | n + 1 => by
    obtain ⟨k, hk, e⟩ := occ_fold b n
    simp only [List.range_succ, List.map_append, List.map_cons, List.map_nil, List.foldl_append, List.foldl_cons, List.foldl_nil, Nat.add_zero, List.filter_append, List.filter_cons, List.filter_nil]
    simp only [Nat.add_zero] at e
    rw [e]
    rw [extract_one]
    by_cases h : (b[n]? == some 59) = true
    · rw [h]
      refine ⟨n + 1, Nat.le_refl _, ?_⟩
      simp [hk]
    · rw [Bool.not_eq_true] at h
      rw [h]
      exact ⟨k, by omega, by simp⟩
theorem occ_eq (b : Array UInt8) : Bytes.occurrences b #[59] 0 b.size = (List.range b.size).filter fun i => b[i]? == some 59 := by
  unfold Bytes.occurrences
  have e : b.size + 1 - (0 + (#[59] : Array UInt8).size) = b.size := by show b.size + 1 - (0 + 1) = b.size; omega
  rw [e]
  obtain ⟨k, _, h⟩ := occ_fold b b.size
  have h1 : (#[59] : Array UInt8).size = 1 := rfl
  simp only [h1]
  simp only [Nat.add_zero] at h ⊢
  rw [h]
  simp
theorem btw_fold (b : Array UInt8) : ∀ n : Nat, n ≤ b.size → ∃ (ps : Array (Array UInt8)) (last : Nat), last ≤ n ∧ (((List.range n).filter fun i => b[i]? == some 59).foldl (fun (x : Array (Array UInt8) × Nat) p => (x.1.push (b.extract x.2 p), p + 1)) (#[], 0)) = (ps, last) ∧
    splitL (b.toList.take n) = ps.toList.map Array.toList ++ [(b.toList.take n).drop last]
  | 0, _ => ⟨#[], 0, Nat.le_refl _, rfl, by simp [splitL]⟩
  | n + 1, h => by
    obtain ⟨ps, last, hl, e, hs⟩ := btw_fold b n (by omega)
    have hn : n < b.size := by omega
    have ht : b.toList.take (n + 1) = b.toList.take n ++ [b[n]] := by
      rw [List.take_add_one]
      simp [hn]
    have hlen : (b.toList.take n).length = n := by simp; omega
    rw [List.range_succ, List.filter_append, List.foldl_append, e, ht, splitL_snoc _ _ _ _ hs]
    have hd : (b.toList.take n ++ [b[n]]).drop last = (b.toList.take n).drop last ++ [b[n]] := by
      rw [List.drop_append_of_le_length (by omega)]
    by_cases h59 : b[n] = 59
    · refine ⟨ps.push (b.extract last n), n + 1, Nat.le_refl _, ?_, ?_⟩
      · simp [List.filter_cons, hn, h59]
      · rw [if_pos h59]
        have : (b.toList.take n ++ [b[n]]).drop (n + 1) = [] := by
          apply List.drop_eq_nil_of_le
          simp; omega
        rw [this]
        have h2 : (b.extract last n).toList = (b.toList.take n).drop last := by
          rw [Array.toList_extract, List.extract_eq_take_drop, List.drop_take]
        rw [Array.toList_push, List.map_append, List.map_cons, List.map_nil, h2]
    · refine ⟨ps, last, by omega, ?_, ?_⟩
      · simp [List.filter_cons, hn, h59]
      · rw [if_neg h59, hd]
theorem parts_eq (b : Array UInt8) : (partsB b #[59]).map Array.toList = splitL b.toList := by
  unfold partsB
  rw [occ_eq]
  have hl : ((List.range b.size).filter fun i => b[i]? == some 59).length ≤ b.size + 1 := by
    have := List.length_filter_le (fun i => b[i]? == some 59) (List.range b.size)
    rw [List.length_range] at this
    omega
  rw [List.take_of_length_le hl]
  unfold Bytes.between
  obtain ⟨ps, last, h1, h2, h3⟩ := btw_fold b b.size (Nat.le_refl _)
  have h4 : (#[59] : Array UInt8).size = 1 := rfl
  rw [h4]
  have h5 : b.toList.take b.size = b.toList := List.take_of_length_le (by simp)
  rw [h5] at h3
  rw [h3]
  have h6 : List.foldl (fun (x : Array (Array UInt8) × Nat) p => match x with | (parts, last) => (parts.push (b.extract last p), p + 1)) ((#[] : Array (Array UInt8)), 0) ((List.range b.size).filter fun i => b[i]? == some 59) = (ps, last) := h2
  have h7 : (ps.push (b.extract last b.size)).toList.map Array.toList = ps.toList.map Array.toList ++ [b.toList.drop last] := by
    rw [Array.toList_push, List.map_append, List.map_cons, List.map_nil, Array.toList_extract, List.extract_eq_take_drop, ← List.drop_take, h5]
  rw [← h7]
  show (Array.toList (Array.push (List.foldl (fun (x : Array (Array UInt8) × Nat) p => match x with | (parts, last) => (parts.push (b.extract last p), p + 1)) ((#[] : Array (Array UInt8)), 0) ((List.range b.size).filter fun i => b[i]? == some 59)).1 (b.extract (List.foldl (fun (x : Array (Array UInt8) × Nat) p => match x with | (parts, last) => (parts.push (b.extract last p), p + 1)) ((#[] : Array (Array UInt8)), 0) ((List.range b.size).filter fun i => b[i]? == some 59)).2 b.size))).map Array.toList = _
  rw [h6]

-- ### bytes.join of three
section
variable {prog : Program} {w : World} {A : Around} {E : Value → Shared → Prop} {s : Shared} {h₀ : Heap} {L : Addr} {m : PySem.Str → Option Value} {news : List (Addr × Obj)} {Q : Value → Shared → Prop} {b x y z : Array UInt8} {t u v r : Tok} {l : Addr}
theorem take_eq {id : String} : Bytes.takeBufferQuiet? id (.bytes b t) 0 = pure (some (b, none)) := by kernel_rfl

end

end


-- J
section
open PySem.Calls
open PySem.Builtin
set_option maxRecDepth 100000
section
variable {prog : Program} {w : World} {A : Around} {E : Value → Shared → Prop} {s : Shared} {h₀ : Heap} {L : Addr} {m : PySem.Str → Option Value} {news : List (Addr × Obj)} {Q : Value → Shared → Prop} {b x y z : Array UInt8} {t u v r : Tok} {l : Addr}
theorem forIn_step {α β : Type} {M : Model} {f : α → β → Sem (ForInStep β)} {a : α} {as : List α} {b : β} {Q : β → Shared → Prop} (h : wpAny M A (f a b) (fun r s' => ∃ b', r = .yield b' ∧ wpAny M A (forIn as b' f) Q E s') E s) : wpAny M A (forIn (a :: as) b f) Q E s := by
  rw [List.forIn_cons]
  refine wpAny_bind (wpAny_mono h (fun r s' hr => ?_) fun _ _ e => e)
  obtain ⟨b', rfl, h'⟩ := hr
  exact h'
theorem forIn_end {α β : Type} {M : Model} {f : α → β → Sem (ForInStep β)} {b : β} {Q : β → Shared → Prop} (h : Q b s) : wpAny M A (forIn ([] : List α) b f) Q E s := by
  rw [List.forIn_nil]
  exact wpAny_pure h
theorem join_run (hl : s.heap.IsList l #[.bytes x t, .bytes y u, .bytes z v]) (hz : x.size + y.size + z.size + 2 * b.size ≤ 16777216) {Q : Fin → Shared → Prop} (h : ∀ k t', Q (.done (.ret (.bytes (Bytes.joined b [x, y, z]) t'))) { s with toks := k }) :
    wpAny (model prog w) A (Builtin.«bytes.join» ⟨[.bytes b r, .ref l], []⟩) Q E s := by
  unfold «bytes.join» Bytes.joinM
  have e1 : ∀ id, selfAndOne id ⟨[.bytes b r, .ref l], []⟩ = pure (.bytes b r, .ref l) := fun id => rfl
  obtain ⟨o, ho, hc, n, hd⟩ := id hl
  refine wpAny_bind (wpAny_of_eq (e1 _) ?_)
  refine wpAny_ite ?_
  rw [if_pos (by decide +kernel)]
  refine wpAny_bind (wpAny_bind (wpAny_typeOf hl.typeIs ?_))
  refine wpAny_ite ?_
  rw [if_pos (by decide +kernel)]
  refine wpAny_pure ?_
  refine wpAny_bind (wpAny_seqItems ho hd ?_)
  refine wpAny_ite ?_
  rw [if_pos (by decide +kernel)]
  refine wpAny_bind (?_ : wpAny _ _ (forIn [:(3 : Nat)] _ _) _ _ _)
  rw [Std.Legacy.Range.forIn_eq_forIn_range']
  show wpAny _ _ (forIn [0, 1, 2] _ _) _ _ _
  iterate 3
    refine forIn_step ?_
    refine wpAny_bind (wpAny_seqItems ho hd ?_)
    refine wpAny_ite (KBy.ite_no Bool.false_ne_true ?_)
    refine wpAny_bind (wpAny_holding (wpAny_of_eq (take_eq) ?_))
    refine wpAny_bind (wpAny_seqItems ho hd ?_)
    refine wpAny_ite (KBy.ite_no Bool.false_ne_true ?_)
    refine wpAny_pure ⟨_, rfl, ?_⟩
  refine forIn_end ?_
  refine wpAny_bind (wpAny_of_eq (a := b) rfl ?_)
  refine wpAny_ite ?_
  rw [if_neg ?hlong]
  case hlong =>
    rw [KBy.tooLong_not]
    · exact Bool.false_ne_true
    · simp
      omega
  have hj : (Bytes.joined b [x, y, z]).size ≤ sizeLine := by
    rw [sizeLine_eq]
    simp [Bytes.joined]
    omega
  refine wpAny_bind (?_ : wpAny _ _ (mkBytes (Bytes.joined b [x, y, z])) _ _ _)
  refine wpAny_mkBytes ?_ hj
  refine wpAny_bind (wpAny_holding (wpAny_point ?_))
  refine wpAny_bind (?_ : wpAny _ _ (Bytes.joinLetGo [(.bytes x t, none), (.bytes y u, none), (.bytes z v, none)] _) _ _ _)
  refine wpAny_bind (wpAny_letGo ?_)
  refine wpAny_bind (wpAny_letGo ?_)
  refine wpAny_bind (wpAny_letGo ?_)
  refine wpAny_pure ?_
  exact wpAny_pure (h _ _)
theorem joined3 : Bytes.joined b [x, y, z] = x ++ b ++ y ++ b ++ z := by
  simp [Bytes.joined]
theorem call_join (hl : s.heap.IsList l #[.bytes x t, .bytes y u, .bytes z v]) (hz : x.size + y.size + z.size + 2 * b.size ≤ 16777216) (h : ∀ k t', Q (.bytes (x ++ b ++ y ++ b ++ z) t') { s with toks := k }) :
    wpAny (model prog w) A (call (.builtin "bytes.join") [.bytes b r, .ref l]) Q E s := by
  refine call_meets (S := fun A R s' => s' = s ∧ R = wants Q E) slot_join (typeIs_bytes _ _ _) entry_join (args_join _ _) (.of_wp fun prog w A R s' hS => ?_) ⟨rfl, rfl⟩
  obtain ⟨rfl, rfl⟩ := hS
  refine join_run hl hz fun k t' => ?_
  rw [joined3]
  exact ⟨_, rfl, h k t'⟩
end

end


-- B
theorem rows_B : True := by
  w_top off
  k_with_none
  trivial
section
variable {prog : Program} {w : World} {A : Around} {E : Value → Shared → Prop} {s : Shared} {h₀ : Heap} {L : Addr} {m : PySem.Str → Option Value} {news : List (Addr × Obj)} {Q : Value → Shared → Prop} {b c : Array UInt8} {t u : Tok} {ks ls : List Int}
theorem ints_inj (h : KBw.bInts b = KBw.bInts c) : b = c := by
  have e1 : KBw.bInts b = b.toList.map fun c => (c.toNat : Int) := rfl
  have e2 : KBw.bInts c = c.toList.map fun c => (c.toNat : Int) := rfl
  rw [e1, e2] at h
  have hinj : ∀ x y : UInt8, (x.toNat : Int) = (y.toNat : Int) → x = y := fun x y e => UInt8.toNat_inj.mp (by omega)
  have : b.toList = c.toList := by
    clear e1 e2
    generalize b.toList = x at h
    generalize c.toList = y at h
    induction x generalizing y with
    | nil => cases y with
      | nil => rfl
      | cons _ _ => simp at h
    | cons p r ih => cases y with
      | nil => simp at h
      | cons q v =>
        simp only [List.map_cons, List.cons.injEq] at h
        rw [hinj _ _ h.1, ih _ h.2]
  exact Array.toList_inj.mp this
theorem eqv_ints (hb : KBw.bInts b = ks) (hc : KBw.bInts c = ls) : (b.toList == c.toList) = decide (ks = ls) := by
  apply Bool.eq_iff_iff.mpr
  rw [beq_iff_eq, decide_eq_true_eq]
  constructor
  · intro e
    rw [← hb, ← hc, Array.toList_inj.mp e]
  · intro e
    rw [ints_inj (b := b) (c := c) (by rw [hb, hc, e])]
theorem eq_ints (hb : KBw.bInts b = ks) (hc : KBw.bInts c = ls) (h : Q (.bool (decide (ks = ls))) s) : wpAny (model prog w) A (compareOp .Eq (.bytes b t) (.bytes c u)) Q E s :=
  eq_bytes (by rw [eqv_ints hb hc]; exact h)
theorem eq_ints_T (hb : KBw.bInts b = ks) (hc : KBw.bInts c = ls) (e : ks = ls) (h : Q (.bool true) s) : wpAny (model prog w) A (compareOp .Eq (.bytes b t) (.bytes c u)) Q E s :=
  eq_ints hb hc (by rw [decide_eq_true e]; exact h)
theorem eq_ints_F (hb : KBw.bInts b = ks) (hc : KBw.bInts c = ls) (e : ¬ ks = ls) (h : Q (.bool false) s) : wpAny (model prog w) A (compareOp .Eq (.bytes b t) (.bytes c u)) Q E s :=
  eq_ints hb hc (by rw [decide_eq_false e]; exact h)
theorem ne_ints (hb : KBw.bInts b = ks) (hc : KBw.bInts c = ls) (h : Q (.bool (decide (ks ≠ ls))) s) : wpAny (model prog w) A (compareOp .NotEq (.bytes b t) (.bytes c u)) Q E s :=
  ne_bytes (by
    have e : (b.toList != c.toList) = decide (ks ≠ ls) := by
      show (!(b.toList == c.toList)) = _
      rw [eqv_ints hb hc, decide_not]
    rw [e]; exact h)
theorem eq_ints_c {b c : Array UInt8} {t u : Tok} {ks ls : List Int} {prog : Program} {w : World} {A : Around} {E Q : Value → Shared → Prop} {s : Shared} (hb : KBw.bInts b = ks) (hc : KBw.bInts c = ls)
    (h1 : ks = ls → Q (.bool true) s) (h2 : ¬ ks = ls → Q (.bool false) s) : wpAny (model prog w) A (compareOp .Eq (.bytes b t) (.bytes c u)) Q E s := by
  by_cases e : ks = ls
  · exact eq_ints_T hb hc e (h1 e)
  · exact eq_ints_F hb hc e (h2 e)
theorem ne_ints_c {b c : Array UInt8} {t u : Tok} {ks ls : List Int} {prog : Program} {w : World} {A : Around} {E Q : Value → Shared → Prop} {s : Shared} (hb : KBw.bInts b = ks) (hc : KBw.bInts c = ls)
    (h1 : ks = ls → Q (.bool false) s) (h2 : ¬ ks = ls → Q (.bool true) s) : wpAny (model prog w) A (compareOp .NotEq (.bytes b t) (.bytes c u)) Q E s := by
  refine ne_ints hb hc ?_
  by_cases e : ks = ls
  · rw [decide_eq_false (not_not_intro e)]; exact h1 e
  · rw [decide_eq_true e]; exact h2 e
theorem eqBool_bytes {Q : Bool → Shared → Prop} (h : Q (b.toList == c.toList) s) : wpAny (model prog w) A (eqBool (.bytes b t) (.bytes c u)) Q E s := by
  unfold eqBool
  show wpAny _ _ (if (Value.bytes b t == Value.bytes c u) = true then _ else _) Q E s
  by_cases hab : (Value.bytes b t == Value.bytes c u) = true
  · rw [if_pos hab]
    have e : b = c := by have := eq_of_beq hab; injection this
    subst e
    exact wpAny_bind (wpAny_rule (wpAny_pure (by simpa using h)))
  · rw [if_neg hab]
    exact wpAny_bind (eq_bytes (wpAny_truthy_bool h))
theorem eqAt_bytes {A : Around} (hb : KBw.bInts b = ks) (hc : KBw.bInts c = ls) : SeqAt.EqAt A s (.bytes b t) (.bytes c u) (decide (ks = ls)) := fun _ _ _ _ hq => eqBool_bytes (by rw [eqv_ints hb hc]; exact hq)
theorem notIn_two {l : Addr} {n : Nat} {c₁ c₂ : List UInt8} {t₁ t₂ : Tok} (N : News h₀ L s.heap news) (hm : (l, ({ cls := .type "tuple", data := .seq #[.bytes c₁.toArray t₁, .bytes c₂.toArray t₂] n } : Obj)) ∈ news) (hb : KBw.bInts b = ks) {l₁ l₂ : List Int} (hc1 : KBw.bInts c₁.toArray = l₁) (hc2 : KBw.bInts c₂.toArray = l₂)
    (h : Q (.bool (decide (¬ (ks = l₁ ∨ ks = l₂)))) s) : wpAny (model prog w) A (compareOp .NotIn (.bytes b t) (.ref l)) Q E s := by
  have ht : s.heap.IsTuple l #[.bytes c₁.toArray t₁, .bytes c₂.toArray t₂] := ⟨_, N.get hm, rfl, n, rfl⟩
  refine SeqAt.notIn_tupleAt (fun y => match y with | .bytes d _ => decide (KBw.bInts d = ks) | _ => false) ht ?_ ?_
  · intro y hy
    have hy' : y = .bytes c₁.toArray t₁ ∨ y = .bytes c₂.toArray t₂ := by simpa using hy
    rcases hy' with rfl | rfl
    · exact eqAt_bytes rfl hb
    · exact eqAt_bytes rfl hb
  · have e : (!(#[Value.bytes c₁.toArray t₁, Value.bytes c₂.toArray t₂].any fun y => match y with | .bytes d _ => decide (KBw.bInts d = ks) | _ => false)) = decide (¬ (ks = l₁ ∨ ks = l₂)) := by
      simp only [List.any_toArray, List.any_cons, List.any_nil, Bool.or_false, hc1, hc2, eq_comm (b := ks)]
      by_cases p : ks = l₁ <;> by_cases q : ks = l₂ <;> simp [p, q]
    rw [e]; exact h
-- a cut of octets
noncomputable def cutL (ks : List Int) (lo hi : Option Int) : List Int := match hi with
  | none => ks.drop (lo.getD 0).toNat
  | some j => (ks.drop (lo.getD 0).toNat).take (j.toNat - (lo.getD 0).toNat)
theorem cut_eq {lo hi : Option Int} (h1 : ∀ i ∈ lo, 0 ≤ i) (h2 : ∀ i ∈ hi, 0 ≤ i) :
    (ks.drop (lo.elim 0 (clipAt ks.length))).take (hi.elim ks.length (clipAt ks.length) - lo.elim 0 (clipAt ks.length)) = cutL ks lo hi := by
  have hd : ∀ i : Int, 0 ≤ i → clipAt ks.length i = min i.toNat ks.length := fun i h => by
    have := clipAt_nat ks.length i.toNat
    rwa [Int.toNat_of_nonneg h] at this
  have dm : ∀ l : List Int, l.length ≤ ks.length → ∀ k : Nat, l.drop (min k ks.length) = l.drop k := fun l hl k => (Nat.le_total k ks.length).elim (fun h => by rw [Nat.min_eq_left h])
    fun h => by rw [Nat.min_eq_right h, List.drop_eq_nil_of_le hl, List.drop_eq_nil_of_le (Nat.le_trans hl h)]
  have tm : ∀ k : Nat, ks.take (min k ks.length) = ks.take k := fun k => (Nat.le_total k ks.length).elim (fun h => by rw [Nat.min_eq_left h])
    fun h => by rw [Nat.min_eq_right h, List.take_length, List.take_of_length_le h]
  have key : lo.elim 0 (clipAt ks.length) = min (lo.getD 0).toNat ks.length := by
    cases lo with
    | none => exact (Nat.zero_min _).symm
    | some i => exact hd i (h1 i rfl)
  unfold cutL
  rw [key]
  cases hi with
  | none =>
    show (ks.drop _).take (ks.length - _) = _
    rw [dm ks (Nat.le_refl _)]
    exact List.take_of_length_le (by rw [List.length_drop]; exact Nat.sub_le_sub_left (Nat.min_le_left _ _) _)
  | some j =>
    show (ks.drop _).take (clipAt ks.length j - _) = _
    rw [hd j (h2 j rfl), ← List.drop_take, tm, dm _ (List.length_take_le' _ _), List.drop_take]
theorem slice_C {value slice : PySem.Expr} {l u : Value} {lo hi : Option Int} (hF : Fr h₀ L s.heap m) (hN : News h₀ L s.heap news) (hk : KBw.bInts b = ks) (hl : IsPart l lo) (hu : IsPart u hi) (hz : ks.length ≤ 16777216) {cs : List Int} (h1 : ∀ i ∈ lo, 0 ≤ i) (h2 : ∀ i ∈ hi, 0 ≤ i) (hcs : cutL ks lo hi = cs)
    (h : ∀ b' h' t' k, Fr h₀ L h' m → News h₀ L h' news → KBw.bInts b' = cs → Q (.bytes b' t') { s with heap := h', toks := k })
    (hs : subscripted slice false (.bytes b t) (.ref s.heap.objs.size) = operate [.ref s.heap.objs.size, .bytes b t] (getItem (.bytes b t) (.ref s.heap.objs.size)) := by with_unfolding_all rfl)
    (ht : ∀ r, letTemporaryGo value (.bytes b t) r = pure () := by intro _; with_unfolding_all rfl) :
    wpAny (model prog w) A (subscriptTail value slice (.bytes b t) (.ref s.heap.objs.size)) Q E { s with heap := s.heap.push { cls := .type "slice", data := .fields #[l, u, .none] } } :=
  KBc.slice_K hF hN hk hl hu hz (fun h' t' k F' N' e => h _ h' t' k F' N' (by rw [e, cut_eq h1 h2]; exact hcs)) hs ht
theorem cut_head {k : Nat} : cutL ks none (some (k : Int)) = ks.take k := by simp [cutL]
theorem cut_tail {i : Int} : cutL ks (some i) none = ks.drop i.toNat := rfl
theorem cut_mid {i : Int} {k : Nat} (h : 0 ≤ i) : cutL ks (some i) (some (i + (k : Int))) = (ks.drop i.toNat).take k := by
  show (ks.drop i.toNat).take ((i + (k : Int)).toNat - i.toNat) = _
  rw [Int.toNat_add h (Int.natCast_nonneg k), Int.toNat_natCast, Nat.add_sub_cancel_left]
theorem cut_mid3 {i : Int} (h : 0 ≤ i) : cutL ks (some i) (some (i + 3)) = (ks.drop i.toNat).take 3 := cut_mid (k := 3) h
theorem cut_mid2 {i : Int} (h : 0 ≤ i) : cutL ks (some i) (some (i + 2)) = (ks.drop i.toNat).take 2 := cut_mid (k := 2) h
theorem cut_z3 : cutL ks (some 0) (some (0 + 3)) = ks.take 3 := rfl
theorem cut_z2 : cutL ks (some 0) (some (0 + 2)) = ks.take 2 := rfl
theorem cut_z : cutL ks (some 0) none = ks := rfl
theorem cut_lit3 : cutL ks none (some 3) = ks.take 3 := by rw [show (3 : Int) = ((3 : Nat) : Int) from rfl, cut_head]
theorem cut_lit2 : cutL ks none (some 2) = ks.take 2 := by rw [show (2 : Int) = ((2 : Nat) : Int) from rfl, cut_head]
theorem cut_lit3' : cutL ks (some 3) none = ks.drop 3 := rfl
theorem cut_lit2' : cutL ks (some 2) none = ks.drop 2 := rfl
theorem cut_two {i j : Int} : cutL ks (some i) (some j) = (ks.drop i.toNat).take (j.toNat - i.toNat) := rfl
theorem cut_head' {j : Int} : cutL ks none (some j) = ks.take j.toNat := by simp [cutL]
end
theorem ints_lit {l : List UInt8} {k : List Int} (h : l.map (fun c => (c.toNat : Int)) = k) : KBw.bInts l.toArray = k := h
theorem own_B_1 : True := by
  k_with "kba_ints2" => first | kba_ints | (apply ints_lit; (simp only [List.map_cons, List.map_nil, UInt8.reduceToNat, Int.cast_ofNat_Int]); (try exact rfl))
  k_with "compareOp Eq bytes bytes" => (k_here; (with_reducible show wpAny _ _ (compareOp CmpOp.Eq (Value.bytes _ _) (Value.bytes _ _)) _ _ _); (first | refine eq_ints_T (by kba_ints2) (by kba_ints2) (by assumption) ?_ | refine eq_ints_F (by kba_ints2) (by kba_ints2) (by assumption) ?_ | refine eq_ints (by kba_ints2) (by kba_ints2) ?_))
  k_with "compareOp NotEq bytes bytes" => (k_here; (with_reducible show wpAny _ _ (compareOp CmpOp.NotEq (Value.bytes _ _) (Value.bytes _ _)) _ _ _); (refine ne_ints (by kba_ints2) (by kba_ints2) ?_))
  k_with "compareOp NotIn bytes ref" => (k_here; (with_reducible show wpAny _ _ (compareOp CmpOp.NotIn (Value.bytes _ _) (Value.ref _)) _ _ _); (refine notIn_two (by k_asm) (by k_mem) (by kba_ints2) (by kba_ints2) (by kba_ints2) ?_))
  k_with "subscriptTail" => (k_here; (with_reducible show wpAny _ _ (subscriptTail _ (Expr.Slice _ _ none _) (Value.bytes _ _) (Value.ref _)) _ _ _); (with_reducible rename Fr _ _ _ _ => F'); (with_reducible rename News _ _ _ _ => N'); (refine slice_C (s := ⟨_, _, _, _, _⟩) F' N' (by kba_ints2) (by constructor) (by constructor) (by kba_size) (by intro i hi; simp at hi; try (subst hi; omega)) (by intro i hi; simp at hi; try (subst hi; omega)) (by first | exact cut_z3 | exact cut_z2 | exact cut_z | exact cut_mid3 (by omega) | exact cut_mid2 (by omega) | exact cut_lit3 | exact cut_lit2 | exact cut_lit3' | exact cut_lit2' | exact cut_two | exact cut_tail | exact cut_head') ?_); intro _ _ _ _ _ _ kbcK; (try simp only [Int.toNat_zero, Int.toNat_ofNat, List.drop_zero] at kbcK))
  trivial
theorem room9 {dp n m : Nat} (h : dp + n < recursionLimit) (e : Nat.ble (m + 1) n = true) : dp + 1 + m < recursionLimit :=
  Nat.lt_of_le_of_lt (by rw [Nat.add_assoc, Nat.add_comm 1 m]; exact Nat.add_le_add_left (Nat.le_of_ble_eq_true e) dp) h
theorem units9 {un n m : Nat} (h : un + 8 * n < cLine) (e : Nat.ble (m + 1) n = true) : un + 3 + 8 * m < cLine :=
  have := Nat.le_of_ble_eq_true e
  Nat.lt_of_le_of_lt (by omega) h
theorem own_B_3 : True := by
  k_with "ktr_room" => first | exact room9 (by assumption) rfl | exact Nat.lt_of_le_of_lt (Nat.le_add_right _ _) (by assumption)
  k_with "ktr_units" => exact units9 (by assumption) rfl
  trivial


-- C
theorem rows_C : True := by
  w_top off
  k_with_none
  trivial
section
variable {prog : Program} {w : World} {A : Around} {E : Value → Shared → Prop} {s₁ : Shared} {h₀ : Heap} {L : Addr} {m : Str → Option Value} {news : List (Addr × Obj)}
theorem areOf_octets {b : Array UInt8} {ks : List Int} (hb : KBw.bInts b = ks) {vs : List Value} (hlen : vs.length = b.size) (hP : ∀ (j : Nat) (v : Value), vs[j]? = some v → ∃ c u, b[j]? = some c ∧ v = .int (c.toNat : Int) u) : AreOf .int vs ks := by
  subst hb
  refine areOf_of_get vs _ (by rw [hlen]; exact (KBw.ints_length b).symm) fun j v hv => ?_
  obtain ⟨c, u, hc, rfl⟩ := hP j v hv
  exact ⟨_, KBw.ints_get hc, u, rfl⟩
theorem srcC_bytesD {env : Env} {elt : Expr} {x : Str} {ifs : List Expr} {scope : Scope} {Q : Value → Shared → Prop} {b : Array UInt8} {t : Tok} {ks : List Int} {pz : Int → Bool} {d : Int → PyData} (hb : KBw.bInts b = ks)
    (hh : A.handled = none) (F : Fr h₀ L s₁.heap m) (N : News h₀ L s₁.heap news)
    (g1 : ∀ C a v s₂ m₂ E', ItemKind.int.is a v → s₂.heap.Ns (compEnv scope C env).locals m₂ → m₂ x = some v → s₁.toks ≤ s₂.toks →
        wpAny (model prog w) A (forIn ifs true fun c r => if r = true then do let ok ← isTrue c (compEnv scope C env) (eval c (compEnv scope C env)); pure (ForInStep.yield ok) else pure (ForInStep.yield r))
          (fun ok s₃ => ok = pz a ∧ Keeps s₂ s₃) E' s₂)
    (g2 : ∀ C a v s₂ m₂ E', ItemKind.int.is a v → pz a = true → s₂.heap.Ns (compEnv scope C env).locals m₂ → m₂ x = some v → s₁.toks ≤ s₂.toks → wpAny (model prog w) A (eval elt (compEnv scope C env)) (fun r s₃ => Carried r (d a) ∧ Keeps s₂ s₃) E' s₂)
    (g3 : ∀ D (ys : List Value) h' tk, Fr h₀ L h' m → News h₀ L h' news → h₀.get? D = none → h'.IsList D ys.toArray → NewPlain h' news D ys.toArray → CarriedAll ys ((ks.filter pz).map d) → Q (.ref D) { s₁ with heap := h', toks := tk }) (hsz : ks.length ≤ 1000) :
    wpAny (model prog w) A (pyIter (.bytes b t)) (CompPost prog w A env scope x ifs elt Q) E s₁ := by
  unfold CompPost
  refine KBw.pyIter_bytes ?_
  have W := KBw.walks (prog := prog) (w := w) hh s₁.heap.objs.size b t
  have up : ∀ (h' : Heap), (∀ b' o', b' ∉ [s₁.heap.objs.size] → (s₁.heap.push { cls := .type "bytes_iterator", data := .fields #[.bytes b t, .int 0 0] }).get? b' = some o' → h'.get? b' = some o') → ∀ b' o', s₁.heap.get? b' = some o' → h'.get? b' = some o' :=
    fun h' hk b' o' e => hk b' o' (old_not_new e) (Heap.get?_push_of_some _ e)
  have hsz' : b.size ≤ sizeLine := by rw [← KBw.ints_length b, hb, sizeLine_eq]; omega
  refine ⟨ItemKind.int.lift pz, fun v r => ∃ a, ItemKind.int.is a v ∧ Carried r (d a), s₁.heap.objs.size, [s₁.heap.objs.size], [s₁.heap.objs.size], b.size, _, _, rfl, W, hsz', ⟨_, Heap.get?_push_size _ rfl, rfl, rfl⟩, ?_, ⟨?_, ?_⟩, ?_⟩
  · intro b hb
    show b < (s₁.heap.push _).objs.size
    rw [Heap.size_push, List.mem_singleton.mp hb]
    exact Nat.lt_succ_self _
  · intro C i v s₃ m₃ E' hP hn hm _ htk
    obtain ⟨c, u, _, rfl⟩ := hP
    have ha : ItemKind.int.is (c.toNat : Int) (.int (c.toNat : Int) u) := ⟨u, rfl⟩
    rw [ItemKind.lift_is ha]
    exact g1 C _ _ s₃ m₃ E' ha hn hm htk
  · intro C i v s₃ m₃ E' hP hp hn hm _ htk
    obtain ⟨c, u, _, rfl⟩ := hP
    have ha : ItemKind.int.is (c.toNat : Int) (.int (c.toNat : Int) u) := ⟨u, rfl⟩
    rw [ItemKind.lift_is ha] at hp
    exact wpAny_mono (g2 C _ _ s₃ m₃ E' ha hp hn hm htk) (fun r s₄ h₄ => ⟨⟨_, ha, h₄.1⟩, h₄.2⟩) fun _ _ e => e
  · intro D h' tk ys vs hnew hlD hplD hlen hP hF hk
    refine g3 D ys.toList h' tk (F.keeps (up h' hk)) (N.grown (up h' hk)) ?_ (by rw [Array.toArray_toList]; exact hlD) ⟨by rw [Array.toArray_toList]; exact hplD, fun p hp e => by rw [← e, Heap.get?_push_of_some _ (N p hp).1] at hnew; cases hnew⟩ ((areOf_octets hb hlen hP).paired pz d _ hF)
    cases e : h₀.get? D with
    | none => rfl
    | some o' => rw [Heap.get?_push_of_some _ (F.keep _ _ e)] at hnew; cases hnew
theorem srcA_bytesD {name : Str} {fscope : Scope} {a : Addr} {cd : Value} {elt : Expr} {x z : Str} {ifs : List Expr} {scope : Scope} {Q : Flow → Shared → Prop} {b : Array UInt8} {t : Tok} {ks : List Int} {pz : Int → Bool} {d : Int → PyData} (hb : KBw.bInts b = ks)
    (hh : A.handled = none) (F : Fr h₀ L s₁.heap m) (N : News h₀ L s₁.heap news)
    (g1 : ∀ C a' v s₂ m₂ E', ItemKind.int.is a' v → s₂.heap.Ns (compEnv scope C (envOf name fscope L a cd)).locals m₂ → m₂ x = some v → s₁.toks ≤ s₂.toks →
        wpAny (model prog w) A (forIn ifs true fun c r => if r = true then do let ok ← isTrue c (compEnv scope C (envOf name fscope L a cd)) (eval c (compEnv scope C (envOf name fscope L a cd))); pure (ForInStep.yield ok) else pure (ForInStep.yield r))
          (fun ok s₃ => ok = pz a' ∧ Keeps s₂ s₃) E' s₂)
    (g2 : ∀ C a' v s₂ m₂ E', ItemKind.int.is a' v → pz a' = true → s₂.heap.Ns (compEnv scope C (envOf name fscope L a cd)).locals m₂ → m₂ x = some v → s₁.toks ≤ s₂.toks → wpAny (model prog w) A (eval elt (compEnv scope C (envOf name fscope L a cd))) (fun r s₃ => Carried r (d a') ∧ Keeps s₂ s₃) E' s₂)
    (g3 : ∀ D (ys : List Value) h' tk, Fr h₀ L h' (fun q => if q = z then some (.ref D) else m q) → News h₀ L h' news → h₀.get? D = none → h'.IsList D ys.toArray → NewPlain h' news D ys.toArray → CarriedAll ys ((ks.filter pz).map d) → Q .next { s₁ with heap := h', toks := tk }) (hsz : ks.length ≤ 1000) :
    wpAny (model prog w) A (pyIter (.bytes b t)) (CompPostA prog w A (envOf name fscope L a cd) scope x z ifs elt Q) E s₁ := by
  unfold CompPostA
  refine KBw.pyIter_bytes ?_
  have W := KBw.walks (prog := prog) (w := w) hh s₁.heap.objs.size b t
  have hsz' : b.size ≤ sizeLine := by rw [← KBw.ints_length b, hb, sizeLine_eq]; omega
  refine ⟨ItemKind.int.lift pz, fun v r => ∃ a, ItemKind.int.is a v ∧ Carried r (d a), s₁.heap.objs.size, [s₁.heap.objs.size], [s₁.heap.objs.size], b.size, _, _, m, rfl, W, hsz', ⟨_, Heap.get?_push_size _ rfl, rfl, rfl⟩, ?_, ?_, (F.push _).ns, ⟨?_, ?_⟩, ?_⟩
  · intro b hb
    show b < (s₁.heap.push _).objs.size
    rw [Heap.size_push, List.mem_singleton.mp hb]
    exact Nat.lt_succ_self _
  · intro hm
    exact absurd F.ns.lt ((List.mem_singleton.mp hm) ▸ Nat.lt_irrefl _)
  · intro C i v s₃ m₃ E' hP hn hm _ htk
    obtain ⟨c, u, _, rfl⟩ := hP
    have ha : ItemKind.int.is (c.toNat : Int) (.int (c.toNat : Int) u) := ⟨u, rfl⟩
    rw [ItemKind.lift_is ha]
    exact g1 C _ _ s₃ m₃ E' ha hn hm htk
  · intro C i v s₃ m₃ E' hP hp' hn hm _ htk
    obtain ⟨c, u, _, rfl⟩ := hP
    have ha : ItemKind.int.is (c.toNat : Int) (.int (c.toNat : Int) u) := ⟨u, rfl⟩
    rw [ItemKind.lift_is ha] at hp'
    exact wpAny_mono (g2 C _ _ s₃ m₃ E' ha hp' hn hm htk) (fun r s₄ h₄ => ⟨⟨_, ha, h₄.1⟩, h₄.2⟩) fun _ _ e => e
  · intro D h' tk ys vs hnew hlD hplD hlen hP hF hn' hk
    refine g3 D ys.toList h' tk ⟨hn', fun b o' e => hk b o' (Nat.ne_of_lt (Nat.lt_of_lt_of_le (Heap.lt_size e) F.above)) (old_not_new (F.keep b o' e)) (Heap.get?_push_of_some _ (F.keep b o' e)), F.above⟩
      (fun p hp => ⟨hk _ _ (N p hp).2.1 (old_not_new (N p hp).1) (Heap.get?_push_of_some _ (N p hp).1), (N p hp).2⟩) ?_ (by rw [Array.toArray_toList]; exact hlD) ⟨by rw [Array.toArray_toList]; exact hplD, fun p hp e => by rw [← e, Heap.get?_push_of_some _ (N p hp).1] at hnew; cases hnew⟩ ((areOf_octets hb hlen hP).paired pz d _ hF)
    cases e : h₀.get? D with
    | none => rfl
    | some o' => rw [Heap.get?_push_of_some _ (F.keep _ _ e)] at hnew; cases hnew
end


-- S
theorem rows_S : True := by
  w_top off
  k_with_none
  k_with "kba_ints2" => first | kba_ints | (apply ints_lit; (simp only [List.map_cons, List.map_nil, UInt8.reduceToNat, Int.cast_ofNat_Int]); (try exact rfl))
  k_with "compareOp Eq bytes bytes" => (k_here; (with_reducible show wpAny _ _ (compareOp CmpOp.Eq (Value.bytes _ _) (Value.bytes _ _)) _ _ _); (first | refine eq_ints_T (by kba_ints2) (by kba_ints2) (by assumption) ?_ | refine eq_ints_F (by kba_ints2) (by kba_ints2) (by assumption) ?_ | refine eq_ints (by kba_ints2) (by kba_ints2) ?_))
  k_with "compareOp NotEq bytes bytes" => (k_here; (with_reducible show wpAny _ _ (compareOp CmpOp.NotEq (Value.bytes _ _) (Value.bytes _ _)) _ _ _); (refine ne_ints (by kba_ints2) (by kba_ints2) ?_))
  k_with "compareOp NotIn bytes ref" => (k_here; (with_reducible show wpAny _ _ (compareOp CmpOp.NotIn (Value.bytes _ _) (Value.ref _)) _ _ _); (refine notIn_two (by k_asm) (by k_mem) (by kba_ints2) (by kba_ints2) (by kba_ints2) ?_))
  k_with "subscriptTail" => (k_here; (with_reducible show wpAny _ _ (subscriptTail _ (Expr.Slice _ _ none _) (Value.bytes _ _) (Value.ref _)) _ _ _); (with_reducible rename Fr _ _ _ _ => F'); (with_reducible rename News _ _ _ _ => N'); (refine slice_C (s := ⟨_, _, _, _, _⟩) F' N' (by kba_ints2) (by constructor) (by constructor) (by kba_size) (by intro i hi; simp at hi; try (subst hi; omega)) (by intro i hi; simp at hi; try (subst hi; omega)) (by first | exact cut_z3 | exact cut_z2 | exact cut_z | exact cut_mid3 (by omega) | exact cut_mid2 (by omega) | exact cut_lit3 | exact cut_lit2 | exact cut_lit3' | exact cut_lit2' | exact cut_two | exact cut_tail | exact cut_head') ?_); intro _ _ _ _ _ _ kbcK; (try simp only [Int.toNat_zero, Int.toNat_ofNat, List.drop_zero] at kbcK))
  k_with "ktr_room" => first | exact room9 (by assumption) rfl | exact Nat.lt_of_le_of_lt (Nat.le_add_right _ _) (by assumption)
  k_with "ktr_units" => exact units9 (by assumption) rfl
  trivial
theorem lt_four {y : Nat} (h : y < 4) : y = 0 ∨ y = 1 ∨ y = 2 ∨ y = 3 := by omega
-- a call's ledger behind it and what comes back: nothing, or a pair of ints
noncomputable def PairR (o : Option (Int × Int)) (news : List (Addr × Obj)) (r : Value) (tl : List (Addr × Obj)) : Prop := match o with
  | none => r = .none ∧ tl = []
  | some (v, n) => ∃ D t1 t2, r = .ref D ∧ tl = [(D, { cls := .type "tuple", data := .seq #[.int v t1, .int n t2] })] ∧ ∀ p ∈ news, p.1 < D
theorem PairR.none {o : Option (Int × Int)} {news : List (Addr × Obj)} (e : o = Option.none) : PairR o news .none [] := by subst e; exact ⟨rfl, rfl⟩
theorem PairR.some {o : Option (Int × Int)} {news : List (Addr × Obj)} {v n : Int} {D : Addr} {t1 t2 : Tok} (e : o = Option.some (v, n)) (h : ∀ p ∈ news, p.1 < D) : PairR o news (.ref D) [(D, { cls := .type "tuple", data := .seq #[.int v t1, .int n t2] })] := by subst e; exact ⟨D, t1, t2, rfl, rfl, h⟩
theorem mask31 (x : Int) : bitAnd x 31 = x % 32 := kbt_mask x 5
theorem land31 (x : Int) : 0 ≤ bitAnd x 31 ∧ bitAnd x 31 ≤ 31 := by
  rw [mask31]
  omega
section
variable {prog : Program} {w : World} {A : Around} {E : Value → Shared → Prop} {s : Shared} {Q : Value → Shared → Prop} {b c : Array UInt8} {t u : Tok} {ks ls : List Int}
theorem fits_ints (hb : KBw.bInts b = ks) (hc : KBw.bInts c = ls) : fitsB b c = decide (ks.take ls.length = ls) := by
  have h1 := KBw.ints_length b
  have h2 := KBw.ints_length c
  rw [hb] at h1
  rw [hc] at h2
  unfold fitsB
  by_cases h : (b.size : Int) < c.size
  · rw [if_pos h]
    refine (decide_eq_false fun e => ?_).symm
    have := congrArg List.length e
    rw [List.length_take] at this
    omega
  · rw [if_neg h]
    have he : KBw.bInts (b.extract 0 c.size) = ks.take ls.length := by
      have e1 : KBw.bInts (b.extract 0 c.size) = (b.extract 0 c.size).toList.map fun c => (c.toNat : Int) := rfl
      have e2 : KBw.bInts b = b.toList.map fun c => (c.toNat : Int) := rfl
      rw [e1, Array.toList_extract, List.extract_eq_take_drop, List.drop_zero, List.map_take, ← e2, hb, h2]
      rfl
    apply Bool.eq_iff_iff.mpr
    rw [beq_iff_eq, decide_eq_true_eq, ← he, ← hc]
    exact ⟨fun e => by rw [e], fun e => ints_inj e⟩
theorem call_starts_I (hb : KBw.bInts b = ks) (hc : KBw.bInts c = ls) (h : Q (.bool (decide (ks.take ls.length = ls))) s) :
    wpAny (model prog w) A (call (.builtin "bytes.startswith") [.bytes b t, .bytes c u]) Q E s := call_starts (by rw [fits_ints hb hc]; exact h)
theorem call_starts_T (hb : KBw.bInts b = ks) (hc : KBw.bInts c = ls) (e : ks.take ls.length = ls) (h : Q (.bool true) s) :
    wpAny (model prog w) A (call (.builtin "bytes.startswith") [.bytes b t, .bytes c u]) Q E s := call_starts_I hb hc (by rw [decide_eq_true e]; exact h)
theorem call_starts_F (hb : KBw.bInts b = ks) (hc : KBw.bInts c = ls) (e : ¬ ks.take ls.length = ls) (h : Q (.bool false) s) :
    wpAny (model prog w) A (call (.builtin "bytes.startswith") [.bytes b t, .bytes c u]) Q E s := call_starts_I hb hc (by rw [decide_eq_false e]; exact h)
end
theorem own_S_1 : True := by
  k_with "getMethod bytes" => (k_here; first | refine meth_starts ?_ | refine meth_split ?_ | refine meth_join ?_)
  k_with "call builtin:bytes.startswith" => (k_here; first | refine call_starts_T (by kba_ints2) (by kba_ints2) (by assumption) ?_ | refine call_starts_F (by kba_ints2) (by kba_ints2) (by assumption) ?_ | refine call_starts_I (by kba_ints2) (by kba_ints2) ?_)
  trivial
-- a loop that turns one int: its ways out meet
noncomputable def CutPost (h₀ : Heap) (L : Addr) (x : Str) (m : Str → Option Value) (news : List (Addr × Obj)) (P : Int → Prop) (s : Shared) (f : Flow) (s' : Shared) : Prop :=
  f = .next ∧ ∃ n t h' tk, s' = { s with heap := h', toks := tk } ∧ Fr h₀ L h' (fun z => if z = x then some (.int n t) else m z) ∧ News h₀ L h' news ∧ P n
theorem CutPost.intro {h₀ : Heap} {L : Addr} {x : Str} {m m' : Str → Option Value} {news : List (Addr × Obj)} {P : Int → Prop} {s : Shared} {n : Int} {t : Tok} {h' : Heap} {tk : Nat} (F : Fr h₀ L h' m') (N : News h₀ L h' news) (hm : ∀ z, m' z = if z = x then some (.int n t) else m z) (p : P n) :
    CutPost h₀ L x m news P s .next { s with heap := h', toks := tk } := ⟨rfl, n, t, h', tk, rfl, by rw [show (fun z => if z = x then some (.int n t) else m z) = m' from funext fun z => (hm z).symm]; exact F, N, p⟩
theorem CutPost.intro2 {h₀ : Heap} {L : Addr} {x : Str} {m kU : Str → Option Value} {news : List (Addr × Obj)} {P : Int → Prop} {s : Shared} {n : Int} {t : Tok} {h' : Heap} {tk : Nat} (F : Fr h₀ L h' (fun z => if z = x then some (.int n t) else if ([] : List Str).contains z = true then kU z else m z)) (N : News h₀ L h' news) (p : P n) :
    CutPost h₀ L x m news P s .next { s with heap := h', toks := tk } := CutPost.intro (n := n) (t := t) F N (fun z => by simp) p
theorem cut_use {M : Model} {A : Around} {h₀ : Heap} {L : Addr} {st : Stmt} {env : Env} {s : Shared} {m : Str → Option Value} {news : List (Addr × Obj)} {Q : Flow → Shared → Prop} {E : Value → Shared → Prop} (x : Str) (P : Int → Prop) (_F : Fr h₀ L s.heap m) (_N : News h₀ L s.heap news)
    (walk : wpAny M A (exec st env) (CutPost h₀ L x m news P s) E s)
    (rest : ∀ n t h' tk, P n → Fr h₀ L h' (fun z => if z = x then some (.int n t) else m z) → News h₀ L h' news → Q .next { s with heap := h', toks := tk }) : wpAny M A (exec st env) Q E s :=
  wpAny_mono walk (fun f s' h => by
    obtain ⟨hf, n, t, h', tk, hs, F, N, p⟩ := h
    subst hf hs; exact rest n t h' tk p F N) fun _ _ x => x
section
variable {prog : Program} {w : World} {A : Around} {E : Value → Shared → Prop} {s : Shared} {h₀ : Heap} {L : Addr} {news : List (Addr × Obj)} {Q : Value → Shared → Prop} {D : Addr} {n : Nat} {vs : Array Value}
noncomputable def isNone (v : Value) : Bool := match v with | .none => true | _ => false
theorem eqAt_none {s : Shared} {A : Around} {v : Value} (h : v = .none ∨ ∃ i t, v = .int i t) : SeqAt.EqAt A s v .none (isNone v) := by
  rcases h with rfl | ⟨i, t, rfl⟩
  · exact SeqAt.EqAt.same _
  · intro prog w E Q hq
    unfold eqBool
    have e : (Value.int i t == Value.none) = false := rfl
    rw [e]
    exact wpAny_bind (EqNone.eq_int_none (wpAny_truthy_bool hq))
noncomputable def noneOrInt (v : Value) : Bool := match v with | .none => true | .int _ _ => true | _ => false
theorem in_nones (b : Bool) (N : News h₀ L s.heap news) (hm : (D, listOf vs n) ∈ news) (hv : vs.toList.all noneOrInt = true) (hb : vs.toList.any isNone = b) (h : Q (.bool b) s) : wpAny (model prog w) A (compareOp .In .none (.ref D)) Q E s :=
  SeqAt.in_listAt isNone (N.isList hm) (fun y hy => eqAt_none (by
    have := List.all_eq_true.mp hv y (by simpa using hy)
    cases y <;> simp_all [noneOrInt])) (by rw [← Array.any_toList, hb]; exact h)
end
section
variable {prog : Program} {w : World} {A : Around} {E : Value → Shared → Prop} {s : Shared} {h₀ : Heap} {L : Addr} {news : List (Addr × Obj)} {Q : Value → Shared → Prop} {b x y z : Array UInt8} {r t u v : Tok} {S X Y Z : List Int} {l : Addr} {o : Obj} {n : Nat}
theorem call_join_I (N : News h₀ L s.heap news) (hm : (l, o) ∈ news) (hc : o.cls = .type "list") (hd : o.data = .seq #[.bytes x t, .bytes y u, .bytes z v] n) (hb : KBw.bInts b = S) (hx : KBw.bInts x = X) (hy : KBw.bInts y = Y) (hz : KBw.bInts z = Z) (lS : S.length ≤ 100) (lX : X.length ≤ 100) (lY : Y.length ≤ 100) (lZ : Z.length ≤ 100)
    (h : ∀ b' k t', KBw.bInts b' = X ++ S ++ Y ++ S ++ Z → Q (.bytes b' t') { s with toks := k }) : wpAny (model prog w) A (call (.builtin "bytes.join") [.bytes b r, .ref l]) Q E s := by
  refine call_join ⟨o, N.get hm, hc, n, hd⟩ ?_ fun k t' => h _ k t' (KBw.ints_app (KBw.ints_app (KBw.ints_app (KBw.ints_app hx hb) hy) hb) hz)
  rw [← KBw.ints_length x, ← KBw.ints_length y, ← KBw.ints_length z, ← KBw.ints_length b, hx, hy, hz, hb]
  omega
end
theorem fd10 (n : Int) : n.fdiv 10 = n / 10 := Int.fdiv_eq_ediv_of_nonneg n (by decide)
theorem fm10 (n : Int) : n.fmod 10 = n % 10 := Int.fmod_eq_emod_of_nonneg n (by decide)
theorem room_deep {dp un : Nat} {gd : Option (List Code)} {cn : Str} {cs : Scope} {L a : Addr} {ccd : Value} {cl : List (Str × Addr)} {outer : List Env} {env : Env} (h : un + 67 < cLine) : ((ktrTop dp un gd cn cs L a ccd cl outer).deeper env).units + 64 < cLine := by
  show un + 3 + 64 < cLine
  omega
theorem own_S_3 : True := by
  k_with "CompEnd" => (refine LCg.CompEnd.intro (by assumption) (by assumption) _ (fun _ h => h) (by assumption) (by exact Or.inr ⟨_, by k_mem, rfl, _, rfl⟩) ?_)
  k_with "call type:bytes" => (k_here; (with_reducible show wpAny _ _ (call (Value.type "bytes") [Value.ref _]) _ _ _); (refine' KBa.make_K ?kbaF ?kbaN ?kbah ?kbal ?kbai ?kbar ?kban ?_; (case kbaF => k_asm); (case kbaN => k_asm); (case kbah => rfl); (case kbal => kba_isList); (case kbai => kba_listInts); (case kbar => (repeat' (first | exact List.forall_mem_nil _ | (refine List.forall_mem_cons.mpr ⟨⟨?_, ?_⟩, ?_⟩) | omega | (simp only [fd10, fm10]; omega)))); (case kban => kba_size)); intro _ _ _ F' N' kbaIn; (have kbaM := KBa.ints_make kbaIn))
  k_with "cell_enter" => (refine' code_defC ?k1 ?k2 ?k3 ?k4 ?k5 ?kA ?kF ?kK ?k6 ?k7 ?k8 ?k9 ?kB ?kD ?_ ?c2 ?c3 ?c4; (case kA => exact rfl); (case kF => exact rfl); (case kK => first | exact rfl | assumption); (case k1 => k_asm); (case k2 => k_asm); (case k3 => k_asm); (case k4 => k_asm); (case k5 => k_asm); (case k6 => k_is); (case k7 => k_is); (case k8 => ktr_room); (case k9 => first | exact BindsTo.of_eq rfl | exact binds_K (by k_in) rfl (by k_is) rfl rfl rfl); (case kB => exact rfl); (case kD => decide +kernel); (case c2 => exact rfl); (case c3 => exact rfl); (case c4 => exact rfl); k_whole; intro g' L' h' tk' cells' FG' F' N' Y' B' X' T' l1; (try k_lt l1); k_cells Y'; (try simp only [List.cons_append, List.nil_append] at N'); (try dsimp only); (try k_lift B'); (try k_fold))
  k_with "call builtin:bytes.join" => (k_here; refine call_join_I (by k_asm) (by k_mem) rfl rfl (by kba_ints2) (by kba_ints2) (by kba_ints2) (by kba_ints2) (by first | assumption | decide) (by first | assumption | decide) (by first | assumption | decide) (by first | assumption | decide) ?_; intro _ _ _ kbJ; (try simp only [List.append_nil] at kbJ))
  k_with "units_room" => exact room_deep (by omega)
  k_with "cell_enter" => (refine' code_def ?k1 ?k2 ?k3 ?k4 ?k5 ?kA ?kF ?kK ?k6 ?k7 ?k8 ?k9 ?kB ?_ ?c2 ?c3 ?c4 ?c5; (case kA => exact rfl); (case kF => exact rfl); (case kK => first | exact rfl | assumption); (case k1 => k_asm); (case k2 => k_asm); (case k3 => k_asm); (case k4 => k_asm); (case k5 => k_asm); (case k6 => k_is); (case k7 => k_is); (case k8 => ktr_room); (case k9 => exact binds_K (by k_in) rfl (by k_is) rfl rfl rfl); (case c5 => decide); (case kB => exact locs rfl); (case c2 => exact rfl); (case c3 => exact rfl); (case c4 => exact rfl); k_whole; intro g' L' h' FG' F' N' B' X' T'; (try dsimp only); (try k_fold))
  trivial
noncomputable def IntR (o : Option Int) (r : Value) (tl : List (Addr × Obj)) : Prop := match o with
  | none => r = .none ∧ tl = []
  | some v => ∃ t, r = .int v t ∧ tl = []
theorem IntR.none {o : Option Int} (e : o = Option.none) : IntR o .none [] := by subst e; exact ⟨rfl, rfl⟩
theorem IntR.some {o : Option Int} {v : Int} {t : Tok} (e : o = Option.some v) : IntR o (.int v t) [] := by subst e; exact ⟨t, rfl, rfl⟩
-- an event's five parts
structure Ev where
  k : Str
  bt : Int
  r : Int
  c : Int
  md : Int
-- nothing, or an event made anew
noncomputable def EvR (w : World) (o : Option Ev) (news : List (Addr × Obj)) (r : Value) (tl : List (Addr × Obj)) : Prop := match o with
  | none => r = .none ∧ tl = []
  | some e => ∃ x d t0 t1 t2 t3 t4 t5 t6 t7 t8 t9, r = .ref x ∧ tl = [(x, instObj 105 d), (d, dictOf [⟨PyData.keyHash w.params (Str.ofString "kind"), .str (Str.ofString "kind") t0, .str e.k t1⟩, ⟨PyData.keyHash w.params (Str.ofString "button"), .str (Str.ofString "button") t2, .int e.bt t3⟩, ⟨PyData.keyHash w.params (Str.ofString "row"), .str (Str.ofString "row") t4, .int e.r t5⟩, ⟨PyData.keyHash w.params (Str.ofString "column"), .str (Str.ofString "column") t6, .int e.c t7⟩, ⟨PyData.keyHash w.params (Str.ofString "modifiers"), .str (Str.ofString "modifiers") t8, .int e.md t9⟩] 5)] ∧ (∀ p ∈ news, p.1 < d) ∧ d < x
theorem EvR.none {w : World} {o : Option Ev} {news : List (Addr × Obj)} (e : o = Option.none) : EvR w o news .none [] := by subst e; exact ⟨rfl, rfl⟩
theorem EvR.some {w : World} {o : Option Ev} {news : List (Addr × Obj)} {k : Str} {bt r c md : Int} {x d : Addr} {t0 t1 t2 t3 t4 t5 t6 t7 t8 t9 : Tok} (e : o = Option.some ⟨k, bt, r, c, md⟩) (h : ∀ p ∈ news, p.1 < d) (h2 : d < x) :
    EvR w o news (.ref x) [(x, instObj 105 d), (d, dictOf [⟨PyData.keyHash w.params (Str.ofString "kind"), .str (Str.ofString "kind") t0, .str k t1⟩, ⟨PyData.keyHash w.params (Str.ofString "button"), .str (Str.ofString "button") t2, .int bt t3⟩, ⟨PyData.keyHash w.params (Str.ofString "row"), .str (Str.ofString "row") t4, .int r t5⟩, ⟨PyData.keyHash w.params (Str.ofString "column"), .str (Str.ofString "column") t6, .int c t7⟩, ⟨PyData.keyHash w.params (Str.ofString "modifiers"), .str (Str.ofString "modifiers") t8, .int md t9⟩] 5)] := by
  subst e; exact ⟨x, d, t0, t1, t2, t3, t4, t5, t6, t7, t8, t9, rfl, rfl, h, h2⟩
-- nothing, or an event made anew and a place, in a pair
noncomputable def EPairR (w : World) (o : Option (Ev × Int)) (news : List (Addr × Obj)) (r : Value) (tl : List (Addr × Obj)) : Prop := match o with
  | none => r = .none ∧ tl = []
  | some (e, n) => ∃ D x d t t0 t1 t2 t3 t4 t5 t6 t7 t8 t9, r = .ref D ∧ tl = [(D, { cls := .type "tuple", data := .seq #[.ref x, .int n t] }), (x, instObj 105 d), (d, dictOf [⟨PyData.keyHash w.params (Str.ofString "kind"), .str (Str.ofString "kind") t0, .str e.k t1⟩, ⟨PyData.keyHash w.params (Str.ofString "button"), .str (Str.ofString "button") t2, .int e.bt t3⟩, ⟨PyData.keyHash w.params (Str.ofString "row"), .str (Str.ofString "row") t4, .int e.r t5⟩, ⟨PyData.keyHash w.params (Str.ofString "column"), .str (Str.ofString "column") t6, .int e.c t7⟩, ⟨PyData.keyHash w.params (Str.ofString "modifiers"), .str (Str.ofString "modifiers") t8, .int e.md t9⟩] 5)] ∧ (∀ p ∈ news, p.1 < d) ∧ d < x ∧ x < D
theorem EPairR.none {w : World} {o : Option (Ev × Int)} {news : List (Addr × Obj)} (e : o = Option.none) : EPairR w o news .none [] := by subst e; exact ⟨rfl, rfl⟩
theorem EPairR.some {w : World} {o : Option (Ev × Int)} {news : List (Addr × Obj)} {k : Str} {bt r c md n : Int} {D x d : Addr} {t t0 t1 t2 t3 t4 t5 t6 t7 t8 t9 : Tok} (e : o = Option.some (⟨k, bt, r, c, md⟩, n)) (h : ∀ p ∈ news, p.1 < d) (h2 : d < x) (h3 : x < D) :
    EPairR w o news (.ref D) [(D, { cls := .type "tuple", data := .seq #[.ref x, .int n t] }), (x, instObj 105 d), (d, dictOf [⟨PyData.keyHash w.params (Str.ofString "kind"), .str (Str.ofString "kind") t0, .str k t1⟩, ⟨PyData.keyHash w.params (Str.ofString "button"), .str (Str.ofString "button") t2, .int bt t3⟩, ⟨PyData.keyHash w.params (Str.ofString "row"), .str (Str.ofString "row") t4, .int r t5⟩, ⟨PyData.keyHash w.params (Str.ofString "column"), .str (Str.ofString "column") t6, .int c t7⟩, ⟨PyData.keyHash w.params (Str.ofString "modifiers"), .str (Str.ofString "modifiers") t8, .int md t9⟩] 5)] := by
  subst e; exact ⟨D, x, d, t, t0, t1, t2, t3, t4, t5, t6, t7, t8, t9, rfl, rfl, h, h2, h3⟩
-- a plain value and nothing new
noncomputable def ValR (f : Tok → Value) (r : Value) (tl : List (Addr × Obj)) : Prop := tl = [] ∧ ∃ t, r = f t
theorem ValR.mk {f : Tok → Value} {t : Tok} {r : Value} (e : r = f t) : ValR f r [] := ⟨rfl, t, e⟩
section
variable {need : Nat} {f : Addr} {vs : List Value} {news : List (Addr × Obj)}
    {w : World} {p : Program} {loose : List Str} {mean : ExcName → Option Value} {mg mb : Str → Option Value} {dp un : Nat} {gd : Option (List Code)} {cn : Str} {cs : Scope} {a : Addr} {ccd : Value} {cl : List (Str × Addr)} {outer : List Env} {A₀ : Around} {base h₀ : Heap} {L : Addr} {m : Str → Option Value} {s : Shared}
    {Q E : Value → Shared → Prop}
theorem Con.useI {o : Option Int} (C : Con w need f vs news (IntR o))
    (B : Below A₀ base outer h₀) (F : Fr h₀ L s.heap m) (X : (hd.heap_1 w.params).In h₀) (N : News h₀ L s.heap news) (T : Top p loose mean mg mb h₀) (hk : cs.kind = .function) (hd : dp + need < recursionLimit) (hu : un + 8 * need < cLine)
    (hn : o = none → ∀ h' tk', Fr h₀ L h' m → News h₀ L h' news → Q .none { s with heap := h', toks := tk' })
    (hs : ∀ v t h' tk', o = some v → Fr h₀ L h' m → News h₀ L h' news → Q (.int v t) { s with heap := h', toks := tk' }) :
    wpAny (model P0 w) (ktrTop dp un gd cn cs L a ccd cl outer) (call (.ref f) vs) Q E s := by
  refine Con.use C B F X N T hk hd hu fun r tl h' tk' F' N' hR => ?_
  cases o with
  | none => obtain ⟨rfl, rfl⟩ := hR; exact hn rfl h' tk' F' N'
  | some v => obtain ⟨t, rfl, rfl⟩ := hR; exact hs v t h' tk' rfl F' N'
theorem Con.useIs {o : Option Int} {v : Int} (C : Con w need f vs news (IntR o)) (ho : o = some v)
    (B : Below A₀ base outer h₀) (F : Fr h₀ L s.heap m) (X : (hd.heap_1 w.params).In h₀) (N : News h₀ L s.heap news) (T : Top p loose mean mg mb h₀) (hk : cs.kind = .function) (hd : dp + need < recursionLimit) (hu : un + 8 * need < cLine)
    (hs : ∀ t h' tk', Fr h₀ L h' m → News h₀ L h' news → Q (.int v t) { s with heap := h', toks := tk' }) :
    wpAny (model P0 w) (ktrTop dp un gd cn cs L a ccd cl outer) (call (.ref f) vs) Q E s := by
  subst ho
  refine Con.use C B F X N T hk hd hu fun r tl h' tk' F' N' hR => ?_
  obtain ⟨t, rfl, rfl⟩ := hR; exact hs t h' tk' F' N'
theorem Con.useV {g : Tok → Value} (C : Con w need f vs news (ValR g))
    (B : Below A₀ base outer h₀) (F : Fr h₀ L s.heap m) (X : (hd.heap_1 w.params).In h₀) (N : News h₀ L s.heap news) (T : Top p loose mean mg mb h₀) (hk : cs.kind = .function) (hd : dp + need < recursionLimit) (hu : un + 8 * need < cLine)
    (hs : ∀ t h' tk', Fr h₀ L h' m → News h₀ L h' news → Q (g t) { s with heap := h', toks := tk' }) :
    wpAny (model P0 w) (ktrTop dp un gd cn cs L a ccd cl outer) (call (.ref f) vs) Q E s := by
  refine Con.use C B F X N T hk hd hu fun r tl h' tk' F' N' hR => ?_
  obtain ⟨rfl, t, rfl⟩ := hR; exact hs t h' tk' F' N'
theorem Con.useP {o : Option (Int × Int)} (C : Con w need f vs news (PairR o news))
    (B : Below A₀ base outer h₀) (F : Fr h₀ L s.heap m) (X : (hd.heap_1 w.params).In h₀) (N : News h₀ L s.heap news) (T : Top p loose mean mg mb h₀) (hk : cs.kind = .function) (hd : dp + need < recursionLimit) (hu : un + 8 * need < cLine)
    (hn : o = none → ∀ h' tk', Fr h₀ L h' m → News h₀ L h' news → Q .none { s with heap := h', toks := tk' })
    (hs : ∀ v n D t1 t2 h' tk', o = some (v, n) → (∀ p ∈ news, p.1 < D) → Fr h₀ L h' m → News h₀ L h' ((D, { cls := .type "tuple", data := .seq #[.int v t1, .int n t2] }) :: news) → Q (.ref D) { s with heap := h', toks := tk' }) :
    wpAny (model P0 w) (ktrTop dp un gd cn cs L a ccd cl outer) (call (.ref f) vs) Q E s := by
  refine Con.use C B F X N T hk hd hu fun r tl h' tk' F' N' hR => ?_
  rcases o with _ | ⟨v, n⟩
  · obtain ⟨rfl, rfl⟩ := hR; exact hn rfl h' tk' F' N'
  · obtain ⟨D, t1, t2, rfl, rfl, l⟩ := hR; exact hs v n D t1 t2 h' tk' rfl l F' N'
theorem Con.useE {o : Option Ev} (C : Con w need f vs news (EvR w o news))
    (B : Below A₀ base outer h₀) (F : Fr h₀ L s.heap m) (X : (hd.heap_1 w.params).In h₀) (N : News h₀ L s.heap news) (T : Top p loose mean mg mb h₀) (hk : cs.kind = .function) (hd : dp + need < recursionLimit) (hu : un + 8 * need < cLine)
    (hn : o = none → ∀ h' tk', Fr h₀ L h' m → News h₀ L h' news → Q .none { s with heap := h', toks := tk' })
    (hs : ∀ k bt r c md x d t0 t1 t2 t3 t4 t5 t6 t7 t8 t9 h' tk', o = some ⟨k, bt, r, c, md⟩ → (∀ p ∈ news, p.1 < d) → d < x → Fr h₀ L h' m → News h₀ L h' ((x, instObj 105 d) :: (d, dictOf [⟨PyData.keyHash w.params (Str.ofString "kind"), .str (Str.ofString "kind") t0, .str k t1⟩, ⟨PyData.keyHash w.params (Str.ofString "button"), .str (Str.ofString "button") t2, .int bt t3⟩, ⟨PyData.keyHash w.params (Str.ofString "row"), .str (Str.ofString "row") t4, .int r t5⟩, ⟨PyData.keyHash w.params (Str.ofString "column"), .str (Str.ofString "column") t6, .int c t7⟩, ⟨PyData.keyHash w.params (Str.ofString "modifiers"), .str (Str.ofString "modifiers") t8, .int md t9⟩] 5) :: news) → Q (.ref x) { s with heap := h', toks := tk' }) :
    wpAny (model P0 w) (ktrTop dp un gd cn cs L a ccd cl outer) (call (.ref f) vs) Q E s := by
  refine Con.use C B F X N T hk hd hu fun r tl h' tk' F' N' hR => ?_
  rcases o with _ | ⟨k, bt, r, c, md⟩
  · obtain ⟨rfl, rfl⟩ := hR; exact hn rfl h' tk' F' N'
  · obtain ⟨x, d, t0, t1, t2, t3, t4, t5, t6, t7, t8, t9, rfl, rfl, l1, l2⟩ := hR; exact hs _ _ _ _ _ x d _ _ _ _ _ _ _ _ _ _ h' tk' rfl l1 l2 F' N'
theorem Con.useF {o : Option (Ev × Int)} (C : Con w need f vs news (EPairR w o news))
    (B : Below A₀ base outer h₀) (F : Fr h₀ L s.heap m) (X : (hd.heap_1 w.params).In h₀) (N : News h₀ L s.heap news) (T : Top p loose mean mg mb h₀) (hk : cs.kind = .function) (hd : dp + need < recursionLimit) (hu : un + 8 * need < cLine)
    (hn : o = none → ∀ h' tk', Fr h₀ L h' m → News h₀ L h' news → Q .none { s with heap := h', toks := tk' })
    (hs : ∀ k bt r c md n D x d t t0 t1 t2 t3 t4 t5 t6 t7 t8 t9 h' tk', o = some (⟨k, bt, r, c, md⟩, n) → (∀ p ∈ news, p.1 < d) → d < x → x < D → Fr h₀ L h' m → News h₀ L h' ((D, { cls := .type "tuple", data := .seq #[.ref x, .int n t] }) :: (x, instObj 105 d) :: (d, dictOf [⟨PyData.keyHash w.params (Str.ofString "kind"), .str (Str.ofString "kind") t0, .str k t1⟩, ⟨PyData.keyHash w.params (Str.ofString "button"), .str (Str.ofString "button") t2, .int bt t3⟩, ⟨PyData.keyHash w.params (Str.ofString "row"), .str (Str.ofString "row") t4, .int r t5⟩, ⟨PyData.keyHash w.params (Str.ofString "column"), .str (Str.ofString "column") t6, .int c t7⟩, ⟨PyData.keyHash w.params (Str.ofString "modifiers"), .str (Str.ofString "modifiers") t8, .int md t9⟩] 5) :: news) → Q (.ref D) { s with heap := h', toks := tk' }) :
    wpAny (model P0 w) (ktrTop dp un gd cn cs L a ccd cl outer) (call (.ref f) vs) Q E s := by
  refine Con.use C B F X N T hk hd hu fun r tl h' tk' F' N' hR => ?_
  rcases o with _ | ⟨⟨k, bt, r, c, md⟩, n⟩
  · obtain ⟨rfl, rfl⟩ := hR; exact hn rfl h' tk' F' N'
  · obtain ⟨D, x, d, t, t0, t1, t2, t3, t4, t5, t6, t7, t8, t9, rfl, rfl, l1, l2, l3⟩ := hR; exact hs _ _ _ _ _ n D x d t _ _ _ _ _ _ _ _ _ _ h' tk' rfl l1 l2 l3 F' N'
end
theorem cb_mid1 {a g : Addr × Obj} {news : List (Addr × Obj)} : ∀ p ∈ [a] ++ news, p ∈ a :: g :: news := fun p hp => by
  cases hp with
  | head => exact .head _
  | tail _ hp => exact .tail _ (.tail _ hp)
theorem cb_mid2 {a b g : Addr × Obj} {news : List (Addr × Obj)} : ∀ p ∈ [a, b] ++ news, p ∈ a :: b :: g :: news := fun p hp => by
  cases hp with
  | head => exact .head _
  | tail _ hp => cases hp with
    | head => exact .tail _ (.head _)
    | tail _ hp => exact .tail _ (.tail _ (.tail _ hp))
theorem ltAll {d : Nat} : ∀ {l : List (Addr × Obj)}, AllLt d l → ∀ p ∈ l, p.1 < d
  | [], _, _, h => nomatch h
  | q :: r, h, p, hp => by
    cases hp with
    | head => exact h.1
    | tail _ hp => exact ltAll h.2 p hp
-- a turn of a written range ends; the newest object is dropped, what stood ahead of the loop goes on
theorem unrD {h₀ : Heap} {L I : Addr} {it : Obj} {rest : (Str → Option Value) → List (Addr × Obj) → Prop} {s₁ : Shared} {h' : Heap} {tk : Nat} {m' : Str → Option Value} {g : Addr × Obj} {post : List (Addr × Obj)} (F : Fr h₀ L h' m')
    (N : News h₀ L h' (g :: (I, it) :: post)) (lt : AllLt I post) (r : rest m' post) : UnrEnd h₀ L s₁ I it rest { s₁ with heap := h', toks := tk } :=
  UnrEnd.intro F N post (fun _ hp => .tail _ hp) (fun p hp => Nat.ne_of_lt (ltAll lt p hp)) r
theorem cb_mid3 {a b c g : Addr × Obj} {news : List (Addr × Obj)} : ∀ p ∈ [a, b, c] ++ news, p ∈ a :: b :: c :: g :: news := fun p hp => by
  cases hp with
  | head => exact .head _
  | tail _ hp => exact .tail _ (cb_mid2 p hp)
theorem cb_t1 {a : Addr × Obj} {news : List (Addr × Obj)} : ∀ p ∈ news, p ∈ a :: news := fun _ => .tail _
theorem cb_t2 {a b : Addr × Obj} {news : List (Addr × Obj)} : ∀ p ∈ news, p ∈ a :: b :: news := fun _ h => .tail _ (.tail _ h)
theorem cb_t3 {a b c : Addr × Obj} {news : List (Addr × Obj)} : ∀ p ∈ news, p ∈ a :: b :: c :: news := fun _ h => .tail _ (.tail _ (.tail _ h))
theorem cb_t4 {a b c d : Addr × Obj} {news : List (Addr × Obj)} : ∀ p ∈ news, p ∈ a :: b :: c :: d :: news := fun _ h => .tail _ (.tail _ (.tail _ (.tail _ h)))
theorem cb_t5 {a b c d e : Addr × Obj} {news : List (Addr × Obj)} : ∀ p ∈ news, p ∈ a :: b :: c :: d :: e :: news := fun _ h => .tail _ (.tail _ (.tail _ (.tail _ (.tail _ h))))
theorem cb_mid3b {a b c g h : Addr × Obj} {news : List (Addr × Obj)} : ∀ p ∈ [a, b, c] ++ news, p ∈ a :: b :: c :: g :: h :: news := fun p hp => by
  cases hp with
  | head => exact .head _
  | tail _ hp => cases hp with
    | head => exact .tail _ (.head _)
    | tail _ hp => cases hp with
      | head => exact .tail _ (.tail _ (.head _))
      | tail _ hp => exact .tail _ (.tail _ (.tail _ (.tail _ (.tail _ hp))))
-- the names of a call of the def at f, whatever is left to its defaults
noncomputable def Bds (w : World) (f : Addr) (vs : List Value) (bs : List (Str × Value)) : Prop := ∀ (s : Shared) (fd : FuncData) (oc : Value) (od : Option Addr) (osl : Array (Option Value)), (hd.heap_1 w.params).lookup f = some ⟨oc, od, .func fd, osl⟩ → (hd.heap_1 w.params).In s.heap → BindsTo s fd ⟨vs, []⟩ bs
theorem bds_eq {s : Shared} {fd : FuncData} {args : Args} {bs' bs : List (Str × Value)} (h : BindsTo s fd args bs') (e : bs' = bs) : BindsTo s fd args bs := e ▸ h
theorem bds_of {w : World} {f : Addr} {vs : List Value} {bs : List (Str × Value)} {oc : Value} {od : Option Addr} {fd : FuncData} {osl : Array (Option Value)} (hk : (hd.heap_1 w.params).lookup f = some ⟨oc, od, .func fd, osl⟩)
    (h : ∀ s : Shared, (hd.heap_1 w.params).In s.heap → BindsTo s fd ⟨vs, []⟩ bs) : Bds w f vs bs := fun s fd' oc' od' osl' hk' X => by
  rw [hk] at hk'
  cases hk'
  exact h s X
-- a goal kept back from the walk
noncomputable def Hold (P : Prop) : Prop := P
theorem hold_in {P : Prop} (h : Hold P) : P := h
section
variable {need : Nat} {f : Addr} {vs : List Value} {news : List (Addr × Obj)}
    {w : World} {p : Program} {loose : List Str} {mean : ExcName → Option Value} {mg mb : Str → Option Value} {dp un : Nat} {gd : Option (List Code)} {cn : Str} {cs : Scope} {a : Addr} {ccd : Value} {cl : List (Str × Addr)} {outer : List Env} {A₀ : Around} {base h₀ : Heap} {L : Addr} {m : Str → Option Value} {s : Shared}
    {Q E : Value → Shared → Prop}
theorem Con.useVb {b v : Bool} (C : Con w need f vs news (ValR fun _ => .bool b)) (ho : b = v)
    (B : Below A₀ base outer h₀) (F : Fr h₀ L s.heap m) (X : (hd.heap_1 w.params).In h₀) (N : News h₀ L s.heap news) (T : Top p loose mean mg mb h₀) (hk : cs.kind = .function) (hd : dp + need < recursionLimit) (hu : un + 8 * need < cLine)
    (hs : ∀ h' tk', Fr h₀ L h' m → News h₀ L h' news → Q (.bool v) { s with heap := h', toks := tk' }) :
    wpAny (model P0 w) (ktrTop dp un gd cn cs L a ccd cl outer) (call (.ref f) vs) Q E s := by
  subst ho
  exact Con.useV C B F X N T hk hd hu fun t h' tk' F' N' => hs h' tk' F' N'
end
noncomputable def CutMark (n : Nat) : Prop := n = n


-- code_at
theorem rows_code_at : True := by
  w_top off
  k_with_none
  k_with "kba_ints2" => first | kba_ints | (apply ints_lit; (simp only [List.map_cons, List.map_nil, UInt8.reduceToNat, Int.cast_ofNat_Int]); (try exact rfl))
  k_with "compareOp Eq bytes bytes" => (k_here; (with_reducible show wpAny _ _ (compareOp CmpOp.Eq (Value.bytes _ _) (Value.bytes _ _)) _ _ _); (first | refine eq_ints_T (by kba_ints2) (by kba_ints2) (by assumption) ?_ | refine eq_ints_F (by kba_ints2) (by kba_ints2) (by assumption) ?_ | refine eq_ints (by kba_ints2) (by kba_ints2) ?_))
  k_with "compareOp NotEq bytes bytes" => (k_here; (with_reducible show wpAny _ _ (compareOp CmpOp.NotEq (Value.bytes _ _) (Value.bytes _ _)) _ _ _); (refine ne_ints (by kba_ints2) (by kba_ints2) ?_))
  k_with "compareOp NotIn bytes ref" => (k_here; (with_reducible show wpAny _ _ (compareOp CmpOp.NotIn (Value.bytes _ _) (Value.ref _)) _ _ _); (refine notIn_two (by k_asm) (by k_mem) (by kba_ints2) (by kba_ints2) (by kba_ints2) ?_))
  k_with "subscriptTail" => (k_here; (with_reducible show wpAny _ _ (subscriptTail _ (Expr.Slice _ _ none _) (Value.bytes _ _) (Value.ref _)) _ _ _); (with_reducible rename Fr _ _ _ _ => F'); (with_reducible rename News _ _ _ _ => N'); (refine slice_C (s := ⟨_, _, _, _, _⟩) F' N' (by kba_ints2) (by constructor) (by constructor) (by kba_size) (by intro i hi; simp at hi; try (subst hi; omega)) (by intro i hi; simp at hi; try (subst hi; omega)) (by first | exact cut_z3 | exact cut_z2 | exact cut_z | exact cut_mid3 (by omega) | exact cut_mid2 (by omega) | exact cut_lit3 | exact cut_lit2 | exact cut_lit3' | exact cut_lit2' | exact cut_two | exact cut_tail | exact cut_head') ?_); intro _ _ _ _ _ _ kbcK; (try simp only [Int.toNat_zero, Int.toNat_ofNat, List.drop_zero] at kbcK))
  k_with "ktr_room" => first | exact room9 (by assumption) rfl | exact Nat.lt_of_le_of_lt (Nat.le_add_right _ _) (by assumption)
  k_with "ktr_units" => exact units9 (by assumption) rfl
  k_with "getMethod bytes" => (k_here; first | refine meth_starts ?_ | refine meth_split ?_ | refine meth_join ?_)
  k_with "call builtin:bytes.startswith" => (k_here; first | refine call_starts_T (by kba_ints2) (by kba_ints2) (by assumption) ?_ | refine call_starts_F (by kba_ints2) (by kba_ints2) (by assumption) ?_ | refine call_starts_I (by kba_ints2) (by kba_ints2) ?_)
  k_with "CompEnd" => (refine LCg.CompEnd.intro (by assumption) (by assumption) _ (fun _ h => h) (by assumption) (by exact Or.inr ⟨_, by k_mem, rfl, _, rfl⟩) ?_)
  k_with "call type:bytes" => (k_here; (with_reducible show wpAny _ _ (call (Value.type "bytes") [Value.ref _]) _ _ _); (refine' KBa.make_K ?kbaF ?kbaN ?kbah ?kbal ?kbai ?kbar ?kban ?_; (case kbaF => k_asm); (case kbaN => k_asm); (case kbah => rfl); (case kbal => kba_isList); (case kbai => kba_listInts); (case kbar => (repeat' (first | exact List.forall_mem_nil _ | (refine List.forall_mem_cons.mpr ⟨⟨?_, ?_⟩, ?_⟩) | omega | (simp only [fd10, fm10]; omega)))); (case kban => kba_size)); intro _ _ _ F' N' kbaIn; (have kbaM := KBa.ints_make kbaIn))
  k_with "cell_enter" => (refine' code_defC ?k1 ?k2 ?k3 ?k4 ?k5 ?kA ?kF ?kK ?k6 ?k7 ?k8 ?k9 ?kB ?kD ?_ ?c2 ?c3 ?c4; (case kA => exact rfl); (case kF => exact rfl); (case kK => first | exact rfl | assumption); (case k1 => k_asm); (case k2 => k_asm); (case k3 => k_asm); (case k4 => k_asm); (case k5 => k_asm); (case k6 => k_is); (case k7 => k_is); (case k8 => ktr_room); (case k9 => first | exact BindsTo.of_eq rfl | exact binds_K (by k_in) rfl (by k_is) rfl rfl rfl); (case kB => exact rfl); (case kD => decide +kernel); (case c2 => exact rfl); (case c3 => exact rfl); (case c4 => exact rfl); k_whole; intro g' L' h' tk' cells' FG' F' N' Y' B' X' T' l1; (try k_lt l1); k_cells Y'; (try simp only [List.cons_append, List.nil_append] at N'); (try dsimp only); (try k_lift B'); (try k_fold))
  k_with "call builtin:bytes.join" => (k_here; refine call_join_I (by k_asm) (by k_mem) rfl rfl (by kba_ints2) (by kba_ints2) (by kba_ints2) (by kba_ints2) (by first | assumption | decide) (by first | assumption | decide) (by first | assumption | decide) (by first | assumption | decide) ?_; intro _ _ _ kbJ; (try simp only [List.append_nil] at kbJ))
  k_with "units_room" => exact room_deep (by omega)
  k_with "cell_enter" => (refine' code_def ?k1 ?k2 ?k3 ?k4 ?k5 ?kA ?kF ?kK ?k6 ?k7 ?k8 ?k9 ?kB ?_ ?c2 ?c3 ?c4 ?c5; (case kA => exact rfl); (case kF => exact rfl); (case kK => first | exact rfl | assumption); (case k1 => k_asm); (case k2 => k_asm); (case k3 => k_asm); (case k4 => k_asm); (case k5 => k_asm); (case k6 => k_is); (case k7 => k_is); (case k8 => ktr_room); (case k9 => exact binds_K (by k_in) rfl (by k_is) rfl rfl rfl); (case c5 => decide); (case kB => exact locs rfl); (case c2 => exact rfl); (case c3 => exact rfl); (case c4 => exact rfl); k_whole; intro g' L' h' FG' F' N' B' X' T'; (try dsimp only); (try k_fold))
  k_with "walk1" => ((first | with_reducible show wpAny _ _ (exec _ _) _ _ _ | with_reducible show wpAny _ _ (isTrue _ _ _) _ _ _); k_fold)
  trivial
noncomputable def code8 (ks : List Int) (i : Int) (u : Bool) : Option (Int × Int) :=
  if (ks.length : Int) ≤ i then none else
  if u = false ∨ ks.getD i.toNat 0 < 128 then some (ks.getD i.toNat 0, i + 1) else
  if ¬ (194 ≤ ks.getD i.toNat 0 ∧ ks.getD i.toNat 0 ≤ 223) ∨ (ks.length : Int) ≤ i + 1 ∨ bitAnd (ks.getD (i + 1).toNat 0) 192 ≠ 128 then none
  else some (bitOr (bitAnd (ks.getD i.toNat 0) 31 * 2 ^ Int.toNat 6) (bitAnd (ks.getD (i + 1).toNat 0) 63), i + 2)
section
variable {ks : List Int} {i : Int} {u : Bool}
theorem code8_a (h : (ks.length : Int) ≤ i) : code8 ks i u = none := if_pos h
theorem code8_b (h : ¬ (ks.length : Int) ≤ i) (hu : u = false) : code8 ks i u = some (ks.getD i.toNat 0, i + 1) := (if_neg h).trans (if_pos (.inl hu))
theorem code8_c (h : ¬ (ks.length : Int) ≤ i) (hu : ks.getD i.toNat 0 < 128) : code8 ks i u = some (ks.getD i.toNat 0, i + 1) := (if_neg h).trans (if_pos (.inr hu))
theorem code8_d (h : ¬ (ks.length : Int) ≤ i) (hu : u = true) (h1 : ¬ ks.getD i.toNat 0 < 128) (h2 : ¬ (194 ≤ ks.getD i.toNat 0 ∧ ks.getD i.toNat 0 ≤ 223) ∨ (ks.length : Int) ≤ i + 1 ∨ bitAnd (ks.getD (i + 1).toNat 0) 192 ≠ 128) : code8 ks i u = none :=
  (if_neg h).trans ((if_neg (fun x => x.elim (fun y => by rw [hu] at y; cases y) h1)).trans (if_pos h2))
theorem code8_e (h : ¬ (ks.length : Int) ≤ i) (hu : u = true) (h1 : ¬ ks.getD i.toNat 0 < 128) (h2 : 194 ≤ ks.getD i.toNat 0) (h3 : ks.getD i.toNat 0 ≤ 223) (h4 : ¬ (ks.length : Int) ≤ i + 1) (h5 : bitAnd (ks.getD (i + 1).toNat 0) 192 = 128) :
    code8 ks i u = some (bitOr (bitAnd (ks.getD i.toNat 0) 31 * 2 ^ Int.toNat 6) (bitAnd (ks.getD (i + 1).toNat 0) 63), i + 2) :=
  (if_neg h).trans ((if_neg (fun x => x.elim (fun y => by rw [hu] at y; cases y) h1)).trans (if_neg (fun x => x.elim (fun y => y ⟨h2, h3⟩) fun y => y.elim h4 fun z => z h5)))
theorem bitOr_low {a b : Int} (ha : 0 ≤ a) (ha' : a ≤ 31) (hb : 0 ≤ b) (hb' : b ≤ 63) : 0 ≤ bitOr (a * 2 ^ Int.toNat 6) b ∧ bitOr (a * 2 ^ Int.toNat 6) b ≤ 2047 := by
  have e : (a * 2 ^ Int.toNat 6 : Int) = ((a.toNat * 64 : Nat) : Int) := by
    have h6 : (2 : Int) ^ Int.toNat 6 = 64 := by decide
    rw [h6]; omega
  have ho := bitOr_and (a * 2 ^ Int.toNat 6) b
  rw [bitAnd_pp (by rw [e]; omega) hb, e, Int.toNat_natCast] at ho
  have h1 := nat_or_add_and (a.toNat * 64) b.toNat
  have h := Nat.or_lt_two_pow (n := 11) (x := a.toNat * 64) (y := b.toNat) (by omega) (by omega)
  rw [e]
  have h2 : (b.toNat : Int) = b := Int.toNat_of_nonneg hb
  omega
theorem code8_bd {b : Array UInt8} {v n : Int} (hb : KBw.bInts b = ks) (h0 : 0 ≤ i) (e : code8 ks i u = some (v, n)) : 0 ≤ v ∧ v ≤ 2047 ∧ i + 1 ≤ n ∧ n ≤ i + 2 ∧ n ≤ ks.length := by
  have rng : ∀ j : Nat, 0 ≤ ks.getD j 0 ∧ ks.getD j 0 < 256 := fun j => by
    rw [List.getD_eq_getElem?_getD]
    cases hj : ks[j]? with
    | none => exact ⟨Int.le_refl _, by decide⟩
    | some x => exact KBw.ints_in (b := b) (by rw [hb]; exact List.mem_of_getElem? hj)
  have r1 := rng i.toNat
  unfold code8 at e
  split at e
  · cases e
  · split at e
    · cases e
      omega
    · split at e
      · cases e
      · cases e
        have h5 := land31 (ks.getD i.toNat 0)
        have h6 : 0 ≤ bitAnd (ks.getD (i + 1).toNat 0) 63 ∧ bitAnd (ks.getD (i + 1).toNat 0) 63 ≤ 63 := by
          rw [show bitAnd (ks.getD (i + 1).toNat 0) 63 = _ from kbt_mask _ 6]
          omega
        have h7 := bitOr_low h5.1 h5.2 h6.1 h6.2
        omega
end
set_option maxRecDepth 100000 in
set_option maxHeartbeats 8000000 in
theorem con_code_at (w : World) (b : Array UInt8) (tb : Tok) (ks : List Int) (i : Int) (ti : Tok) (u : Bool) (hb : KBw.bInts b = ks) (h0 : 0 ≤ i) (hl : ks.length ≤ 1000) (news) :
   Con w 1 183 [.bytes b tb, .int i ti, .bool u] news (PairR (code8 ks i u) news) := by
  unfold Con
  intro p loose mean mg mb dp un gd cn cs a ccd cl outer A₀ base h₀ L m s Q E B F X N T hk hd hu hret
  obtain ⟨sh, sg, sd, st, so⟩ := s
  have hs := land31 (ks.getD i.toNat 0)
  refine wpAny_call ?_
  k_dflt cell_enter
  k_steps
  all_goals first
    | refine hret _ [] _ _ (by assumption) (by assumption) (PairR.none ?_)
    | refine hret _ [_] _ _ (by assumption) (by assumption) (PairR.some ?_ (by assumption))
  all_goals first
    | exact code8_a (by assumption)
    | exact code8_b (by assumption) (by assumption)
    | exact code8_c (by assumption) (by assumption)
    | exact code8_e (by assumption) (by assumption) (by assumption) (by assumption) (by assumption) (by assumption) (by assumption)
    | exact code8_d (by assumption) (by assumption) (by assumption) (.inr (.inl (by assumption)))
    | exact code8_d (by assumption) (by assumption) (by assumption) (.inr (.inr (by assumption)))
    | exact code8_d (by assumption) (by assumption) (by assumption) (.inl (by omega))


-- number_of
theorem rows_number_of : True := by
  w_top off
  k_with_none
  k_with "kba_ints2" => first | kba_ints | (apply ints_lit; (simp only [List.map_cons, List.map_nil, UInt8.reduceToNat, Int.cast_ofNat_Int]); (try exact rfl))
  k_with "compareOp Eq bytes bytes" => (k_here; (with_reducible show wpAny _ _ (compareOp CmpOp.Eq (Value.bytes _ _) (Value.bytes _ _)) _ _ _); (first | refine eq_ints_T (by kba_ints2) (by kba_ints2) (by assumption) ?_ | refine eq_ints_F (by kba_ints2) (by kba_ints2) (by assumption) ?_ | refine eq_ints (by kba_ints2) (by kba_ints2) ?_))
  k_with "compareOp NotEq bytes bytes" => (k_here; (with_reducible show wpAny _ _ (compareOp CmpOp.NotEq (Value.bytes _ _) (Value.bytes _ _)) _ _ _); (refine ne_ints (by kba_ints2) (by kba_ints2) ?_))
  k_with "compareOp NotIn bytes ref" => (k_here; (with_reducible show wpAny _ _ (compareOp CmpOp.NotIn (Value.bytes _ _) (Value.ref _)) _ _ _); (refine notIn_two (by k_asm) (by k_mem) (by kba_ints2) (by kba_ints2) (by kba_ints2) ?_))
  k_with "subscriptTail" => (k_here; (with_reducible show wpAny _ _ (subscriptTail _ (Expr.Slice _ _ none _) (Value.bytes _ _) (Value.ref _)) _ _ _); (with_reducible rename Fr _ _ _ _ => F'); (with_reducible rename News _ _ _ _ => N'); (refine slice_C (s := ⟨_, _, _, _, _⟩) F' N' (by kba_ints2) (by constructor) (by constructor) (by kba_size) (by intro i hi; simp at hi; try (subst hi; omega)) (by intro i hi; simp at hi; try (subst hi; omega)) (by first | exact cut_z3 | exact cut_z2 | exact cut_z | exact cut_mid3 (by omega) | exact cut_mid2 (by omega) | exact cut_lit3 | exact cut_lit2 | exact cut_lit3' | exact cut_lit2' | exact cut_two | exact cut_tail | exact cut_head') ?_); intro _ _ _ _ _ _ kbcK; (try simp only [Int.toNat_zero, Int.toNat_ofNat, List.drop_zero] at kbcK))
  k_with "ktr_room" => first | exact room9 (by assumption) rfl | exact Nat.lt_of_le_of_lt (Nat.le_add_right _ _) (by assumption)
  k_with "ktr_units" => exact units9 (by assumption) rfl
  k_with "getMethod bytes" => (k_here; first | refine meth_starts ?_ | refine meth_split ?_ | refine meth_join ?_)
  k_with "call builtin:bytes.startswith" => (k_here; first | refine call_starts_T (by kba_ints2) (by kba_ints2) (by assumption) ?_ | refine call_starts_F (by kba_ints2) (by kba_ints2) (by assumption) ?_ | refine call_starts_I (by kba_ints2) (by kba_ints2) ?_)
  k_with "CompEnd" => (refine LCg.CompEnd.intro (by assumption) (by assumption) _ (fun _ h => h) (by assumption) (by exact Or.inr ⟨_, by k_mem, rfl, _, rfl⟩) ?_)
  k_with "call type:bytes" => (k_here; (with_reducible show wpAny _ _ (call (Value.type "bytes") [Value.ref _]) _ _ _); (refine' KBa.make_K ?kbaF ?kbaN ?kbah ?kbal ?kbai ?kbar ?kban ?_; (case kbaF => k_asm); (case kbaN => k_asm); (case kbah => rfl); (case kbal => kba_isList); (case kbai => kba_listInts); (case kbar => (repeat' (first | exact List.forall_mem_nil _ | (refine List.forall_mem_cons.mpr ⟨⟨?_, ?_⟩, ?_⟩) | omega | (simp only [fd10, fm10]; omega)))); (case kban => kba_size)); intro _ _ _ F' N' kbaIn; (have kbaM := KBa.ints_make kbaIn))
  k_with "cell_enter" => (refine' code_defC ?k1 ?k2 ?k3 ?k4 ?k5 ?kA ?kF ?kK ?k6 ?k7 ?k8 ?k9 ?kB ?kD ?_ ?c2 ?c3 ?c4; (case kA => exact rfl); (case kF => exact rfl); (case kK => first | exact rfl | assumption); (case k1 => k_asm); (case k2 => k_asm); (case k3 => k_asm); (case k4 => k_asm); (case k5 => k_asm); (case k6 => k_is); (case k7 => k_is); (case k8 => ktr_room); (case k9 => first | exact BindsTo.of_eq rfl | exact binds_K (by k_in) rfl (by k_is) rfl rfl rfl); (case kB => exact rfl); (case kD => decide +kernel); (case c2 => exact rfl); (case c3 => exact rfl); (case c4 => exact rfl); k_whole; intro g' L' h' tk' cells' FG' F' N' Y' B' X' T' l1; (try k_lt l1); k_cells Y'; (try simp only [List.cons_append, List.nil_append] at N'); (try dsimp only); (try k_lift B'); (try k_fold))
  k_with "call builtin:bytes.join" => (k_here; refine call_join_I (by k_asm) (by k_mem) rfl rfl (by kba_ints2) (by kba_ints2) (by kba_ints2) (by kba_ints2) (by first | assumption | decide) (by first | assumption | decide) (by first | assumption | decide) (by first | assumption | decide) ?_; intro _ _ _ kbJ; (try simp only [List.append_nil] at kbJ))
  k_with "units_room" => exact room_deep (by omega)
  k_with "cell_enter" => (refine' code_def ?k1 ?k2 ?k3 ?k4 ?k5 ?kA ?kF ?kK ?k6 ?k7 ?k8 ?k9 ?kB ?_ ?c2 ?c3 ?c4 ?c5; (case kA => exact rfl); (case kF => exact rfl); (case kK => first | exact rfl | assumption); (case k1 => k_asm); (case k2 => k_asm); (case k3 => k_asm); (case k4 => k_asm); (case k5 => k_asm); (case k6 => k_is); (case k7 => k_is); (case k8 => ktr_room); (case k9 => exact binds_K (by k_in) rfl (by k_is) rfl rfl rfl); (case c5 => decide); (case kB => exact locs rfl); (case c2 => exact rfl); (case c3 => exact rfl); (case c4 => exact rfl); k_whole; intro g' L' h' FG' F' N' B' X' T'; (try dsimp only); (try k_fold))
  k_with "walk1" => ((first | with_reducible show wpAny _ _ (exec _ _) _ _ _ | with_reducible show wpAny _ _ (isTrue _ _ _) _ _ _); k_fold)
  trivial
noncomputable def numF (ks : List Int) : Int := ks.foldl (fun a n => 10 * a + n - 48) 0
noncomputable abbrev allD (ks : List Int) : Prop := ∀ n ∈ ks, 48 ≤ n ∧ n ≤ 57
theorem numF_snoc (pre : List Int) (n : Int) : numF (pre ++ [n]) = 10 * numF pre + n - 48 := by simp [numF]
theorem allD_snoc {pre : List Int} {n : Int} (h : allD pre) (h1 : 48 ≤ n) (h2 : n ≤ 57) : allD (pre ++ [n]) := fun k hk => (List.mem_append.mp hk).elim (h k) fun e => by
  rw [List.mem_singleton.mp e]; exact ⟨h1, h2⟩
noncomputable def numOf (ks : List Int) : Option Int := if ks ≠ [] ∧ allD ks then some (numF ks) else none
-- what holds between the turns
noncomputable def NumW (pre : List Int) (n : Int) : Prop := allD pre ∧ n = numF pre ∧ 0 ≤ n ∧ n ≤ 999 ∧ (pre.length = 0 → n ≤ 0) ∧ (pre.length = 1 → n ≤ 9) ∧ (pre.length = 2 → n ≤ 99)
theorem numW_nil : NumW [] 0 := ⟨fun _ h => (nomatch h), rfl, by omega, by omega, fun _ => by omega, fun _ => by omega, fun _ => by omega⟩
theorem numW_snoc {pre : List Int} {a n : Int} (h : NumW pre a) (hl : pre.length < 3) (h1 : 48 ≤ n) (h2 : n ≤ 57) : NumW (pre ++ [n]) (10 * a + n - 48) := by
  obtain ⟨p1, p2, p3, p4, p5, p6, p7⟩ := h
  have e : (pre ++ [n]).length = pre.length + 1 := by simp
  refine ⟨allD_snoc p1 h1 h2, by rw [numF_snoc, p2], ?_, ?_, ?_, ?_, ?_⟩ <;> (try rw [e]) <;> omega
theorem numOf_a {ks : List Int} (h : (ks.length : Int) = 0) : numOf ks = none := if_neg fun x => x.1 (List.eq_nil_of_length_eq_zero (by omega))
theorem numOf_b {ks pre post : List Int} {n : Int} (e : ks = pre ++ n :: post) (h : ¬ (48 ≤ n ∧ n ≤ 57)) : numOf ks = none := if_neg fun x => h (x.2 n (by rw [e]; simp))
theorem numOf_c {ks : List Int} {n : Int} (h : (ks.length : Int) ≠ 0) (hw : NumW ks n) : numOf ks = some n := by
  unfold numOf
  rw [if_pos ⟨fun x => h (by rw [x]; rfl), hw.1⟩, hw.2.1]
set_option maxRecDepth 100000 in
set_option maxHeartbeats 8000000 in
theorem con_number_of (w : World) (b : Array UInt8) (tb : Tok) (ks : List Int) (hb : KBw.bInts b = ks) (hl : ks.length ≤ 3) (news) :
   Con w 1 28 [.bytes b tb] news (IntR (numOf ks)) := by
  unfold Con
  intro p loose mean mg mb dp un gd cn cs a ccd cl outer A₀ base h₀ L m s Q E B F X N T hk hd hu hret
  obtain ⟨sh, sg, sd, st, so⟩ := s
  refine wpAny_call ?_
  k_dflt cell_enter
  k_with "pyIter bytes" => k_state (fun pre n => NumW pre n) "number"
  k_with "state" => first | exact numW_nil | exact numW_snoc (by assumption) (by omega) (by assumption) (by assumption)
  k_steps
  all_goals first
    | refine hret _ [] _ _ (by assumption) (by first | assumption | exact cb_drop (by assumption) fun _ => List.mem_append_left _) (IntR.none ?_)
    | refine hret _ [] _ _ (by assumption) (by first | assumption | exact cb_drop (by assumption) fun _ => List.mem_append_left _) (IntR.some ?_)
  all_goals first
    | exact numOf_a (by assumption)
    | exact numOf_b (by assumption) (by omega)
    | exact numOf_c (by assumption) (by assumption)


-- is_wheel
theorem rows_is_wheel : True := by
  w_top off
  k_with_none
  k_with "kba_ints2" => first | kba_ints | (apply ints_lit; (simp only [List.map_cons, List.map_nil, UInt8.reduceToNat, Int.cast_ofNat_Int]); (try exact rfl))
  k_with "compareOp Eq bytes bytes" => (k_here; (with_reducible show wpAny _ _ (compareOp CmpOp.Eq (Value.bytes _ _) (Value.bytes _ _)) _ _ _); (first | refine eq_ints_T (by kba_ints2) (by kba_ints2) (by assumption) ?_ | refine eq_ints_F (by kba_ints2) (by kba_ints2) (by assumption) ?_ | refine eq_ints (by kba_ints2) (by kba_ints2) ?_))
  k_with "compareOp NotEq bytes bytes" => (k_here; (with_reducible show wpAny _ _ (compareOp CmpOp.NotEq (Value.bytes _ _) (Value.bytes _ _)) _ _ _); (refine ne_ints (by kba_ints2) (by kba_ints2) ?_))
  k_with "compareOp NotIn bytes ref" => (k_here; (with_reducible show wpAny _ _ (compareOp CmpOp.NotIn (Value.bytes _ _) (Value.ref _)) _ _ _); (refine notIn_two (by k_asm) (by k_mem) (by kba_ints2) (by kba_ints2) (by kba_ints2) ?_))
  k_with "subscriptTail" => (k_here; (with_reducible show wpAny _ _ (subscriptTail _ (Expr.Slice _ _ none _) (Value.bytes _ _) (Value.ref _)) _ _ _); (with_reducible rename Fr _ _ _ _ => F'); (with_reducible rename News _ _ _ _ => N'); (refine slice_C (s := ⟨_, _, _, _, _⟩) F' N' (by kba_ints2) (by constructor) (by constructor) (by kba_size) (by intro i hi; simp at hi; try (subst hi; omega)) (by intro i hi; simp at hi; try (subst hi; omega)) (by first | exact cut_z3 | exact cut_z2 | exact cut_z | exact cut_mid3 (by omega) | exact cut_mid2 (by omega) | exact cut_lit3 | exact cut_lit2 | exact cut_lit3' | exact cut_lit2' | exact cut_two | exact cut_tail | exact cut_head') ?_); intro _ _ _ _ _ _ kbcK; (try simp only [Int.toNat_zero, Int.toNat_ofNat, List.drop_zero] at kbcK))
  k_with "ktr_room" => first | exact room9 (by assumption) rfl | exact Nat.lt_of_le_of_lt (Nat.le_add_right _ _) (by assumption)
  k_with "ktr_units" => exact units9 (by assumption) rfl
  k_with "getMethod bytes" => (k_here; first | refine meth_starts ?_ | refine meth_split ?_ | refine meth_join ?_)
  k_with "call builtin:bytes.startswith" => (k_here; first | refine call_starts_T (by kba_ints2) (by kba_ints2) (by assumption) ?_ | refine call_starts_F (by kba_ints2) (by kba_ints2) (by assumption) ?_ | refine call_starts_I (by kba_ints2) (by kba_ints2) ?_)
  k_with "CompEnd" => (refine LCg.CompEnd.intro (by assumption) (by assumption) _ (fun _ h => h) (by assumption) (by exact Or.inr ⟨_, by k_mem, rfl, _, rfl⟩) ?_)
  k_with "call type:bytes" => (k_here; (with_reducible show wpAny _ _ (call (Value.type "bytes") [Value.ref _]) _ _ _); (refine' KBa.make_K ?kbaF ?kbaN ?kbah ?kbal ?kbai ?kbar ?kban ?_; (case kbaF => k_asm); (case kbaN => k_asm); (case kbah => rfl); (case kbal => kba_isList); (case kbai => kba_listInts); (case kbar => (repeat' (first | exact List.forall_mem_nil _ | (refine List.forall_mem_cons.mpr ⟨⟨?_, ?_⟩, ?_⟩) | omega | (simp only [fd10, fm10]; omega)))); (case kban => kba_size)); intro _ _ _ F' N' kbaIn; (have kbaM := KBa.ints_make kbaIn))
  k_with "cell_enter" => (refine' code_defC ?k1 ?k2 ?k3 ?k4 ?k5 ?kA ?kF ?kK ?k6 ?k7 ?k8 ?k9 ?kB ?kD ?_ ?c2 ?c3 ?c4; (case kA => exact rfl); (case kF => exact rfl); (case kK => first | exact rfl | assumption); (case k1 => k_asm); (case k2 => k_asm); (case k3 => k_asm); (case k4 => k_asm); (case k5 => k_asm); (case k6 => k_is); (case k7 => k_is); (case k8 => ktr_room); (case k9 => first | exact BindsTo.of_eq rfl | exact binds_K (by k_in) rfl (by k_is) rfl rfl rfl); (case kB => exact rfl); (case kD => decide +kernel); (case c2 => exact rfl); (case c3 => exact rfl); (case c4 => exact rfl); k_whole; intro g' L' h' tk' cells' FG' F' N' Y' B' X' T' l1; (try k_lt l1); k_cells Y'; (try simp only [List.cons_append, List.nil_append] at N'); (try dsimp only); (try k_lift B'); (try k_fold))
  k_with "call builtin:bytes.join" => (k_here; refine call_join_I (by k_asm) (by k_mem) rfl rfl (by kba_ints2) (by kba_ints2) (by kba_ints2) (by kba_ints2) (by first | assumption | decide) (by first | assumption | decide) (by first | assumption | decide) (by first | assumption | decide) ?_; intro _ _ _ kbJ; (try simp only [List.append_nil] at kbJ))
  k_with "units_room" => exact room_deep (by omega)
  k_with "cell_enter" => (refine' code_def ?k1 ?k2 ?k3 ?k4 ?k5 ?kA ?kF ?kK ?k6 ?k7 ?k8 ?k9 ?kB ?_ ?c2 ?c3 ?c4 ?c5; (case kA => exact rfl); (case kF => exact rfl); (case kK => first | exact rfl | assumption); (case k1 => k_asm); (case k2 => k_asm); (case k3 => k_asm); (case k4 => k_asm); (case k5 => k_asm); (case k6 => k_is); (case k7 => k_is); (case k8 => ktr_room); (case k9 => exact binds_K (by k_in) rfl (by k_is) rfl rfl rfl); (case c5 => decide); (case kB => exact locs rfl); (case c2 => exact rfl); (case c3 => exact rfl); (case c4 => exact rfl); k_whole; intro g' L' h' FG' F' N' B' X' T'; (try dsimp only); (try k_fold))
  trivial
set_option maxRecDepth 100000 in
set_option maxHeartbeats 8000000 in
theorem con_is_wheel (w : World) (x : Int) (t : Tok) (news) : Con w 1 123 [.int x t] news (ValR fun _ => .bool (decide (4 ≤ x ∧ x ≤ 7))) := by
  unfold Con
  intro p loose mean mg mb dp un gd cn cs a ccd cl outer A₀ base h₀ L m s Q E B F X N T hk hd hu hret
  obtain ⟨sh, sg, sd, st, so⟩ := s
  refine wpAny_call ?_
  k_dflt cell_enter
  k_steps
  all_goals (refine hret _ [] _ _ (by assumption) (by assumption) (ValR.mk (t := 0) ?_))
  · simp [*]
  · simp; omega


-- button
theorem rows_button : True := by
  w_top off
  k_with_none
  k_with "kba_ints2" => first | kba_ints | (apply ints_lit; (simp only [List.map_cons, List.map_nil, UInt8.reduceToNat, Int.cast_ofNat_Int]); (try exact rfl))
  k_with "compareOp Eq bytes bytes" => (k_here; (with_reducible show wpAny _ _ (compareOp CmpOp.Eq (Value.bytes _ _) (Value.bytes _ _)) _ _ _); (first | refine eq_ints_T (by kba_ints2) (by kba_ints2) (by assumption) ?_ | refine eq_ints_F (by kba_ints2) (by kba_ints2) (by assumption) ?_ | refine eq_ints (by kba_ints2) (by kba_ints2) ?_))
  k_with "compareOp NotEq bytes bytes" => (k_here; (with_reducible show wpAny _ _ (compareOp CmpOp.NotEq (Value.bytes _ _) (Value.bytes _ _)) _ _ _); (refine ne_ints (by kba_ints2) (by kba_ints2) ?_))
  k_with "compareOp NotIn bytes ref" => (k_here; (with_reducible show wpAny _ _ (compareOp CmpOp.NotIn (Value.bytes _ _) (Value.ref _)) _ _ _); (refine notIn_two (by k_asm) (by k_mem) (by kba_ints2) (by kba_ints2) (by kba_ints2) ?_))
  k_with "subscriptTail" => (k_here; (with_reducible show wpAny _ _ (subscriptTail _ (Expr.Slice _ _ none _) (Value.bytes _ _) (Value.ref _)) _ _ _); (with_reducible rename Fr _ _ _ _ => F'); (with_reducible rename News _ _ _ _ => N'); (refine slice_C (s := ⟨_, _, _, _, _⟩) F' N' (by kba_ints2) (by constructor) (by constructor) (by kba_size) (by intro i hi; simp at hi; try (subst hi; omega)) (by intro i hi; simp at hi; try (subst hi; omega)) (by first | exact cut_z3 | exact cut_z2 | exact cut_z | exact cut_mid3 (by omega) | exact cut_mid2 (by omega) | exact cut_lit3 | exact cut_lit2 | exact cut_lit3' | exact cut_lit2' | exact cut_two | exact cut_tail | exact cut_head') ?_); intro _ _ _ _ _ _ kbcK; (try simp only [Int.toNat_zero, Int.toNat_ofNat, List.drop_zero] at kbcK))
  k_with "ktr_room" => first | exact room9 (by assumption) rfl | exact Nat.lt_of_le_of_lt (Nat.le_add_right _ _) (by assumption)
  k_with "ktr_units" => exact units9 (by assumption) rfl
  k_with "getMethod bytes" => (k_here; first | refine meth_starts ?_ | refine meth_split ?_ | refine meth_join ?_)
  k_with "call builtin:bytes.startswith" => (k_here; first | refine call_starts_T (by kba_ints2) (by kba_ints2) (by assumption) ?_ | refine call_starts_F (by kba_ints2) (by kba_ints2) (by assumption) ?_ | refine call_starts_I (by kba_ints2) (by kba_ints2) ?_)
  k_with "CompEnd" => (refine LCg.CompEnd.intro (by assumption) (by assumption) _ (fun _ h => h) (by assumption) (by exact Or.inr ⟨_, by k_mem, rfl, _, rfl⟩) ?_)
  k_with "call type:bytes" => (k_here; (with_reducible show wpAny _ _ (call (Value.type "bytes") [Value.ref _]) _ _ _); (refine' KBa.make_K ?kbaF ?kbaN ?kbah ?kbal ?kbai ?kbar ?kban ?_; (case kbaF => k_asm); (case kbaN => k_asm); (case kbah => rfl); (case kbal => kba_isList); (case kbai => kba_listInts); (case kbar => (repeat' (first | exact List.forall_mem_nil _ | (refine List.forall_mem_cons.mpr ⟨⟨?_, ?_⟩, ?_⟩) | omega | (simp only [fd10, fm10]; omega)))); (case kban => kba_size)); intro _ _ _ F' N' kbaIn; (have kbaM := KBa.ints_make kbaIn))
  k_with "cell_enter" => (refine' code_defC ?k1 ?k2 ?k3 ?k4 ?k5 ?kA ?kF ?kK ?k6 ?k7 ?k8 ?k9 ?kB ?kD ?_ ?c2 ?c3 ?c4; (case kA => exact rfl); (case kF => exact rfl); (case kK => first | exact rfl | assumption); (case k1 => k_asm); (case k2 => k_asm); (case k3 => k_asm); (case k4 => k_asm); (case k5 => k_asm); (case k6 => k_is); (case k7 => k_is); (case k8 => ktr_room); (case k9 => first | exact BindsTo.of_eq rfl | exact binds_K (by k_in) rfl (by k_is) rfl rfl rfl); (case kB => exact rfl); (case kD => decide +kernel); (case c2 => exact rfl); (case c3 => exact rfl); (case c4 => exact rfl); k_whole; intro g' L' h' tk' cells' FG' F' N' Y' B' X' T' l1; (try k_lt l1); k_cells Y'; (try simp only [List.cons_append, List.nil_append] at N'); (try dsimp only); (try k_lift B'); (try k_fold))
  k_with "call builtin:bytes.join" => (k_here; refine call_join_I (by k_asm) (by k_mem) rfl rfl (by kba_ints2) (by kba_ints2) (by kba_ints2) (by kba_ints2) (by first | assumption | decide) (by first | assumption | decide) (by first | assumption | decide) (by first | assumption | decide) ?_; intro _ _ _ kbJ; (try simp only [List.append_nil] at kbJ))
  k_with "units_room" => exact room_deep (by omega)
  k_with "cell_enter" => (refine' code_def ?k1 ?k2 ?k3 ?k4 ?k5 ?kA ?kF ?kK ?k6 ?k7 ?k8 ?k9 ?kB ?_ ?c2 ?c3 ?c4 ?c5; (case kA => exact rfl); (case kF => exact rfl); (case kK => first | exact rfl | assumption); (case k1 => k_asm); (case k2 => k_asm); (case k3 => k_asm); (case k4 => k_asm); (case k5 => k_asm); (case k6 => k_is); (case k7 => k_is); (case k8 => ktr_room); (case k9 => exact binds_K (by k_in) rfl (by k_is) rfl rfl rfl); (case c5 => decide); (case kB => exact locs rfl); (case c2 => exact rfl); (case c3 => exact rfl); (case c4 => exact rfl); k_whole; intro g' L' h' FG' F' N' B' X' T'; (try dsimp only); (try k_fold))
  trivial
noncomputable def mHigh (n : Int) : Int := bitAnd n (Builtin.bitNot (bitOr (bitOr 28 32) 3))
noncomputable def mbtn (n : Int) : Option Int := if mHigh n = 0 then (if bitAnd n 3 = 3 then some 0 else some (bitAnd n 3 + 1)) else if mHigh n = 64 then some (4 + bitAnd n 3) else if mHigh n = 128 then some (7 + 1 + bitAnd n 3) else none
section
variable {n : Int}
theorem mbtn_a (h : mHigh n = 0) (h1 : bitAnd n 3 = 3) : mbtn n = some 0 := (if_pos h).trans (if_pos h1)
theorem mbtn_b (h : mHigh n = 0) (h1 : bitAnd n 3 ≠ 3) : mbtn n = some (bitAnd n 3 + 1) := (if_pos h).trans (if_neg h1)
theorem mbtn_c (h : mHigh n = 64) : mbtn n = some (4 + bitAnd n 3) := (if_neg (by rw [h]; decide)).trans (if_pos h)
theorem mbtn_d (h : mHigh n = 128) : mbtn n = some (7 + 1 + bitAnd n 3) := (if_neg (by rw [h]; decide)).trans ((if_neg (by rw [h]; decide)).trans (if_pos h))
theorem mbtn_e (h : mHigh n ≠ 0) (h1 : mHigh n ≠ 64) (h2 : mHigh n ≠ 128) : mbtn n = none := (if_neg h).trans ((if_neg h1).trans (if_neg h2))
end
set_option maxRecDepth 100000 in
set_option maxHeartbeats 8000000 in
theorem con_button (w : World) (n : Int) (t : Tok) (h0 : 0 ≤ n) (h1 : n ≤ 4000) (news) : Con w 1 137 [.int n t] news (IntR (mbtn n)) := by
  unfold Con
  intro p loose mean mg mb dp un gd cn cs a ccd cl outer A₀ base h₀ L m s Q E B F X N T hk hd hu hret
  obtain ⟨sh, sg, sd, st, so⟩ := s
  refine wpAny_call ?_
  k_dflt cell_enter
  k_steps
  all_goals first
    | refine hret _ [] _ _ (by assumption) (cb_drop (by assumption) fun _ => List.Mem.tail _) (IntR.none ?_)
    | refine hret _ [] _ _ (by assumption) (cb_drop (by assumption) fun _ => List.Mem.tail _) (IntR.some ?_)
  all_goals first
    | exact mbtn_a (by assumption) (by assumption)
    | exact mbtn_b (by assumption) (by assumption)
    | exact mbtn_c (by assumption)
    | exact mbtn_d (by assumption)
    | exact mbtn_e (by assumption) (by assumption) (by assumption)


-- ev
theorem rows_ev : True := by
  w_top off
  k_with_none
  k_with "kba_ints2" => first | kba_ints | (apply ints_lit; (simp only [List.map_cons, List.map_nil, UInt8.reduceToNat, Int.cast_ofNat_Int]); (try exact rfl))
  k_with "compareOp Eq bytes bytes" => (k_here; (with_reducible show wpAny _ _ (compareOp CmpOp.Eq (Value.bytes _ _) (Value.bytes _ _)) _ _ _); (first | refine eq_ints_T (by kba_ints2) (by kba_ints2) (by assumption) ?_ | refine eq_ints_F (by kba_ints2) (by kba_ints2) (by assumption) ?_ | refine eq_ints (by kba_ints2) (by kba_ints2) ?_))
  k_with "compareOp NotEq bytes bytes" => (k_here; (with_reducible show wpAny _ _ (compareOp CmpOp.NotEq (Value.bytes _ _) (Value.bytes _ _)) _ _ _); (refine ne_ints (by kba_ints2) (by kba_ints2) ?_))
  k_with "compareOp NotIn bytes ref" => (k_here; (with_reducible show wpAny _ _ (compareOp CmpOp.NotIn (Value.bytes _ _) (Value.ref _)) _ _ _); (refine notIn_two (by k_asm) (by k_mem) (by kba_ints2) (by kba_ints2) (by kba_ints2) ?_))
  k_with "subscriptTail" => (k_here; (with_reducible show wpAny _ _ (subscriptTail _ (Expr.Slice _ _ none _) (Value.bytes _ _) (Value.ref _)) _ _ _); (with_reducible rename Fr _ _ _ _ => F'); (with_reducible rename News _ _ _ _ => N'); (refine slice_C (s := ⟨_, _, _, _, _⟩) F' N' (by kba_ints2) (by constructor) (by constructor) (by kba_size) (by intro i hi; simp at hi; try (subst hi; omega)) (by intro i hi; simp at hi; try (subst hi; omega)) (by first | exact cut_z3 | exact cut_z2 | exact cut_z | exact cut_mid3 (by omega) | exact cut_mid2 (by omega) | exact cut_lit3 | exact cut_lit2 | exact cut_lit3' | exact cut_lit2' | exact cut_two | exact cut_tail | exact cut_head') ?_); intro _ _ _ _ _ _ kbcK; (try simp only [Int.toNat_zero, Int.toNat_ofNat, List.drop_zero] at kbcK))
  k_with "ktr_room" => first | exact room9 (by assumption) rfl | exact Nat.lt_of_le_of_lt (Nat.le_add_right _ _) (by assumption)
  k_with "ktr_units" => exact units9 (by assumption) rfl
  k_with "getMethod bytes" => (k_here; first | refine meth_starts ?_ | refine meth_split ?_ | refine meth_join ?_)
  k_with "call builtin:bytes.startswith" => (k_here; first | refine call_starts_T (by kba_ints2) (by kba_ints2) (by assumption) ?_ | refine call_starts_F (by kba_ints2) (by kba_ints2) (by assumption) ?_ | refine call_starts_I (by kba_ints2) (by kba_ints2) ?_)
  k_with "CompEnd" => (refine LCg.CompEnd.intro (by assumption) (by assumption) _ (fun _ h => h) (by assumption) (by exact Or.inr ⟨_, by k_mem, rfl, _, rfl⟩) ?_)
  k_with "call type:bytes" => (k_here; (with_reducible show wpAny _ _ (call (Value.type "bytes") [Value.ref _]) _ _ _); (refine' KBa.make_K ?kbaF ?kbaN ?kbah ?kbal ?kbai ?kbar ?kban ?_; (case kbaF => k_asm); (case kbaN => k_asm); (case kbah => rfl); (case kbal => kba_isList); (case kbai => kba_listInts); (case kbar => (repeat' (first | exact List.forall_mem_nil _ | (refine List.forall_mem_cons.mpr ⟨⟨?_, ?_⟩, ?_⟩) | omega | (simp only [fd10, fm10]; omega)))); (case kban => kba_size)); intro _ _ _ F' N' kbaIn; (have kbaM := KBa.ints_make kbaIn))
  k_with "cell_enter" => (refine' code_defC ?k1 ?k2 ?k3 ?k4 ?k5 ?kA ?kF ?kK ?k6 ?k7 ?k8 ?k9 ?kB ?kD ?_ ?c2 ?c3 ?c4; (case kA => exact rfl); (case kF => exact rfl); (case kK => first | exact rfl | assumption); (case k1 => k_asm); (case k2 => k_asm); (case k3 => k_asm); (case k4 => k_asm); (case k5 => k_asm); (case k6 => k_is); (case k7 => k_is); (case k8 => ktr_room); (case k9 => first | exact BindsTo.of_eq rfl | exact binds_K (by k_in) rfl (by k_is) rfl rfl rfl); (case kB => exact rfl); (case kD => decide +kernel); (case c2 => exact rfl); (case c3 => exact rfl); (case c4 => exact rfl); k_whole; intro g' L' h' tk' cells' FG' F' N' Y' B' X' T' l1; (try k_lt l1); k_cells Y'; (try simp only [List.cons_append, List.nil_append] at N'); (try dsimp only); (try k_lift B'); (try k_fold))
  k_with "call builtin:bytes.join" => (k_here; refine call_join_I (by k_asm) (by k_mem) rfl rfl (by kba_ints2) (by kba_ints2) (by kba_ints2) (by kba_ints2) (by first | assumption | decide) (by first | assumption | decide) (by first | assumption | decide) (by first | assumption | decide) ?_; intro _ _ _ kbJ; (try simp only [List.append_nil] at kbJ))
  k_with "units_room" => exact room_deep (by omega)
  k_with "cell_enter" => (refine' code_def ?k1 ?k2 ?k3 ?k4 ?k5 ?kA ?kF ?kK ?k6 ?k7 ?k8 ?k9 ?kB ?_ ?c2 ?c3 ?c4 ?c5; (case kA => exact rfl); (case kF => exact rfl); (case kK => first | exact rfl | assumption); (case k1 => k_asm); (case k2 => k_asm); (case k3 => k_asm); (case k4 => k_asm); (case k5 => k_asm); (case k6 => k_is); (case k7 => k_is); (case k8 => ktr_room); (case k9 => exact binds_K (by k_in) rfl (by k_is) rfl rfl rfl); (case c5 => decide); (case kB => exact locs rfl); (case c2 => exact rfl); (case c3 => exact rfl); (case c4 => exact rfl); k_whole; intro g' L' h' FG' F' N' B' X' T'; (try dsimp only); (try k_fold))
  trivial
set_option maxRecDepth 100000 in
set_option maxHeartbeats 8000000 in
theorem con_ev (w : World) (k : Str) (tk : Tok) (bt r c md : Int) (tb tr tc tm : Tok) (news) : Con w 2 105 [.str k tk, .int bt tb, .int r tr, .int c tc, .int md tm] news (EvR w (some ⟨k, bt, r, c, md⟩) news) := by
  unfold Con
  intro p loose mean mg mb dp un gd cn cs a ccd cl outer A₀ base h₀ L m s Q E B F X N T hk hd hu hret
  obtain ⟨sh, sg, sd, st, so⟩ := s
  k_dflt (refine' call_cls ?k1 ?k2 ?k3 ?k4 ?k5 ?k6 ?_; (case k1 => k_asm); (case k2 => k_asm); (case k3 => k_asm); (case k4 => k_is); (case k5 => k_is); (case k6 => k_is); k_whole; intro x' d' h' F' N' l1 l2; (try k_lt l1); (try k_lt2 l2); (try k_sweep))
  k_dflt (refine' code_def ?k1 ?k2 ?k3 ?k4 ?k5 ?kA ?kF ?kK ?k6 ?k7 ?k8 ?k9 ?kB ?_ ?c2 ?c3 ?c4 ?c5; (case kA => exact rfl); (case kF => exact rfl); (case kK => first | exact rfl | assumption); (case k1 => k_asm); (case k2 => k_asm); (case k3 => k_asm); (case k4 => k_asm); (case k5 => k_asm); (case k6 => k_is); (case k7 => k_is); (case k8 => ktr_room); (case k9 => first | exact BindsTo.of_eq rfl | exact binds_K (by k_in) rfl (by k_is) rfl rfl rfl); (case c5 => decide); (case kB => exact locs rfl); (case c2 => exact rfl); (case c3 => exact rfl); (case c4 => exact rfl); k_whole; intro g' L' h' FG' F' N' B' X' T'; (try dsimp only); (try k_fold))
  k_steps
  refine hret _ [_, _] _ _ (by assumption) (by assumption) (EvR.some rfl (by assumption) (by assumption))


-- event_of
theorem rows_event_of : True := by
  w_top off
  k_with_none
  k_with "kba_ints2" => first | kba_ints | (apply ints_lit; (simp only [List.map_cons, List.map_nil, UInt8.reduceToNat, Int.cast_ofNat_Int]); (try exact rfl))
  k_with "compareOp Eq bytes bytes" => (k_here; (with_reducible show wpAny _ _ (compareOp CmpOp.Eq (Value.bytes _ _) (Value.bytes _ _)) _ _ _); (first | refine eq_ints_T (by kba_ints2) (by kba_ints2) (by assumption) ?_ | refine eq_ints_F (by kba_ints2) (by kba_ints2) (by assumption) ?_ | refine eq_ints (by kba_ints2) (by kba_ints2) ?_))
  k_with "compareOp NotEq bytes bytes" => (k_here; (with_reducible show wpAny _ _ (compareOp CmpOp.NotEq (Value.bytes _ _) (Value.bytes _ _)) _ _ _); (refine ne_ints (by kba_ints2) (by kba_ints2) ?_))
  k_with "compareOp NotIn bytes ref" => (k_here; (with_reducible show wpAny _ _ (compareOp CmpOp.NotIn (Value.bytes _ _) (Value.ref _)) _ _ _); (refine notIn_two (by k_asm) (by k_mem) (by kba_ints2) (by kba_ints2) (by kba_ints2) ?_))
  k_with "subscriptTail" => (k_here; (with_reducible show wpAny _ _ (subscriptTail _ (Expr.Slice _ _ none _) (Value.bytes _ _) (Value.ref _)) _ _ _); (with_reducible rename Fr _ _ _ _ => F'); (with_reducible rename News _ _ _ _ => N'); (refine slice_C (s := ⟨_, _, _, _, _⟩) F' N' (by kba_ints2) (by constructor) (by constructor) (by kba_size) (by intro i hi; simp at hi; try (subst hi; omega)) (by intro i hi; simp at hi; try (subst hi; omega)) (by first | exact cut_z3 | exact cut_z2 | exact cut_z | exact cut_mid3 (by omega) | exact cut_mid2 (by omega) | exact cut_lit3 | exact cut_lit2 | exact cut_lit3' | exact cut_lit2' | exact cut_two | exact cut_tail | exact cut_head') ?_); intro _ _ _ _ _ _ kbcK; (try simp only [Int.toNat_zero, Int.toNat_ofNat, List.drop_zero] at kbcK))
  k_with "ktr_room" => first | exact room9 (by assumption) rfl | exact Nat.lt_of_le_of_lt (Nat.le_add_right _ _) (by assumption)
  k_with "ktr_units" => exact units9 (by assumption) rfl
  k_with "getMethod bytes" => (k_here; first | refine meth_starts ?_ | refine meth_split ?_ | refine meth_join ?_)
  k_with "call builtin:bytes.startswith" => (k_here; first | refine call_starts_T (by kba_ints2) (by kba_ints2) (by assumption) ?_ | refine call_starts_F (by kba_ints2) (by kba_ints2) (by assumption) ?_ | refine call_starts_I (by kba_ints2) (by kba_ints2) ?_)
  k_with "CompEnd" => (refine LCg.CompEnd.intro (by assumption) (by assumption) _ (fun _ h => h) (by assumption) (by exact Or.inr ⟨_, by k_mem, rfl, _, rfl⟩) ?_)
  k_with "call type:bytes" => (k_here; (with_reducible show wpAny _ _ (call (Value.type "bytes") [Value.ref _]) _ _ _); (refine' KBa.make_K ?kbaF ?kbaN ?kbah ?kbal ?kbai ?kbar ?kban ?_; (case kbaF => k_asm); (case kbaN => k_asm); (case kbah => rfl); (case kbal => kba_isList); (case kbai => kba_listInts); (case kbar => (repeat' (first | exact List.forall_mem_nil _ | (refine List.forall_mem_cons.mpr ⟨⟨?_, ?_⟩, ?_⟩) | omega | (simp only [fd10, fm10]; omega)))); (case kban => kba_size)); intro _ _ _ F' N' kbaIn; (have kbaM := KBa.ints_make kbaIn))
  k_with "cell_enter" => (refine' code_defC ?k1 ?k2 ?k3 ?k4 ?k5 ?kA ?kF ?kK ?k6 ?k7 ?k8 ?k9 ?kB ?kD ?_ ?c2 ?c3 ?c4; (case kA => exact rfl); (case kF => exact rfl); (case kK => first | exact rfl | assumption); (case k1 => k_asm); (case k2 => k_asm); (case k3 => k_asm); (case k4 => k_asm); (case k5 => k_asm); (case k6 => k_is); (case k7 => k_is); (case k8 => ktr_room); (case k9 => first | exact BindsTo.of_eq rfl | exact binds_K (by k_in) rfl (by k_is) rfl rfl rfl); (case kB => exact rfl); (case kD => decide +kernel); (case c2 => exact rfl); (case c3 => exact rfl); (case c4 => exact rfl); k_whole; intro g' L' h' tk' cells' FG' F' N' Y' B' X' T' l1; (try k_lt l1); k_cells Y'; (try simp only [List.cons_append, List.nil_append] at N'); (try dsimp only); (try k_lift B'); (try k_fold))
  k_with "call builtin:bytes.join" => (k_here; refine call_join_I (by k_asm) (by k_mem) rfl rfl (by kba_ints2) (by kba_ints2) (by kba_ints2) (by kba_ints2) (by first | assumption | decide) (by first | assumption | decide) (by first | assumption | decide) (by first | assumption | decide) ?_; intro _ _ _ kbJ; (try simp only [List.append_nil] at kbJ))
  k_with "units_room" => exact room_deep (by omega)
  k_with "cell_enter" => (refine' code_def ?k1 ?k2 ?k3 ?k4 ?k5 ?kA ?kF ?kK ?k6 ?k7 ?k8 ?k9 ?kB ?_ ?c2 ?c3 ?c4 ?c5; (case kA => exact rfl); (case kF => exact rfl); (case kK => first | exact rfl | assumption); (case k1 => k_asm); (case k2 => k_asm); (case k3 => k_asm); (case k4 => k_asm); (case k5 => k_asm); (case k6 => k_is); (case k7 => k_is); (case k8 => ktr_room); (case k9 => exact binds_K (by k_in) rfl (by k_is) rfl rfl rfl); (case c5 => decide); (case kB => exact locs rfl); (case c2 => exact rfl); (case c3 => exact rfl); (case c4 => exact rfl); k_whole; intro g' L' h' FG' F' N' B' X' T'; (try dsimp only); (try k_fold))
  k_with "con" => (k_here; (with_reducible show wpAny _ _ (call (Value.ref 137) [Value.int _ _]) _ _ _); k_dflt (
    refine Con.useI (con_button _ _ _ (by first | assumption | omega | (simp; omega)) (by first | assumption | omega | (simp; omega)) _) (by k_asm) (by k_asm) (by k_asm) (by k_asm) (by k_asm) (by first | exact rfl | assumption) (by ktr_room) (by ktr_units) ?_ ?_
    (rotate_left; (intro v9 t9 h' tk' hO9 F' N'; (try dsimp only); (try k_fold)); rotate_left; (intro hO9 h' tk' F' N'; (try dsimp only); (try k_fold)))))
  k_with "con" => (k_here; (with_reducible show wpAny _ _ (call (Value.ref 105) [Value.str _ _, Value.int _ _, Value.int _ _, Value.int _ _, Value.int _ _]) _ _ _); k_dflt (
    refine Con.useE (con_ev _ _ _ _ _ _ _ _ _ _ _ _) (by k_asm) (by k_asm) (by k_asm) (by k_asm) (by k_asm) (by first | exact rfl | assumption) (by ktr_room) (by ktr_units) (fun e9 => nomatch e9) ?_
    (intro k9 bt9 r9 c9 md9 x9 d9 t0 t1 t2 t3 t4 t5 t6 t7 t8 t9 h' tk' hO9 l9 l8 F' N'; cases hO9; (try k_lt l9); (try k_lt2 l8); (try dsimp only); (try k_fold))))
  trivial
noncomputable def evOf (n c r : Int) (rel : Option Bool) : Option Ev := match mbtn n with
  | none => none
  | some b => if c < 1 ∨ r < 1 then none else
    if bitAnd n 32 ≠ 0 then some ⟨Str.ofString "move", b, (r - 1).fdiv 1, (c - 1).fdiv 1, (bitAnd n 28).fdiv 4⟩ else
    if rel = some true ∨ (rel = none ∧ b = 0) then some ⟨Str.ofString "release", b, (r - 1).fdiv 1, (c - 1).fdiv 1, (bitAnd n 28).fdiv 4⟩ else
    if b = 0 then none else some ⟨Str.ofString "press", b, (r - 1).fdiv 1, (c - 1).fdiv 1, (bitAnd n 28).fdiv 4⟩
section
variable {n c r b : Int} {rel : Option Bool}
theorem evOf_z (h : mbtn n = none) : evOf n c r rel = none := by unfold evOf; rw [h]
theorem evOf_n (h : mbtn n = some b) (h1 : c < 1 ∨ r < 1) : evOf n c r rel = none := by unfold evOf; rw [h]; exact if_pos h1
theorem evOf_m (h : mbtn n = some b) (h1 : ¬ c < 1) (h2 : ¬ r < 1) (h3 : bitAnd n 32 ≠ 0) : evOf n c r rel = some ⟨Str.ofString "move", b, (r - 1).fdiv 1, (c - 1).fdiv 1, (bitAnd n 28).fdiv 4⟩ := by
  unfold evOf; rw [h]; exact (if_neg (fun x => x.elim h1 h2)).trans (if_pos h3)
theorem evOf_r (h : mbtn n = some b) (h1 : ¬ c < 1) (h2 : ¬ r < 1) (h3 : bitAnd n 32 = 0) (h4 : rel = some true ∨ (rel = none ∧ b = 0)) : evOf n c r rel = some ⟨Str.ofString "release", b, (r - 1).fdiv 1, (c - 1).fdiv 1, (bitAnd n 28).fdiv 4⟩ := by
  unfold evOf; rw [h]; exact (if_neg (fun x => x.elim h1 h2)).trans ((if_neg (fun x => x h3)).trans (if_pos h4))
theorem evOf_x (h : mbtn n = some b) (h1 : ¬ c < 1) (h2 : ¬ r < 1) (h3 : bitAnd n 32 = 0) (h4 : ¬ (rel = some true ∨ (rel = none ∧ b = 0))) (h5 : b = 0) : evOf n c r rel = none := by
  unfold evOf; rw [h]; exact (if_neg (fun x => x.elim h1 h2)).trans ((if_neg (fun x => x h3)).trans ((if_neg h4).trans (if_pos h5)))
theorem evOf_p (h : mbtn n = some b) (h1 : ¬ c < 1) (h2 : ¬ r < 1) (h3 : bitAnd n 32 = 0) (h4 : ¬ (rel = some true ∨ (rel = none ∧ b = 0))) (h5 : b ≠ 0) : evOf n c r rel = some ⟨Str.ofString "press", b, (r - 1).fdiv 1, (c - 1).fdiv 1, (bitAnd n 28).fdiv 4⟩ := by
  unfold evOf; rw [h]; exact (if_neg (fun x => x.elim h1 h2)).trans ((if_neg (fun x => x h3)).trans ((if_neg h4).trans (if_neg h5)))
theorem rel_n (h : b ≠ 0) : ¬ ((none : Option Bool) = some true ∨ ((none : Option Bool) = none ∧ b = 0)) := fun x => x.elim (fun y => nomatch y) fun y => h y.2
theorem rel_f : ¬ (some false = some true ∨ (some false = none ∧ b = 0)) := fun x => x.elim (fun y => by cases y) fun y => nomatch y.1
end
noncomputable def relV : Option Bool → Value
  | none => .none
  | some b => .bool b
noncomputable def EvCut (h₀ : Heap) (L : Addr) (m : Str → Option Value) (news : List (Addr × Obj)) (o : Option Ev) (b r c md : Int) (s : Shared) (f : Flow) (s' : Shared) : Prop :=
  (f = .ret .none ∧ o = none ∧ ∃ h' tk, s' = { s with heap := h', toks := tk } ∧ Fr h₀ L h' m ∧ News h₀ L h' news) ∨
  (f = .next ∧ ∃ k t h' tk, o = some ⟨k, b, r, c, md⟩ ∧ s' = { s with heap := h', toks := tk } ∧ Fr h₀ L h' (fun z => if z = Str.ofString "kind" then some (.str k t) else m z) ∧ News h₀ L h' news)
section
variable {h₀ h' : Heap} {L : Addr} {m m' : Str → Option Value} {news : List (Addr × Obj)} {o : Option Ev} {b r c md : Int} {s : Shared} {tk : Nat}
theorem EvCut.no (e : o = none) (F : Fr h₀ L h' m) (N : News h₀ L h' news) : EvCut h₀ L m news o b r c md s (.ret .none) { s with heap := h', toks := tk } := .inl ⟨rfl, e, h', tk, rfl, F, N⟩
theorem EvCut.yes {k : Str} {t : Tok} (e : o = some ⟨k, b, r, c, md⟩) (F : Fr h₀ L h' m') (N : News h₀ L h' news) (hm : ∀ z, m' z = if z = Str.ofString "kind" then some (.str k t) else m z) : EvCut h₀ L m news o b r c md s .next { s with heap := h', toks := tk } :=
  .inr ⟨rfl, k, t, h', tk, e, rfl, by rw [show (fun z => if z = Str.ofString "kind" then some (.str k t) else m z) = m' from funext fun z => (hm z).symm]; exact F, N⟩
end
theorem cut_ev {M : Model} {A : Around} {h₀ : Heap} {L : Addr} {st : Stmt} {env : Env} {s : Shared} {m : Str → Option Value} {news : List (Addr × Obj)} {Q : Flow → Shared → Prop} {E : Value → Shared → Prop} (o : Option Ev) (b r c md : Int) (_F : Fr h₀ L s.heap m) (_N : News h₀ L s.heap news)
    (walk : Hold (wpAny M A (exec st env) (EvCut h₀ L m news o b r c md s) E s))
    (no : Hold (o = none → ∀ h' tk, Fr h₀ L h' m → News h₀ L h' news → Q (.ret .none) { s with heap := h', toks := tk }))
    (rest : Hold (∀ k t h' tk, o = some ⟨k, b, r, c, md⟩ → Fr h₀ L h' (fun z => if z = Str.ofString "kind" then some (.str k t) else m z) → News h₀ L h' news → Q .next { s with heap := h', toks := tk })) : wpAny M A (exec st env) Q E s := by
  refine wpAny_mono walk (fun f s' hc => ?_) fun _ _ x => x
  rcases hc with ⟨rfl, e, h', tk, rfl, F, N⟩ | ⟨rfl, k, t, h', tk, e, rfl, F, N⟩
  · exact no e h' tk F N
  · exact rest k t h' tk e F N
theorem mv_t {x : Int} (h : (x != 0) = true) : x ≠ 0 := bne_iff_ne.mp h
theorem mv_f {x : Int} (h : (x != 0) = false) : x = 0 := by simpa using h
theorem kind_same {g : Str → Option Value} {t : Tok} : ∀ z, (if z = Str.ofString "kind" then some (Value.str (Str.ofString "press") t) else g z) = if z = Str.ofString "kind" then some (Value.str (Str.ofString "press") t) else if z = Str.ofString "kind" then some (Value.str (Str.ofString "press") t) else g z := fun z => by
  by_cases h : z = Str.ofString "kind"
  · rw [if_pos h, if_pos h]
  · simp only [if_neg h]
set_option maxRecDepth 100000 in
set_option maxHeartbeats 8000000 in
theorem con_event_ofG (w : World) (n : Int) (t : Tok) (h0 : 0 ≤ n) (h1 : n ≤ 4000) (c r : Int) (tc tr t1 t2 : Tok) (rel : Option Bool) (news) : Con w 3 176 [.int n t, .int c tc, .int r tr, relV rel, .int 1 t1, .int 1 t2] news (EvR w (evOf n c r rel) news) := by
  unfold Con
  intro p loose mean mg mb dp un gd cn cs a ccd cl outer A₀ base h₀ L m s Q E B F X N T hk hd hu hret
  obtain ⟨sh, sg, sd, st, so⟩ := s
  refine wpAny_call ?_
  k_dflt cell_enter
  k_with "exec If" => (k_here; (with_reducible show wpAny _ _ (exec (PySem.Stmt.If (PySem.Expr.Name _ _) _ _ _) _) _ _ _); (rename CutMark 1 => hM; clear hM); k_dflt (refine cut_ev (evOf n c r rel) v9 ((r - 1).fdiv 1) ((c - 1).fdiv 1) ((bitAnd n 28).fdiv 4) (by k_asm) (by k_asm) ?_ ?_ ?_))
  have hM : CutMark 1 := rfl
  k_steps
  all_goals first
    | refine hret _ [] _ _ (by assumption) (by first | assumption | exact cb_drop (by assumption) fun _ => List.Mem.tail _) (EvR.none ?_)
    | unfold Hold
  · exact evOf_z (by assumption)
  · exact evOf_n (by assumption) (.inl (by assumption))
  · exact evOf_n (by assumption) (.inr (by assumption))
  · cases rel
    all_goals dsimp only [relV] at *
    all_goals k_steps
    all_goals (try dsimp only)
    all_goals (try subst_vars)
    all_goals first
      | exact absurd rfl (by assumption)
      | exact EvCut.yes (evOf_m (by assumption) (by assumption) (by assumption) (by assumption)) (by assumption) (by assumption) (fun _ => rfl)
      | exact EvCut.no (evOf_x (by assumption) (by assumption) (by assumption) (by assumption) rel_f rfl) (by assumption) (by assumption)
      | exact EvCut.no (evOf_x (by assumption) (by assumption) (by assumption) (by assumption) rel_f (by assumption)) (by assumption) (by assumption)
      | exact EvCut.yes (evOf_p (by assumption) (by assumption) (by assumption) (by assumption) rel_f (by assumption)) (by assumption) (by assumption) kind_same
      | exact EvCut.yes (evOf_r (by assumption) (by assumption) (by assumption) (by assumption) (.inr ⟨rfl, rfl⟩)) (by assumption) (by assumption) (fun _ => rfl)
      | exact EvCut.yes (evOf_p (by assumption) (by assumption) (by assumption) (by assumption) (rel_n (by assumption)) (by assumption)) (by assumption) (by assumption) kind_same
      | exact EvCut.yes (evOf_r (by assumption) (by assumption) (by assumption) (by assumption) (.inr ⟨rfl, by assumption⟩)) (by assumption) (by assumption) (fun _ => rfl)
      | (exact EvCut.yes (evOf_r (by assumption) (by assumption) (by assumption) (by assumption) (.inl rfl)) (by assumption) (by assumption) (fun _ => rfl))
  · intro ho h' tk F2 N2
    k_steps
    all_goals exact hret .none [] _ _ (by assumption) (by first | assumption | exact cb_drop (by assumption) fun _ => List.Mem.tail _) (EvR.none ho)
  · intro k t' h' tk ho F2 N2
    k_steps
    all_goals exact hret _ [_, _] _ _ (by assumption) (cb_drop (by assumption) cb_mid2) (EvR.some ho (ltAll (And.right (by assumption))) (by assumption))
theorem con_event_of (w : World) (n : Int) (t : Tok) (h0 : 0 ≤ n) (h1 : n ≤ 4000) (c r : Int) (tc tr t1 t2 : Tok) (news) : Con w 3 176 [.int n t, .int c tc, .int r tr, .none, .int 1 t1, .int 1 t2] news (EvR w (evOf n c r none) news) :=
  con_event_ofG w n t h0 h1 c r tc tr t1 t2 none news
theorem con_event_ofB (w : World) (n : Int) (t : Tok) (h0 : 0 ≤ n) (h1 : n ≤ 4000) (c r : Int) (tc tr t1 t2 : Tok) (rl : Bool) (news) : Con w 3 176 [.int n t, .int c tc, .int r tr, .bool rl, .int 1 t1, .int 1 t2] news (EvR w (evOf n c r (some rl)) news) :=
  con_event_ofG w n t h0 h1 c r tc tr t1 t2 (some rl) news


-- read_plain
theorem rows_read_plain : True := by
  w_top off
  k_with_none
  k_with "kba_ints2" => first | kba_ints | (apply ints_lit; (simp only [List.map_cons, List.map_nil, UInt8.reduceToNat, Int.cast_ofNat_Int]); (try exact rfl))
  k_with "compareOp Eq bytes bytes" => (k_here; (with_reducible show wpAny _ _ (compareOp CmpOp.Eq (Value.bytes _ _) (Value.bytes _ _)) _ _ _); (first | refine eq_ints_T (by kba_ints2) (by kba_ints2) (by assumption) ?_ | refine eq_ints_F (by kba_ints2) (by kba_ints2) (by assumption) ?_ | refine eq_ints (by kba_ints2) (by kba_ints2) ?_))
  k_with "compareOp NotEq bytes bytes" => (k_here; (with_reducible show wpAny _ _ (compareOp CmpOp.NotEq (Value.bytes _ _) (Value.bytes _ _)) _ _ _); (refine ne_ints (by kba_ints2) (by kba_ints2) ?_))
  k_with "compareOp NotIn bytes ref" => (k_here; (with_reducible show wpAny _ _ (compareOp CmpOp.NotIn (Value.bytes _ _) (Value.ref _)) _ _ _); (refine notIn_two (by k_asm) (by k_mem) (by kba_ints2) (by kba_ints2) (by kba_ints2) ?_))
  k_with "subscriptTail" => (k_here; (with_reducible show wpAny _ _ (subscriptTail _ (Expr.Slice _ _ none _) (Value.bytes _ _) (Value.ref _)) _ _ _); (with_reducible rename Fr _ _ _ _ => F'); (with_reducible rename News _ _ _ _ => N'); (refine slice_C (s := ⟨_, _, _, _, _⟩) F' N' (by kba_ints2) (by constructor) (by constructor) (by kba_size) (by intro i hi; simp at hi; try (subst hi; omega)) (by intro i hi; simp at hi; try (subst hi; omega)) (by first | exact cut_z3 | exact cut_z2 | exact cut_z | exact cut_mid3 (by omega) | exact cut_mid2 (by omega) | exact cut_lit3 | exact cut_lit2 | exact cut_lit3' | exact cut_lit2' | exact cut_two | exact cut_tail | exact cut_head') ?_); intro _ _ _ _ _ _ kbcK; (try simp only [Int.toNat_zero, Int.toNat_ofNat, List.drop_zero] at kbcK))
  k_with "ktr_room" => first | exact room9 (by assumption) rfl | exact Nat.lt_of_le_of_lt (Nat.le_add_right _ _) (by assumption)
  k_with "ktr_units" => exact units9 (by assumption) rfl
  k_with "getMethod bytes" => (k_here; first | refine meth_starts ?_ | refine meth_split ?_ | refine meth_join ?_)
  k_with "call builtin:bytes.startswith" => (k_here; first | refine call_starts_T (by kba_ints2) (by kba_ints2) (by assumption) ?_ | refine call_starts_F (by kba_ints2) (by kba_ints2) (by assumption) ?_ | refine call_starts_I (by kba_ints2) (by kba_ints2) ?_)
  k_with "CompEnd" => (refine LCg.CompEnd.intro (by assumption) (by assumption) _ (fun _ h => h) (by assumption) (by exact Or.inr ⟨_, by k_mem, rfl, _, rfl⟩) ?_)
  k_with "call type:bytes" => (k_here; (with_reducible show wpAny _ _ (call (Value.type "bytes") [Value.ref _]) _ _ _); (refine' KBa.make_K ?kbaF ?kbaN ?kbah ?kbal ?kbai ?kbar ?kban ?_; (case kbaF => k_asm); (case kbaN => k_asm); (case kbah => rfl); (case kbal => kba_isList); (case kbai => kba_listInts); (case kbar => (repeat' (first | exact List.forall_mem_nil _ | (refine List.forall_mem_cons.mpr ⟨⟨?_, ?_⟩, ?_⟩) | omega | (simp only [fd10, fm10]; omega)))); (case kban => kba_size)); intro _ _ _ F' N' kbaIn; (have kbaM := KBa.ints_make kbaIn))
  k_with "cell_enter" => (refine' code_defC ?k1 ?k2 ?k3 ?k4 ?k5 ?kA ?kF ?kK ?k6 ?k7 ?k8 ?k9 ?kB ?kD ?_ ?c2 ?c3 ?c4; (case kA => exact rfl); (case kF => exact rfl); (case kK => first | exact rfl | assumption); (case k1 => k_asm); (case k2 => k_asm); (case k3 => k_asm); (case k4 => k_asm); (case k5 => k_asm); (case k6 => k_is); (case k7 => k_is); (case k8 => ktr_room); (case k9 => first | exact BindsTo.of_eq rfl | exact binds_K (by k_in) rfl (by k_is) rfl rfl rfl); (case kB => exact rfl); (case kD => decide +kernel); (case c2 => exact rfl); (case c3 => exact rfl); (case c4 => exact rfl); k_whole; intro g' L' h' tk' cells' FG' F' N' Y' B' X' T' l1; (try k_lt l1); k_cells Y'; (try simp only [List.cons_append, List.nil_append] at N'); (try dsimp only); (try k_lift B'); (try k_fold))
  k_with "call builtin:bytes.join" => (k_here; refine call_join_I (by k_asm) (by k_mem) rfl rfl (by kba_ints2) (by kba_ints2) (by kba_ints2) (by kba_ints2) (by first | assumption | decide) (by first | assumption | decide) (by first | assumption | decide) (by first | assumption | decide) ?_; intro _ _ _ kbJ; (try simp only [List.append_nil] at kbJ))
  k_with "units_room" => exact room_deep (by omega)
  k_with "cell_enter" => (refine' code_def ?k1 ?k2 ?k3 ?k4 ?k5 ?kA ?kF ?kK ?k6 ?k7 ?k8 ?k9 ?kB ?_ ?c2 ?c3 ?c4 ?c5; (case kA => exact rfl); (case kF => exact rfl); (case kK => first | exact rfl | assumption); (case k1 => k_asm); (case k2 => k_asm); (case k3 => k_asm); (case k4 => k_asm); (case k5 => k_asm); (case k6 => k_is); (case k7 => k_is); (case k8 => ktr_room); (case k9 => exact binds_K (by k_in) rfl (by k_is) rfl rfl rfl); (case c5 => decide); (case kB => exact locs rfl); (case c2 => exact rfl); (case c3 => exact rfl); (case c4 => exact rfl); k_whole; intro g' L' h' FG' F' N' B' X' T'; (try dsimp only); (try k_fold))
  k_with "con" => (k_here; (with_reducible show wpAny _ _ (call (Value.ref 183) [Value.bytes _ _, Value.int _ _, Value.bool _]) _ _ _); k_dflt (
    refine Con.useP (con_code_at _ _ _ _ _ _ _ (by kba_ints2) (by first | assumption | omega | (simp; omega)) (by first | assumption | omega | (simp; omega)) _) (by k_asm) (by k_asm) (by k_asm) (by k_asm) (by k_asm) (by first | exact rfl | assumption) (by ktr_room) (by ktr_units) ?_ ?_
    (rotate_left; (intro v9 n9 D9 t9 t8 h' tk' hO9 l9 F' N'; (try k_lt l9); (try have f9 := code8_bd (by assumption) (by first | assumption | omega) hO9); (try dsimp only); (try k_fold)); rotate_left; (intro hO9 h' tk' F' N'; (try dsimp only); (try k_fold)))))
  k_with "con" => (k_here; (with_reducible show wpAny _ _ (call (Value.ref 137) [Value.int _ _]) _ _ _); k_dflt (
    refine Con.useI (con_button _ _ _ (by first | assumption | omega | (simp; omega)) (by first | assumption | omega | (simp; omega)) _) (by k_asm) (by k_asm) (by k_asm) (by k_asm) (by k_asm) (by first | exact rfl | assumption) (by ktr_room) (by ktr_units) ?_ ?_
    (rotate_left; (intro v9 t9 h' tk' hO9 F' N'; (try dsimp only); (try k_fold)); rotate_left; (intro hO9 h' tk' F' N'; (try dsimp only); (try k_fold)))))
  k_with "con" => (k_here; (with_reducible show wpAny _ _ (call (Value.ref 105) [Value.str _ _, Value.int _ _, Value.int _ _, Value.int _ _, Value.int _ _]) _ _ _); k_dflt (
    refine Con.useE (con_ev _ _ _ _ _ _ _ _ _ _ _ _) (by k_asm) (by k_asm) (by k_asm) (by k_asm) (by k_asm) (by first | exact rfl | assumption) (by ktr_room) (by ktr_units) (fun e9 => nomatch e9) ?_
    (intro k9 bt9 r9 c9 md9 x9 d9 t0 t1 t2 t3 t4 t5 t6 t7 t8 t9 h' tk' hO9 l9 l8 F' N'; cases hO9; (try k_lt l9); (try k_lt2 l8); (try dsimp only); (try k_fold))))
  k_with "con" => (k_here; (with_reducible show wpAny _ _ (call (Value.ref 176) [Value.int _ _, Value.int _ _, Value.int _ _, Value.none, Value.int _ _, Value.int _ _]) _ _ _); k_dflt (
    refine Con.useE (con_event_of _ _ _ (by first | assumption | omega | (simp; omega)) (by first | assumption | omega | (simp; omega)) _ _ _ _ _ _ _) (by k_asm) (by k_asm) (by k_asm) (by k_asm) (by k_asm) (by first | exact rfl | assumption) (by ktr_room) (by ktr_units) ?_ ?_
    (rotate_left; (intro k9 bt9 r9 c9 md9 x9 d9 t0 t1 t2 t3 t4 t5 t6 t7 t8 t9 h' tk' hO9 l9 l8 F' N'; (try k_lt l9); (try k_lt2 l8); (try dsimp only); (try k_fold)); rotate_left; (intro hO9 h' tk' F' N'; (try dsimp only); (try k_fold)))))
  k_with "con" => (k_here; (with_reducible show wpAny _ _ (call (Value.ref 176) [Value.int _ _, Value.int _ _, Value.int _ _, Value.bool _, Value.int _ _, Value.int _ _]) _ _ _); k_dflt (
    refine Con.useE (con_event_ofB _ _ _ (by first | assumption | omega | (simp; omega)) (by first | assumption | omega | (simp; omega)) _ _ _ _ _ _ _ _) (by k_asm) (by k_asm) (by k_asm) (by k_asm) (by k_asm) (by first | exact rfl | assumption) (by ktr_room) (by ktr_units) ?_ ?_
    (rotate_left; (intro k9 bt9 r9 c9 md9 x9 d9 t0 t1 t2 t3 t4 t5 t6 t7 t8 t9 h' tk' hO9 l9 l8 F' N'; (try k_lt l9); (try k_lt2 l8); (try dsimp only); (try k_fold)); rotate_left; (intro hO9 h' tk' F' N'; (try dsimp only); (try k_fold)))))
  k_with "walk1" => ((first | with_reducible show wpAny _ _ (exec _ _) _ _ _ | with_reducible show wpAny _ _ (isTrue _ _ _) _ _ _); k_fold)
  trivial
noncomputable def rdPlain (ks : List Int) (i : Int) (u : Bool) : Option (Ev × Int) := match code8 ks i u with
  | none => none
  | some (v1, i1) => if v1 < 32 then none else match code8 ks i1 u with
    | none => none
    | some (v2, i2) => if v2 < 32 then none else match code8 ks i2 u with
      | none => none
      | some (v3, i3) => if v3 < 32 then none else match evOf (v1 - 32) (v2 - 32) (v3 - 32) none with
        | none => none
        | some e => some (e, i3)
section
variable {ks : List Int} {i i1 i2 i3 v1 v2 v3 : Int} {u : Bool} {e : Ev}
theorem rdPlain_a (h : code8 ks i u = none) : rdPlain ks i u = none := by unfold rdPlain; rw [h]
theorem rdPlain_b (h : code8 ks i u = some (v1, i1)) (h1 : v1 < 32) : rdPlain ks i u = none := by unfold rdPlain; rw [h]; exact if_pos h1
theorem rdPlain_c (h : code8 ks i u = some (v1, i1)) (h1 : ¬ v1 < 32) (k : code8 ks i1 u = none) : rdPlain ks i u = none := by unfold rdPlain; rw [h]; dsimp only; rw [k]; exact if_neg h1
theorem rdPlain_d (h : code8 ks i u = some (v1, i1)) (h1 : ¬ v1 < 32) (k : code8 ks i1 u = some (v2, i2)) (h2 : v2 < 32) : rdPlain ks i u = none := by unfold rdPlain; rw [h]; dsimp only; rw [k]; exact (if_neg h1).trans (if_pos h2)
theorem rdPlain_e (h : code8 ks i u = some (v1, i1)) (h1 : ¬ v1 < 32) (k : code8 ks i1 u = some (v2, i2)) (h2 : ¬ v2 < 32) (l : code8 ks i2 u = none) : rdPlain ks i u = none := by
  unfold rdPlain; rw [h]; dsimp only; rw [k]; dsimp only; rw [l]; exact (if_neg h1).trans (if_neg h2)
theorem rdPlain_f (h : code8 ks i u = some (v1, i1)) (h1 : ¬ v1 < 32) (k : code8 ks i1 u = some (v2, i2)) (h2 : ¬ v2 < 32) (l : code8 ks i2 u = some (v3, i3)) (h3 : v3 < 32) : rdPlain ks i u = none := by
  unfold rdPlain; rw [h]; dsimp only; rw [k]; dsimp only; rw [l]; exact (if_neg h1).trans ((if_neg h2).trans (if_pos h3))
theorem rdPlain_g (h : code8 ks i u = some (v1, i1)) (h1 : ¬ v1 < 32) (k : code8 ks i1 u = some (v2, i2)) (h2 : ¬ v2 < 32) (l : code8 ks i2 u = some (v3, i3)) (h3 : ¬ v3 < 32) (q : evOf (v1 - 32) (v2 - 32) (v3 - 32) none = none) : rdPlain ks i u = none := by
  unfold rdPlain; rw [h]; dsimp only; rw [k]; dsimp only; rw [l]; dsimp only; rw [q]; exact (if_neg h1).trans ((if_neg h2).trans (if_neg h3))
theorem rdPlain_h (h : code8 ks i u = some (v1, i1)) (h1 : ¬ v1 < 32) (k : code8 ks i1 u = some (v2, i2)) (h2 : ¬ v2 < 32) (l : code8 ks i2 u = some (v3, i3)) (h3 : ¬ v3 < 32) (q : evOf (v1 - 32) (v2 - 32) (v3 - 32) none = some e) : rdPlain ks i u = some (e, i3) := by
  unfold rdPlain; rw [h]; dsimp only; rw [k]; dsimp only; rw [l]; dsimp only; rw [q]; exact (if_neg h1).trans ((if_neg h2).trans (if_neg h3))
end
set_option maxRecDepth 100000 in
set_option maxHeartbeats 8000000 in
theorem con_read_plain (w : World) (b : Array UInt8) (tb : Tok) (ks : List Int) (i : Int) (ti : Tok) (u : Bool) (hb : KBw.bInts b = ks) (h0 : 0 ≤ i) (hl : ks.length ≤ 1000) (news) :
   Con w 4 190 [.bytes b tb, .int i ti, .bool u] news (EPairR w (rdPlain ks i u) news) := by
  unfold Con
  intro p loose mean mg mb dp un gd cn cs a ccd cl outer A₀ base h₀ L m s Q E B F X N T hk hd hu hret
  obtain ⟨sh, sg, sd, st, so⟩ := s
  refine wpAny_call ?_
  k_dflt cell_enter
  k_with "UnrEnd" => refine unrD (by assumption) (by assumption) (by assumption) ?_
  k_steps
  all_goals first
    | refine hret _ [] _ _ (by assumption) (by first | exact cb_drop (by assumption) cb_t2 | exact cb_drop (by assumption) cb_t3 | exact cb_drop (by assumption) cb_t1) (EPairR.none ?_)
    | refine hret _ [_, _, _] _ _ (by assumption) (cb_drop (by assumption) cb_mid3) (EPairR.some ?_ (ltAll (And.right (by assumption))) (by assumption) (And.left (by assumption)))
  · exact rdPlain_a (by assumption)
  · exact rdPlain_b (by assumption) (by assumption)
  · exact rdPlain_c (by assumption) (by assumption) (by assumption)
  · exact rdPlain_d (by assumption) (by assumption) (by assumption) (by assumption)
  · exact rdPlain_e (by assumption) (by assumption) (by assumption) (by assumption) (by assumption)
  · exact rdPlain_f (by assumption) (by assumption) (by assumption) (by assumption) (by assumption) (by assumption)
  · exact rdPlain_g (by assumption) (by assumption) (by assumption) (by assumption) (by assumption) (by assumption) (by assumption)
  · exact rdPlain_h (by assumption) (by assumption) (by assumption) (by assumption) (by assumption) (by assumption) (by assumption)


-- read_focus
theorem rows_read_focus : True := by
  w_top off
  k_with_none
  k_with "kba_ints2" => first | kba_ints | (apply ints_lit; (simp only [List.map_cons, List.map_nil, UInt8.reduceToNat, Int.cast_ofNat_Int]); (try exact rfl))
  k_with "compareOp Eq bytes bytes" => (k_here; (with_reducible show wpAny _ _ (compareOp CmpOp.Eq (Value.bytes _ _) (Value.bytes _ _)) _ _ _); (first | refine eq_ints_T (by kba_ints2) (by kba_ints2) (by assumption) ?_ | refine eq_ints_F (by kba_ints2) (by kba_ints2) (by assumption) ?_ | refine eq_ints (by kba_ints2) (by kba_ints2) ?_))
  k_with "compareOp NotEq bytes bytes" => (k_here; (with_reducible show wpAny _ _ (compareOp CmpOp.NotEq (Value.bytes _ _) (Value.bytes _ _)) _ _ _); (refine ne_ints (by kba_ints2) (by kba_ints2) ?_))
  k_with "compareOp NotIn bytes ref" => (k_here; (with_reducible show wpAny _ _ (compareOp CmpOp.NotIn (Value.bytes _ _) (Value.ref _)) _ _ _); (refine notIn_two (by k_asm) (by k_mem) (by kba_ints2) (by kba_ints2) (by kba_ints2) ?_))
  k_with "subscriptTail" => (k_here; (with_reducible show wpAny _ _ (subscriptTail _ (Expr.Slice _ _ none _) (Value.bytes _ _) (Value.ref _)) _ _ _); (with_reducible rename Fr _ _ _ _ => F'); (with_reducible rename News _ _ _ _ => N'); (refine slice_C (s := ⟨_, _, _, _, _⟩) F' N' (by kba_ints2) (by constructor) (by constructor) (by kba_size) (by intro i hi; simp at hi; try (subst hi; omega)) (by intro i hi; simp at hi; try (subst hi; omega)) (by first | exact cut_z3 | exact cut_z2 | exact cut_z | exact cut_mid3 (by omega) | exact cut_mid2 (by omega) | exact cut_lit3 | exact cut_lit2 | exact cut_lit3' | exact cut_lit2' | exact cut_two | exact cut_tail | exact cut_head') ?_); intro _ _ _ _ _ _ kbcK; (try simp only [Int.toNat_zero, Int.toNat_ofNat, List.drop_zero] at kbcK))
  k_with "ktr_room" => first | exact room9 (by assumption) rfl | exact Nat.lt_of_le_of_lt (Nat.le_add_right _ _) (by assumption)
  k_with "ktr_units" => exact units9 (by assumption) rfl
  k_with "getMethod bytes" => (k_here; first | refine meth_starts ?_ | refine meth_split ?_ | refine meth_join ?_)
  k_with "call builtin:bytes.startswith" => (k_here; first | refine call_starts_T (by kba_ints2) (by kba_ints2) (by assumption) ?_ | refine call_starts_F (by kba_ints2) (by kba_ints2) (by assumption) ?_ | refine call_starts_I (by kba_ints2) (by kba_ints2) ?_)
  k_with "CompEnd" => (refine LCg.CompEnd.intro (by assumption) (by assumption) _ (fun _ h => h) (by assumption) (by exact Or.inr ⟨_, by k_mem, rfl, _, rfl⟩) ?_)
  k_with "call type:bytes" => (k_here; (with_reducible show wpAny _ _ (call (Value.type "bytes") [Value.ref _]) _ _ _); (refine' KBa.make_K ?kbaF ?kbaN ?kbah ?kbal ?kbai ?kbar ?kban ?_; (case kbaF => k_asm); (case kbaN => k_asm); (case kbah => rfl); (case kbal => kba_isList); (case kbai => kba_listInts); (case kbar => (repeat' (first | exact List.forall_mem_nil _ | (refine List.forall_mem_cons.mpr ⟨⟨?_, ?_⟩, ?_⟩) | omega | (simp only [fd10, fm10]; omega)))); (case kban => kba_size)); intro _ _ _ F' N' kbaIn; (have kbaM := KBa.ints_make kbaIn))
  k_with "cell_enter" => (refine' code_defC ?k1 ?k2 ?k3 ?k4 ?k5 ?kA ?kF ?kK ?k6 ?k7 ?k8 ?k9 ?kB ?kD ?_ ?c2 ?c3 ?c4; (case kA => exact rfl); (case kF => exact rfl); (case kK => first | exact rfl | assumption); (case k1 => k_asm); (case k2 => k_asm); (case k3 => k_asm); (case k4 => k_asm); (case k5 => k_asm); (case k6 => k_is); (case k7 => k_is); (case k8 => ktr_room); (case k9 => first | exact BindsTo.of_eq rfl | exact binds_K (by k_in) rfl (by k_is) rfl rfl rfl); (case kB => exact rfl); (case kD => decide +kernel); (case c2 => exact rfl); (case c3 => exact rfl); (case c4 => exact rfl); k_whole; intro g' L' h' tk' cells' FG' F' N' Y' B' X' T' l1; (try k_lt l1); k_cells Y'; (try simp only [List.cons_append, List.nil_append] at N'); (try dsimp only); (try k_lift B'); (try k_fold))
  k_with "call builtin:bytes.join" => (k_here; refine call_join_I (by k_asm) (by k_mem) rfl rfl (by kba_ints2) (by kba_ints2) (by kba_ints2) (by kba_ints2) (by first | assumption | decide) (by first | assumption | decide) (by first | assumption | decide) (by first | assumption | decide) ?_; intro _ _ _ kbJ; (try simp only [List.append_nil] at kbJ))
  k_with "units_room" => exact room_deep (by omega)
  k_with "cell_enter" => (refine' code_def ?k1 ?k2 ?k3 ?k4 ?k5 ?kA ?kF ?kK ?k6 ?k7 ?k8 ?k9 ?kB ?_ ?c2 ?c3 ?c4 ?c5; (case kA => exact rfl); (case kF => exact rfl); (case kK => first | exact rfl | assumption); (case k1 => k_asm); (case k2 => k_asm); (case k3 => k_asm); (case k4 => k_asm); (case k5 => k_asm); (case k6 => k_is); (case k7 => k_is); (case k8 => ktr_room); (case k9 => exact binds_K (by k_in) rfl (by k_is) rfl rfl rfl); (case c5 => decide); (case kB => exact locs rfl); (case c2 => exact rfl); (case c3 => exact rfl); (case c4 => exact rfl); k_whole; intro g' L' h' FG' F' N' B' X' T'; (try dsimp only); (try k_fold))
  k_with "walk1" => ((first | with_reducible show wpAny _ _ (exec _ _) _ _ _ | with_reducible show wpAny _ _ (isTrue _ _ _) _ _ _); k_fold)
  trivial
noncomputable def rdFocus (ks : List Int) : Option (Bool × Int) := if ks.take 3 = [27, 91, 73] then some (true, 3) else if ks.take 3 = [27, 91, 79] then some (false, 3) else none
noncomputable def rdFocusAt (ks : List Int) (i : Int) : Option (Bool × Int) := if (ks.drop i.toNat).take 3 = [27, 91, 73] then some (true, i + 3) else if (ks.drop i.toNat).take 3 = [27, 91, 79] then some (false, i + 3) else none
theorem rdFocusAt_0 (ks : List Int) : rdFocusAt ks 0 = rdFocus ks := rfl
noncomputable def FocR (o : Option (Bool × Int)) (news : List (Addr × Obj)) (r : Value) (tl : List (Addr × Obj)) : Prop := match o with
  | none => r = .none ∧ tl = []
  | some (v, n) => ∃ D t2, r = .ref D ∧ tl = [(D, { cls := .type "tuple", data := .seq #[.bool v, .int n t2] })] ∧ ∀ p ∈ news, p.1 < D
theorem focR_none {o : Option (Bool × Int)} {news : List (Addr × Obj)} (e : o = none) : FocR o news .none [] := by subst e; exact ⟨rfl, rfl⟩
theorem focR_some {o : Option (Bool × Int)} {news : List (Addr × Obj)} {v : Bool} {n : Int} {D : Addr} {t2 : Tok} (e : o = some (v, n)) (h : ∀ p ∈ news, p.1 < D) : FocR o news (.ref D) [(D, { cls := .type "tuple", data := .seq #[.bool v, .int n t2] })] := by subst e; exact ⟨D, t2, rfl, rfl, h⟩
section
variable {ks : List Int} {i : Int}
theorem rdFocus_c (h : ¬ ((ks.drop i.toNat).take 3 = [27, 91, 73] ∨ (ks.drop i.toNat).take 3 = [27, 91, 79])) : rdFocusAt ks i = none := (if_neg fun x => h (.inl x)).trans (if_neg fun x => h (.inr x))
theorem rdFocus_a (h : ((min 3 (ks.length - i.toNat) : Nat) : Int) < 3) : rdFocusAt ks i = none := rdFocus_c fun x => by
  have hl : ((ks.drop i.toNat).take 3).length = 3 := by rcases x with x | x <;> rw [x] <;> rfl
  rw [List.length_take, List.length_drop] at hl
  omega
theorem rdFocus_b (h : ((ks.drop i.toNat).take 3).getD (Int.toNat 0) 0 ≠ 27) : rdFocusAt ks i = none := rdFocus_c fun x => h (by rcases x with x | x <;> rw [x] <;> rfl)
theorem rdFocus_d (h : ¬ ¬ ((ks.drop i.toNat).take 3 = [27, 91, 73] ∨ (ks.drop i.toNat).take 3 = [27, 91, 79])) : rdFocusAt ks i = some (decide ((ks.drop i.toNat).take 3 = [27, 91, 73]), i + 3) := by
  have h := Classical.not_not.mp h
  unfold rdFocusAt
  by_cases p : (ks.drop i.toNat).take 3 = [27, 91, 73]
  · rw [if_pos p, decide_eq_true p]
  · rw [if_neg p, if_pos (h.resolve_left p), decide_eq_false p]
end
set_option maxRecDepth 100000 in
set_option maxHeartbeats 8000000 in
theorem con_read_focusG (w : World) (b : Array UInt8) (tb : Tok) (ks : List Int) (i : Int) (ti : Tok) (hb : KBw.bInts b = ks) (h0 : 0 ≤ i) (hi9 : i ≤ 1000) (hl : ks.length ≤ 1000) (vs : List Value) (hbd : Bds w 224 vs [(Str.ofString "octets", .bytes b tb), (Str.ofString "at", .int i ti)]) (news) :
   Con w 1 224 vs news (FocR (rdFocusAt ks i) news) := by
  unfold Con
  intro p loose mean mg mb dp un gd cn cs a ccd cl outer A₀ base h₀ L m s Q E B F X N T hk hd hu hret
  obtain ⟨sh, sg, sd, st, so⟩ := s
  refine wpAny_call ?_
  k_dflt (refine' code_def ?k1 ?k2 ?k3 ?k4 ?k5 ?kA ?kF ?kK ?k6 ?k7 ?k8 ?k9 ?kB ?_ ?c2 ?c3 ?c4 ?c5; (case kA => exact rfl); (case kF => exact rfl); (case kK => first | exact rfl | assumption); (case k1 => k_asm); (case k2 => k_asm); (case k3 => k_asm); (case k4 => k_asm); (case k5 => k_asm); (case k6 => k_is); (case k7 => k_is); (case k8 => ktr_room); (case k9 => exact hbd _ _ _ _ _ (by k_is) (by k_in)); (case c5 => decide); (case kB => exact locs rfl); (case c2 => exact rfl); (case c3 => exact rfl); (case c4 => exact rfl); k_whole; intro g' L' h' FG' F' N' B' X' T'; (try dsimp only); (try k_fold))
  k_steps
  all_goals first
    | refine hret _ [] _ _ (by assumption) (by first | assumption | exact cb_drop (by assumption) cb_t1) ?_
    | refine hret _ [_] _ _ (by assumption) (cb_drop (by assumption) cb_mid1) ?_
  · exact focR_none (rdFocus_a (by assumption))
  · exact focR_none (rdFocus_b (by assumption))
  · exact focR_none (rdFocus_c (by assumption))
  · exact focR_some (rdFocus_d (by assumption)) (ltAll (And.right (by assumption)))
theorem con_read_focus (w : World) (b : Array UInt8) (tb : Tok) (ks : List Int) (hb : KBw.bInts b = ks) (hl : ks.length ≤ 1000) (news) :
   Con w 1 224 [.bytes b tb] news (FocR (rdFocus ks) news) := by
  refine' con_read_focusG w b tb ks 0 534 hb (Int.le_refl 0) (by decide) hl _ (bds_of ?k1 ?k3) news
  case k1 => k_is
  case k3 => exact fun s X => bds_eq (binds_K X rfl (by k_is) rfl rfl rfl) (by rfl)
theorem con_read_focusAt (w : World) (b : Array UInt8) (tb : Tok) (ks : List Int) (i : Int) (ti : Tok) (hb : KBw.bInts b = ks) (h0 : 0 ≤ i) (hi9 : i ≤ 1000) (hl : ks.length ≤ 1000) (news) :
   Con w 1 224 [.bytes b tb, .int i ti] news (FocR (rdFocusAt ks i) news) := by
  refine' con_read_focusG w b tb ks i ti hb h0 hi9 hl _ (bds_of ?k1 ?k3) news
  case k1 => k_is
  case k3 => exact fun s X => bds_eq (binds_K X rfl (by k_is) rfl rfl rfl) (by rfl)
section
variable {need : Nat} {f : Addr} {vs : List Value} {news : List (Addr × Obj)}
    {w : World} {p : Program} {loose : List Str} {mean : ExcName → Option Value} {mg mb : Str → Option Value} {dp un : Nat} {gd : Option (List Code)} {cn : Str} {cs : Scope} {a : Addr} {ccd : Value} {cl : List (Str × Addr)} {outer : List Env} {A₀ : Around} {base h₀ : Heap} {L : Addr} {m : Str → Option Value} {s : Shared}
    {Q E : Value → Shared → Prop}
theorem Con.useKs {v : Bool} {n : Int} {o : Option (Bool × Int)} (C : Con w need f vs news (FocR o news)) (ho : o = some (v, n))
    (B : Below A₀ base outer h₀) (F : Fr h₀ L s.heap m) (X : (hd.heap_1 w.params).In h₀) (N : News h₀ L s.heap news) (T : Top p loose mean mg mb h₀) (hk : cs.kind = .function) (hd : dp + need < recursionLimit) (hu : un + 8 * need < cLine)
    (hs : ∀ D t h' tk', (∀ p ∈ news, p.1 < D) → Fr h₀ L h' m → News h₀ L h' ((D, { cls := .type "tuple", data := .seq #[.bool v, .int n t] }) :: news) → Q (.ref D) { s with heap := h', toks := tk' }) :
    wpAny (model P0 w) (ktrTop dp un gd cn cs L a ccd cl outer) (call (.ref f) vs) Q E s := by
  subst ho
  refine Con.use C B F X N T hk hd hu fun r tl h' tk' F' N' hR => ?_
  obtain ⟨D, t, rfl, rfl, l⟩ := hR; exact hs D t h' tk' l F' N'
theorem Con.useKn {o : Option (Bool × Int)} (C : Con w need f vs news (FocR o news)) (ho : o = none)
    (B : Below A₀ base outer h₀) (F : Fr h₀ L s.heap m) (X : (hd.heap_1 w.params).In h₀) (N : News h₀ L s.heap news) (T : Top p loose mean mg mb h₀) (hk : cs.kind = .function) (hd : dp + need < recursionLimit) (hu : un + 8 * need < cLine)
    (hs : ∀ h' tk', Fr h₀ L h' m → News h₀ L h' news → Q .none { s with heap := h', toks := tk' }) :
    wpAny (model P0 w) (ktrTop dp un gd cn cs L a ccd cl outer) (call (.ref f) vs) Q E s := by
  subst ho
  refine Con.use C B F X N T hk hd hu fun r tl h' tk' F' N' hR => ?_
  obtain ⟨rfl, rfl⟩ := hR; exact hs h' tk' F' N'
end


-- are_dec
theorem rows_are_dec : True := by
  w_top off
  k_with_none
  k_with "kba_ints2" => first | kba_ints | (apply ints_lit; (simp only [List.map_cons, List.map_nil, UInt8.reduceToNat, Int.cast_ofNat_Int]); (try exact rfl))
  k_with "compareOp Eq bytes bytes" => (k_here; (with_reducible show wpAny _ _ (compareOp CmpOp.Eq (Value.bytes _ _) (Value.bytes _ _)) _ _ _); (first | refine eq_ints_T (by kba_ints2) (by kba_ints2) (by assumption) ?_ | refine eq_ints_F (by kba_ints2) (by kba_ints2) (by assumption) ?_ | refine eq_ints (by kba_ints2) (by kba_ints2) ?_))
  k_with "compareOp NotEq bytes bytes" => (k_here; (with_reducible show wpAny _ _ (compareOp CmpOp.NotEq (Value.bytes _ _) (Value.bytes _ _)) _ _ _); (refine ne_ints (by kba_ints2) (by kba_ints2) ?_))
  k_with "compareOp NotIn bytes ref" => (k_here; (with_reducible show wpAny _ _ (compareOp CmpOp.NotIn (Value.bytes _ _) (Value.ref _)) _ _ _); (refine notIn_two (by k_asm) (by k_mem) (by kba_ints2) (by kba_ints2) (by kba_ints2) ?_))
  k_with "subscriptTail" => (k_here; (with_reducible show wpAny _ _ (subscriptTail _ (Expr.Slice _ _ none _) (Value.bytes _ _) (Value.ref _)) _ _ _); (with_reducible rename Fr _ _ _ _ => F'); (with_reducible rename News _ _ _ _ => N'); (refine slice_C (s := ⟨_, _, _, _, _⟩) F' N' (by kba_ints2) (by constructor) (by constructor) (by kba_size) (by intro i hi; simp at hi; try (subst hi; omega)) (by intro i hi; simp at hi; try (subst hi; omega)) (by first | exact cut_z3 | exact cut_z2 | exact cut_z | exact cut_mid3 (by omega) | exact cut_mid2 (by omega) | exact cut_lit3 | exact cut_lit2 | exact cut_lit3' | exact cut_lit2' | exact cut_two | exact cut_tail | exact cut_head') ?_); intro _ _ _ _ _ _ kbcK; (try simp only [Int.toNat_zero, Int.toNat_ofNat, List.drop_zero] at kbcK))
  k_with "ktr_room" => first | exact room9 (by assumption) rfl | exact Nat.lt_of_le_of_lt (Nat.le_add_right _ _) (by assumption)
  k_with "ktr_units" => exact units9 (by assumption) rfl
  k_with "getMethod bytes" => (k_here; first | refine meth_starts ?_ | refine meth_split ?_ | refine meth_join ?_)
  k_with "call builtin:bytes.startswith" => (k_here; first | refine call_starts_T (by kba_ints2) (by kba_ints2) (by assumption) ?_ | refine call_starts_F (by kba_ints2) (by kba_ints2) (by assumption) ?_ | refine call_starts_I (by kba_ints2) (by kba_ints2) ?_)
  k_with "CompEnd" => (refine LCg.CompEnd.intro (by assumption) (by assumption) _ (fun _ h => h) (by assumption) (by exact Or.inr ⟨_, by k_mem, rfl, _, rfl⟩) ?_)
  k_with "call type:bytes" => (k_here; (with_reducible show wpAny _ _ (call (Value.type "bytes") [Value.ref _]) _ _ _); (refine' KBa.make_K ?kbaF ?kbaN ?kbah ?kbal ?kbai ?kbar ?kban ?_; (case kbaF => k_asm); (case kbaN => k_asm); (case kbah => rfl); (case kbal => kba_isList); (case kbai => kba_listInts); (case kbar => (repeat' (first | exact List.forall_mem_nil _ | (refine List.forall_mem_cons.mpr ⟨⟨?_, ?_⟩, ?_⟩) | omega | (simp only [fd10, fm10]; omega)))); (case kban => kba_size)); intro _ _ _ F' N' kbaIn; (have kbaM := KBa.ints_make kbaIn))
  k_with "cell_enter" => (refine' code_defC ?k1 ?k2 ?k3 ?k4 ?k5 ?kA ?kF ?kK ?k6 ?k7 ?k8 ?k9 ?kB ?kD ?_ ?c2 ?c3 ?c4; (case kA => exact rfl); (case kF => exact rfl); (case kK => first | exact rfl | assumption); (case k1 => k_asm); (case k2 => k_asm); (case k3 => k_asm); (case k4 => k_asm); (case k5 => k_asm); (case k6 => k_is); (case k7 => k_is); (case k8 => ktr_room); (case k9 => first | exact BindsTo.of_eq rfl | exact binds_K (by k_in) rfl (by k_is) rfl rfl rfl); (case kB => exact rfl); (case kD => decide +kernel); (case c2 => exact rfl); (case c3 => exact rfl); (case c4 => exact rfl); k_whole; intro g' L' h' tk' cells' FG' F' N' Y' B' X' T' l1; (try k_lt l1); k_cells Y'; (try simp only [List.cons_append, List.nil_append] at N'); (try dsimp only); (try k_lift B'); (try k_fold))
  k_with "call builtin:bytes.join" => (k_here; refine call_join_I (by k_asm) (by k_mem) rfl rfl (by kba_ints2) (by kba_ints2) (by kba_ints2) (by kba_ints2) (by first | assumption | decide) (by first | assumption | decide) (by first | assumption | decide) (by first | assumption | decide) ?_; intro _ _ _ kbJ; (try simp only [List.append_nil] at kbJ))
  k_with "units_room" => exact room_deep (by omega)
  k_with "cell_enter" => (refine' code_def ?k1 ?k2 ?k3 ?k4 ?k5 ?kA ?kF ?kK ?k6 ?k7 ?k8 ?k9 ?kB ?_ ?c2 ?c3 ?c4 ?c5; (case kA => exact rfl); (case kF => exact rfl); (case kK => first | exact rfl | assumption); (case k1 => k_asm); (case k2 => k_asm); (case k3 => k_asm); (case k4 => k_asm); (case k5 => k_asm); (case k6 => k_is); (case k7 => k_is); (case k8 => ktr_room); (case k9 => exact binds_K (by k_in) rfl (by k_is) rfl rfl rfl); (case c5 => decide); (case kB => exact locs rfl); (case c2 => exact rfl); (case c3 => exact rfl); (case c4 => exact rfl); k_whole; intro g' L' h' FG' F' N' B' X' T'; (try dsimp only); (try k_fold))
  trivial
noncomputable def isDec (k : Int) : Bool := (decide (48 ≤ k) && decide (k ≤ 57)) || decide (k = 59)
noncomputable def areDec (ks : List Int) : Bool := ks.all isDec && decide ((ks.filter fun k => decide (k = 59)).length ≤ 2)
theorem len_sieve {prog : Program} {w : World} {A : Around} {E : Value → Shared → Prop} {s : Shared} {D : Addr} {ys : List Value} {ks : List Int} {pz : Int → Bool} {Q : Value → Shared → Prop} (hl : s.heap.IsList D ys.toArray) (hc : CarriedAll ys ((ks.filter pz).map PyData.int)) (hn : ks.length ≤ 1000)
    (h : Q (.int ((ks.filter pz).length : Nat) (s.toks + 1)) { s with toks := s.toks + 1 + 1 }) : wpAny (model prog w) A (call (.builtin "len") [.ref D]) Q E s := by
  have e : ys.toArray.size = (ks.filter pz).length := by rw [List.size_toArray, hc.length_eq, List.length_map]
  have h2 := List.length_filter_le pz ks
  refine len_list hl ?_ ?_
  · rw [e]; omega
  · rw [e]; exact h
noncomputable abbrev sv1 (a' : Int) : Bool := if 48 ≤ a' then if (!decide (a' ≤ 57)) = true then if (a' != 59) = true then true else false else false else if (a' != 59) = true then true else false
theorem sv1_eq (a : Int) : sv1 a = !isDec a := by
  unfold sv1 isDec
  by_cases h1 : 48 ≤ a <;> by_cases h2 : a ≤ 57 <;> by_cases h3 : a = 59 <;> simp [h1, h2, h3]
theorem sv1_nil (ks : List Int) : decide (List.map (fun a => a) (ks.filter sv1) = []) = ks.all isDec := by
  induction ks with
  | nil => rfl
  | cons k r ih =>
    rw [List.all_cons, List.filter_cons, sv1_eq]
    cases isDec k with
    | true => simpa using ih
    | false => rfl
theorem sv2_eq (ks : List Int) : ks.filter (fun a => a == 59) = ks.filter fun k => decide (k = 59) := by
  congr 1
theorem areDec_a {ks : List Int} (h : decide (List.map (fun a => a) (ks.filter sv1) = []) = true) : areDec ks = decide (((ks.filter (fun a => a == 59)).length : Int) ≤ 2) := by
  unfold areDec
  rw [← sv1_nil, h, Bool.true_and, sv2_eq]
  by_cases p : (ks.filter fun k => decide (k = 59)).length ≤ 2
  · rw [decide_eq_true p, decide_eq_true (by omega)]
  · rw [decide_eq_false p, decide_eq_false (by omega)]
theorem areDec_b {ks : List Int} (h : decide (List.map (fun a => a) (ks.filter sv1) = []) = false) : areDec ks = decide (List.map (fun a => a) (ks.filter sv1) = []) := by
  unfold areDec
  rw [← sv1_nil, h, Bool.false_and]
set_option maxRecDepth 100000 in
set_option maxHeartbeats 8000000 in
theorem con_are_dec (w : World) (b : Array UInt8) (tb : Tok) (ks : List Int) (hb : KBw.bInts b = ks) (hl : ks.length ≤ 1000) (news) :
   Con w 12 216 [.bytes b tb] news (ValR fun _ => .bool (areDec ks)) := by
  unfold Con
  intro p loose mean mg mb dp un gd cn cs a ccd cl outer A₀ base h₀ L m s Q E B F X N T hk hd hu hret
  obtain ⟨sh, sg, sd, st, so⟩ := s
  refine wpAny_call ?_
  k_dflt cell_enter
  k_with "pyIter bytes" => first
    | ((rename Fr _ _ _ _ => F'); (rename News _ _ _ _ => N'); (with_reducible apply srcA_bytesD); (case hb => kba_ints2); (case hh => with_unfolding_all rfl); (case F => with_unfolding_all exact F'); (case N => with_unfolding_all exact N'); (case hsz => kba_size); (case' g3 => intros); (case' g2 => (intros; (rename ItemKind.is _ _ _ => i'); ((obtain ⟨_, e'⟩ := ItemKind.int_is i'; subst e')); (try (with_reducible refine wpAny_leafK ?_)))); (case' g1 => (intros; (rename ItemKind.is _ _ _ => i'); ((obtain ⟨_, e'⟩ := ItemKind.int_is i'; subst e')); (try (with_reducible refine wpAny_leafK ?_)))))
    | ((rename Fr _ _ _ _ => F'); (rename News _ _ _ _ => N'); (with_reducible apply srcC_bytesD); (case hb => kba_ints2); (case hh => with_unfolding_all rfl); (case F => with_unfolding_all exact F'); (case N => with_unfolding_all exact N'); (case hsz => kba_size); (case' g3 => intros); (case' g2 => (intros; (rename ItemKind.is _ _ _ => i'); ((obtain ⟨_, e'⟩ := ItemKind.int_is i'; subst e')); (try (with_reducible refine wpAny_leafK ?_)))); (case' g1 => (intros; (rename ItemKind.is _ _ _ => i'); ((obtain ⟨_, e'⟩ := ItemKind.int_is i'; subst e')); (try (with_reducible refine wpAny_leafK ?_)))))
  k_with "call builtin:len" => (k_here; refine len_sieve (by assumption) (by assumption) (by assumption) ?_)
  k_steps
  all_goals refine hret _ [] _ _ (by assumption) (by first | assumption | exact cb_drop (by assumption) (by first | exact fun _ h => .tail _ (h) | exact fun _ h => .tail _ (.tail _ (h)) | exact fun _ h => .tail _ (.tail _ (.tail _ (h))) | exact fun _ h => .tail _ (.tail _ (.tail _ (.tail _ (h)))) | exact fun _ h => .tail _ (.tail _ (.tail _ (.tail _ (.tail _ (h))))) | exact fun _ h => .tail _ (.tail _ (.tail _ (.tail _ (.tail _ (.tail _ (h)))))) | exact fun _ h => .tail _ (.tail _ (.tail _ (.tail _ (.tail _ (.tail _ (.tail _ (h))))))) | exact fun _ h => .tail _ (.tail _ (.tail _ (.tail _ (.tail _ (.tail _ (.tail _ (.tail _ (h)))))))))) (ValR.mk (t := 0) ?_)
  all_goals first
    | exact congrArg Value.bool (areDec_a (by assumption)).symm
    | exact congrArg Value.bool (areDec_b (by assumption)).symm


-- is_begun
theorem rows_is_begun : True := by
  w_top off
  k_with_none
  k_with "kba_ints2" => first | kba_ints | (apply ints_lit; (simp only [List.map_cons, List.map_nil, UInt8.reduceToNat, Int.cast_ofNat_Int]); (try exact rfl))
  k_with "compareOp Eq bytes bytes" => (k_here; (with_reducible show wpAny _ _ (compareOp CmpOp.Eq (Value.bytes _ _) (Value.bytes _ _)) _ _ _); (first | refine eq_ints_T (by kba_ints2) (by kba_ints2) (by assumption) ?_ | refine eq_ints_F (by kba_ints2) (by kba_ints2) (by assumption) ?_ | refine eq_ints (by kba_ints2) (by kba_ints2) ?_))
  k_with "compareOp NotEq bytes bytes" => (k_here; (with_reducible show wpAny _ _ (compareOp CmpOp.NotEq (Value.bytes _ _) (Value.bytes _ _)) _ _ _); (refine ne_ints (by kba_ints2) (by kba_ints2) ?_))
  k_with "compareOp NotIn bytes ref" => (k_here; (with_reducible show wpAny _ _ (compareOp CmpOp.NotIn (Value.bytes _ _) (Value.ref _)) _ _ _); (refine notIn_two (by k_asm) (by k_mem) (by kba_ints2) (by kba_ints2) (by kba_ints2) ?_))
  k_with "subscriptTail" => (k_here; (with_reducible show wpAny _ _ (subscriptTail _ (Expr.Slice _ _ none _) (Value.bytes _ _) (Value.ref _)) _ _ _); (with_reducible rename Fr _ _ _ _ => F'); (with_reducible rename News _ _ _ _ => N'); (refine slice_C (s := ⟨_, _, _, _, _⟩) F' N' (by kba_ints2) (by constructor) (by constructor) (by kba_size) (by intro i hi; simp at hi; try (subst hi; omega)) (by intro i hi; simp at hi; try (subst hi; omega)) (by first | exact cut_z3 | exact cut_z2 | exact cut_z | exact cut_mid3 (by omega) | exact cut_mid2 (by omega) | exact cut_lit3 | exact cut_lit2 | exact cut_lit3' | exact cut_lit2' | exact cut_two | exact cut_tail | exact cut_head') ?_); intro _ _ _ _ _ _ kbcK; (try simp only [Int.toNat_zero, Int.toNat_ofNat, List.drop_zero] at kbcK))
  k_with "ktr_room" => first | exact room9 (by assumption) rfl | exact Nat.lt_of_le_of_lt (Nat.le_add_right _ _) (by assumption)
  k_with "ktr_units" => exact units9 (by assumption) rfl
  k_with "getMethod bytes" => (k_here; first | refine meth_starts ?_ | refine meth_split ?_ | refine meth_join ?_)
  k_with "call builtin:bytes.startswith" => (k_here; first | refine call_starts_T (by kba_ints2) (by kba_ints2) (by assumption) ?_ | refine call_starts_F (by kba_ints2) (by kba_ints2) (by assumption) ?_ | refine call_starts_I (by kba_ints2) (by kba_ints2) ?_)
  k_with "CompEnd" => (refine LCg.CompEnd.intro (by assumption) (by assumption) _ (fun _ h => h) (by assumption) (by exact Or.inr ⟨_, by k_mem, rfl, _, rfl⟩) ?_)
  k_with "call type:bytes" => (k_here; (with_reducible show wpAny _ _ (call (Value.type "bytes") [Value.ref _]) _ _ _); (refine' KBa.make_K ?kbaF ?kbaN ?kbah ?kbal ?kbai ?kbar ?kban ?_; (case kbaF => k_asm); (case kbaN => k_asm); (case kbah => rfl); (case kbal => kba_isList); (case kbai => kba_listInts); (case kbar => (repeat' (first | exact List.forall_mem_nil _ | (refine List.forall_mem_cons.mpr ⟨⟨?_, ?_⟩, ?_⟩) | omega | (simp only [fd10, fm10]; omega)))); (case kban => kba_size)); intro _ _ _ F' N' kbaIn; (have kbaM := KBa.ints_make kbaIn))
  k_with "cell_enter" => (refine' code_defC ?k1 ?k2 ?k3 ?k4 ?k5 ?kA ?kF ?kK ?k6 ?k7 ?k8 ?k9 ?kB ?kD ?_ ?c2 ?c3 ?c4; (case kA => exact rfl); (case kF => exact rfl); (case kK => first | exact rfl | assumption); (case k1 => k_asm); (case k2 => k_asm); (case k3 => k_asm); (case k4 => k_asm); (case k5 => k_asm); (case k6 => k_is); (case k7 => k_is); (case k8 => ktr_room); (case k9 => first | exact BindsTo.of_eq rfl | exact binds_K (by k_in) rfl (by k_is) rfl rfl rfl); (case kB => exact rfl); (case kD => decide +kernel); (case c2 => exact rfl); (case c3 => exact rfl); (case c4 => exact rfl); k_whole; intro g' L' h' tk' cells' FG' F' N' Y' B' X' T' l1; (try k_lt l1); k_cells Y'; (try simp only [List.cons_append, List.nil_append] at N'); (try dsimp only); (try k_lift B'); (try k_fold))
  k_with "call builtin:bytes.join" => (k_here; refine call_join_I (by k_asm) (by k_mem) rfl rfl (by kba_ints2) (by kba_ints2) (by kba_ints2) (by kba_ints2) (by first | assumption | decide) (by first | assumption | decide) (by first | assumption | decide) (by first | assumption | decide) ?_; intro _ _ _ kbJ; (try simp only [List.append_nil] at kbJ))
  k_with "units_room" => exact room_deep (by omega)
  k_with "cell_enter" => (refine' code_def ?k1 ?k2 ?k3 ?k4 ?k5 ?kA ?kF ?kK ?k6 ?k7 ?k8 ?k9 ?kB ?_ ?c2 ?c3 ?c4 ?c5; (case kA => exact rfl); (case kF => exact rfl); (case kK => first | exact rfl | assumption); (case k1 => k_asm); (case k2 => k_asm); (case k3 => k_asm); (case k4 => k_asm); (case k5 => k_asm); (case k6 => k_is); (case k7 => k_is); (case k8 => ktr_room); (case k9 => exact binds_K (by k_in) rfl (by k_is) rfl rfl rfl); (case c5 => decide); (case kB => exact locs rfl); (case c2 => exact rfl); (case c3 => exact rfl); (case c4 => exact rfl); k_whole; intro g' L' h' FG' F' N' B' X' T'; (try dsimp only); (try k_fold))
  k_with "con" => (k_here; (with_reducible show wpAny _ _ (call (Value.ref 216) [Value.bytes _ _]) _ _ _); k_dflt (
    refine Con.useV (con_are_dec _ _ _ _ (by kba_ints2) (by first | assumption | omega | (simp; omega)) _) (by k_asm) (by k_asm) (by k_asm) (by k_asm) (by k_asm) (by first | exact rfl | assumption) (by ktr_room) (by ktr_units) ?_
    (intro t9 h' tk' F' N'; (try dsimp only); (try k_fold))))
  k_with "con" => (k_here; (with_reducible show wpAny _ _ (call (Value.ref 183) [Value.bytes _ _, Value.int _ _, Value.bool _]) _ _ _); k_dflt (
    refine Con.useP (con_code_at _ _ _ _ _ _ _ (by kba_ints2) (by first | assumption | omega | (simp; omega)) (by first | assumption | omega | (simp; omega)) _) (by k_asm) (by k_asm) (by k_asm) (by k_asm) (by k_asm) (by first | exact rfl | assumption) (by ktr_room) (by ktr_units) ?_ ?_
    (rotate_left; (intro v9 n9 D9 t9 t8 h' tk' hO9 l9 F' N'; (try k_lt l9); (try have f9 := code8_bd (by assumption) (by first | assumption | omega) hO9); (try dsimp only); (try k_fold)); rotate_left; (intro hO9 h' tk' F' N'; (try dsimp only); (try k_fold)))))
  k_with "walk1" => ((first | with_reducible show wpAny _ _ (exec _ _) _ _ _ | with_reducible show wpAny _ _ (isTrue _ _ _) _ _ _); k_fold)
  trivial
-- how the loop over at most three codes goes on
noncomputable def more3 (ks : List Int) (u : Bool) : Nat → Int → Bool
  | 0, _ => false
  | k + 1, i => if i < (ks.length : Int) then (match code8 ks i u with
      | none => u && decide (i + 1 = (ks.length : Int)) && decide (194 ≤ ks.getD i.toNat 0) && decide (ks.getD i.toNat 0 ≤ 223)
      | some (_, n) => more3 ks u k n) else true
noncomputable def begun (ks : List Int) (u : Bool) : Bool :=
  if ks = [] ∨ ¬ ([27, 91, 77].take (ks.take 3).length = ks.take 3 ∨ [27, 91, 60].take (ks.take 3).length = ks.take 3) then decide (ks.take 2 = [27, 91]) && areDec (ks.drop 2)
  else if ks.length < 3 then true
  else if ks.take 3 = [27, 91, 60] then areDec (ks.drop 3)
  else more3 ks u 3 3
section
variable {ks R : List Int} {i v n : Int} {u : Bool} {k : Nat}
theorem more_n (h : code8 R i u = none) (hl : i < (R.length : Int)) : more3 R u (k + 1) i = (u && decide (i + 1 = (R.length : Int)) && decide (194 ≤ R.getD i.toNat 0) && decide (R.getD i.toNat 0 ≤ 223)) := by
  rw [more3, if_pos hl, h]
theorem more_s (h : code8 R i u = some (v, n)) (hl : i < (R.length : Int)) : more3 R u (k + 1) i = more3 R u k n := by
  rw [more3, if_pos hl, h]
theorem more_e (hl : ¬ i < (R.length : Int)) : more3 R u (k + 1) i = true := by
  rw [more3, if_neg hl]
theorem more_turn {mn : Int} {bb : Bool} (h : more3 R u (3 - mn).toNat i = bb) (h0 : 0 ≤ mn) (hm : mn < 3) (hc : code8 R i u = some (v, n)) (hl : i < (R.length : Int)) : more3 R u (3 - (mn + 1)).toNat n = bb := by
  have e : (3 - mn).toNat = (3 - (mn + 1)).toNat + 1 := by omega
  rw [e, more_s hc hl] at h
  exact h
theorem more_none {mn : Int} {bb : Bool} (h : more3 R u (3 - mn).toNat i = bb) (h0 : 0 ≤ mn) (hm : mn < 3) (hc : code8 R i u = none) (hl : i < (R.length : Int)) : bb = (u && decide (i + 1 = (R.length : Int)) && decide (194 ≤ R.getD i.toNat 0) && decide (R.getD i.toNat 0 ≤ 223)) := by
  have e : (3 - mn).toNat = (3 - (mn + 1)).toNat + 1 := by omega
  rw [← h, e, more_n hc hl]
theorem more_done {mn : Int} {bb : Bool} (h : more3 R u (3 - mn).toNat i = bb) (h1 : mn ≤ 3) (he : ¬ mn < 3 ∨ ¬ i < (R.length : Int)) : bb = decide (mn < 3) := by
  by_cases hm : mn < 3
  · have e : (3 - mn).toNat = (3 - mn).toNat - 1 + 1 := by omega
    rw [← h, e, more_e (he.resolve_left fun x => x hm), decide_eq_true hm]
  · have e : (3 - mn).toNat = 0 := by omega
    rw [← h, e, decide_eq_false hm]; rfl
theorem begun_a (h : R = []) : begun R u = (decide (R.take 2 = [27, 91]) && areDec (R.drop 2)) := if_pos (.inl h)
theorem begun_b (h : ¬ [27, 91, 77].take (R.take 3).length = R.take 3) (h2 : ¬ [27, 91, 60].take (R.take 3).length = R.take 3) : begun R u = (decide (R.take 2 = [27, 91]) && areDec (R.drop 2)) := if_pos (.inr fun x => x.elim h h2)
theorem begun_c (h0 : R ≠ []) (h : [27, 91, 77].take (R.take 3).length = R.take 3 ∨ [27, 91, 60].take (R.take 3).length = R.take 3) (hl : R.length < 3) : begun R u = true :=
  (if_neg (fun x => x.elim h0 fun y => y h)).trans (if_pos hl)
theorem begun_d (h0 : R ≠ []) (h : [27, 91, 77].take (R.take 3).length = R.take 3 ∨ [27, 91, 60].take (R.take 3).length = R.take 3) (hl : ¬ R.length < 3) (h3 : R.take 3 = [27, 91, 60]) : begun R u = areDec (R.drop 3) :=
  (if_neg (fun x => x.elim h0 fun y => y h)).trans ((if_neg hl).trans (if_pos h3))
theorem begun_e (h0 : R ≠ []) (h : [27, 91, 77].take (R.take 3).length = R.take 3 ∨ [27, 91, 60].take (R.take 3).length = R.take 3) (hl : ¬ R.length < 3) (h3 : ¬ R.take 3 = [27, 91, 60]) : begun R u = more3 R u 3 3 :=
  (if_neg (fun x => x.elim h0 fun y => y h)).trans ((if_neg hl).trans (if_neg h3))
theorem head_ne (h : [27, 91, 77].take (R.take 3).length = R.take 3) : ¬ R.take 3 = [27, 91, 60] := fun e => by
  rw [e] at h
  exact absurd h (by decide)
theorem sgr_of (h : [27, 91, 60].take (R.take 3).length = R.take 3) (hl : ¬ R.length < 3) : R.take 3 = [27, 91, 60] := by
  have : (R.take 3).length = 3 := by rw [List.length_take]; omega
  rw [this] at h
  exact h.symm
theorem call_starts_c {b c : Array UInt8} {t u : Tok} {ks ls : List Int} {prog : Program} {w : World} {A : Around} {E Q : Value → Shared → Prop} {s : Shared} (hb : KBw.bInts b = ks) (hc : KBw.bInts c = ls)
    (h1 : ks.take ls.length = ls → Q (.bool true) s) (h2 : ¬ ks.take ls.length = ls → Q (.bool false) s) : wpAny (model prog w) A (call (.builtin "bytes.startswith") [.bytes b t, .bytes c u]) Q E s := by
  by_cases e : ks.take ls.length = ls
  · exact call_starts_T hb hc e (h1 e)
  · exact call_starts_F hb hc e (h2 e)
theorem dropLen : (((ks.drop i.toNat).length : Nat) : Int) = ((ks.length - i.toNat : Nat) : Int) := by rw [List.length_drop]
end
set_option maxRecDepth 100000 in
set_option maxHeartbeats 8000000 in
theorem con_is_begunG (w : World) (b : Array UInt8) (tb : Tok) (ks : List Int) (i : Int) (ti : Tok) (u : Bool) (hb : KBw.bInts b = ks) (h0 : 0 ≤ i) (hl : ks.length ≤ 1000) (vs : List Value) (hbd : Bds w 211 vs [(Str.ofString "octets", .bytes b tb), (Str.ofString "at", .int i ti), (Str.ofString "is_utf8", .bool u)]) (news) :
   Con w 14 211 vs news (ValR fun _ => .bool (begun (ks.drop i.toNat) u)) := by
  unfold Con
  intro p loose mean mg mb dp un gd cn cs a ccd cl outer A₀ base h₀ L m s Q E B F X N T hk hd hu hret
  obtain ⟨sh, sg, sd, st, so⟩ := s
  have hd3 : ((ks.length - i.toNat : Nat) : Int) = ((ks.drop i.toNat).length : Nat) := dropLen.symm
  refine wpAny_call ?_
  k_dflt (refine' code_def ?k1 ?k2 ?k3 ?k4 ?k5 ?kA ?kF ?kK ?k6 ?k7 ?k8 ?k9 ?kB ?_ ?c2 ?c3 ?c4 ?c5; (case kA => exact rfl); (case kF => exact rfl); (case kK => first | exact rfl | assumption); (case k1 => k_asm); (case k2 => k_asm); (case k3 => k_asm); (case k4 => k_asm); (case k5 => k_asm); (case k6 => k_is); (case k7 => k_is); (case k8 => ktr_room); (case k9 => exact hbd _ _ _ _ _ (by k_is) (by k_in)); (case c5 => decide); (case kB => exact locs rfl); (case c2 => exact rfl); (case c3 => exact rfl); (case c4 => exact rfl); k_whole; intro g' L' h' FG' F' N' B' X' T'; (try dsimp only); (try k_fold))
  k_with "call builtin:bytes.startswith" => (k_here; refine call_starts_c (by kba_ints2) (by kba_ints2) ?_ ?_ <;> intro hE9)
  k_with "compareOp Eq bytes bytes" => (k_here; first | refine eq_ints_F (by kba_ints2) (by kba_ints2) (head_ne (by assumption)) ?_ | refine eq_ints_T (by kba_ints2) (by kba_ints2) (sgr_of (by assumption) (by omega)) ?_ | (refine eq_ints_c (by kba_ints2) (by kba_ints2) ?_ ?_ <;> intro hE9))
  k_with "exec While BoolOp cons nil" => k_while (fun _ pl mn => (3 ≤ pl ∧ 0 ≤ mn ∧ mn ≤ 3) ∧ more3 (ks.drop i.toNat) u (3 - mn).toNat pl = more3 (ks.drop i.toNat) u 3 3) (fun _ _ mn => (3 - mn).toNat) "place" "many"
  k_with "state" => first | exact ⟨⟨by omega, by omega, by omega⟩, rfl⟩ | exact ⟨⟨by omega, by omega, by omega⟩, more_turn (by assumption) (by omega) (by assumption) (by assumption) (by omega)⟩
  k_steps
  all_goals refine hret _ [] _ _ (by assumption) (by first | assumption | exact cb_drop (by assumption) (by first | exact fun _ h => .tail _ (h) | exact fun _ h => .tail _ (.tail _ (h)) | exact fun _ h => .tail _ (.tail _ (.tail _ (h))) | exact fun _ h => .tail _ (.tail _ (.tail _ (.tail _ (h)))) | exact fun _ h => .tail _ (.tail _ (.tail _ (.tail _ (.tail _ (h))))) | exact fun _ h => .tail _ (.tail _ (.tail _ (.tail _ (.tail _ (.tail _ (h)))))) | exact fun _ h => .tail _ (.tail _ (.tail _ (.tail _ (.tail _ (.tail _ (.tail _ (h))))))) | exact fun _ h => .tail _ (.tail _ (.tail _ (.tail _ (.tail _ (.tail _ (.tail _ (.tail _ (h)))))))))) (ValR.mk (t := 0) ?_)
  all_goals refine congrArg Value.bool (Eq.symm ?_)
  all_goals first
    | (refine (begun_a (by assumption)).trans ?_; first | (rw [decide_eq_true (by assumption), Bool.true_and]) | (rw [decide_eq_false (by assumption), Bool.false_and]))
    | (refine (begun_b (by assumption) (by assumption)).trans ?_; first | (rw [decide_eq_true (by assumption), Bool.true_and]) | (rw [decide_eq_false (by assumption), Bool.false_and]))
    | exact begun_c (by assumption) (.inl (by assumption)) (by omega)
    | exact begun_c (by assumption) (.inr (by assumption)) (by omega)
    | exact begun_d (by assumption) (.inr (by assumption)) (by omega) (sgr_of (by assumption) (by omega))
    | (refine (begun_e (by assumption) (.inl (by assumption)) (by omega) (head_ne (by assumption))).trans ?_
       first
         | exact more_done (by assumption) (by omega) (.inl (by assumption))
         | exact more_done (by assumption) (by omega) (.inr (by omega))
         | (refine (more_none (by assumption) (by omega) (by assumption) (by assumption) (by omega)).trans ?_
            first
              | (subst u; rfl)
              | (subst u; rw [decide_eq_true (by omega), decide_eq_true (by assumption)]; rfl)
              | (subst u; rw [decide_eq_true (by omega), decide_eq_false (by assumption)]; rfl)
              | (subst u; rw [hd3, Bool.true_and, decide_eq_false (by omega), Bool.false_and, Bool.false_and]; exact (beq_false_of_ne (by omega)).symm)))
theorem con_is_begun (w : World) (b : Array UInt8) (tb : Tok) (ks : List Int) (i : Int) (ti : Tok) (u : Bool) (hb : KBw.bInts b = ks) (h0 : 0 ≤ i) (hl : ks.length ≤ 1000) (news) :
   Con w 14 211 [.bytes b tb, .int i ti, .bool u] news (ValR fun _ => .bool (begun (ks.drop i.toNat) u)) := by
  refine' con_is_begunG w b tb ks i ti u hb h0 hl _ (bds_of ?k1 ?k3) news
  case k1 => k_is
  case k3 => exact fun s X => bds_eq (binds_K X rfl (by k_is) rfl rfl rfl) (by rfl)
theorem con_is_begun0 (w : World) (b : Array UInt8) (tb : Tok) (ks : List Int) (hb : KBw.bInts b = ks) (hl : ks.length ≤ 1000) (news) :
   Con w 14 211 [.bytes b tb] news (ValR fun _ => .bool (begun ks false)) := by
  refine' con_is_begunG w b tb ks 0 514 false hb (Int.le_refl 0) hl _ (bds_of ?k1 ?k3) news
  case k1 => k_is
  case k3 => exact fun s X => bds_eq (binds_K X rfl (by k_is) rfl rfl rfl) (by rfl)


-- dec_at
theorem rows_dec_at : True := by
  w_top off
  k_with_none
  k_with "kba_ints2" => first | kba_ints | (apply ints_lit; (simp only [List.map_cons, List.map_nil, UInt8.reduceToNat, Int.cast_ofNat_Int]); (try exact rfl))
  k_with "compareOp Eq bytes bytes" => (k_here; (with_reducible show wpAny _ _ (compareOp CmpOp.Eq (Value.bytes _ _) (Value.bytes _ _)) _ _ _); (first | refine eq_ints_T (by kba_ints2) (by kba_ints2) (by assumption) ?_ | refine eq_ints_F (by kba_ints2) (by kba_ints2) (by assumption) ?_ | refine eq_ints (by kba_ints2) (by kba_ints2) ?_))
  k_with "compareOp NotEq bytes bytes" => (k_here; (with_reducible show wpAny _ _ (compareOp CmpOp.NotEq (Value.bytes _ _) (Value.bytes _ _)) _ _ _); (refine ne_ints (by kba_ints2) (by kba_ints2) ?_))
  k_with "compareOp NotIn bytes ref" => (k_here; (with_reducible show wpAny _ _ (compareOp CmpOp.NotIn (Value.bytes _ _) (Value.ref _)) _ _ _); (refine notIn_two (by k_asm) (by k_mem) (by kba_ints2) (by kba_ints2) (by kba_ints2) ?_))
  k_with "subscriptTail" => (k_here; (with_reducible show wpAny _ _ (subscriptTail _ (Expr.Slice _ _ none _) (Value.bytes _ _) (Value.ref _)) _ _ _); (with_reducible rename Fr _ _ _ _ => F'); (with_reducible rename News _ _ _ _ => N'); (refine slice_C (s := ⟨_, _, _, _, _⟩) F' N' (by kba_ints2) (by constructor) (by constructor) (by kba_size) (by intro i hi; simp at hi; try (subst hi; omega)) (by intro i hi; simp at hi; try (subst hi; omega)) (by first | exact cut_z3 | exact cut_z2 | exact cut_z | exact cut_mid3 (by omega) | exact cut_mid2 (by omega) | exact cut_lit3 | exact cut_lit2 | exact cut_lit3' | exact cut_lit2' | exact cut_two | exact cut_tail | exact cut_head') ?_); intro _ _ _ _ _ _ kbcK; (try simp only [Int.toNat_zero, Int.toNat_ofNat, List.drop_zero] at kbcK))
  k_with "ktr_room" => first | exact room9 (by assumption) rfl | exact Nat.lt_of_le_of_lt (Nat.le_add_right _ _) (by assumption)
  k_with "ktr_units" => exact units9 (by assumption) rfl
  k_with "getMethod bytes" => (k_here; first | refine meth_starts ?_ | refine meth_split ?_ | refine meth_join ?_)
  k_with "call builtin:bytes.startswith" => (k_here; first | refine call_starts_T (by kba_ints2) (by kba_ints2) (by assumption) ?_ | refine call_starts_F (by kba_ints2) (by kba_ints2) (by assumption) ?_ | refine call_starts_I (by kba_ints2) (by kba_ints2) ?_)
  k_with "CompEnd" => (refine LCg.CompEnd.intro (by assumption) (by assumption) _ (fun _ h => h) (by assumption) (by exact Or.inr ⟨_, by k_mem, rfl, _, rfl⟩) ?_)
  k_with "call type:bytes" => (k_here; (with_reducible show wpAny _ _ (call (Value.type "bytes") [Value.ref _]) _ _ _); (refine' KBa.make_K ?kbaF ?kbaN ?kbah ?kbal ?kbai ?kbar ?kban ?_; (case kbaF => k_asm); (case kbaN => k_asm); (case kbah => rfl); (case kbal => kba_isList); (case kbai => kba_listInts); (case kbar => (repeat' (first | exact List.forall_mem_nil _ | (refine List.forall_mem_cons.mpr ⟨⟨?_, ?_⟩, ?_⟩) | omega | (simp only [fd10, fm10]; omega)))); (case kban => kba_size)); intro _ _ _ F' N' kbaIn; (have kbaM := KBa.ints_make kbaIn))
  k_with "cell_enter" => (refine' code_defC ?k1 ?k2 ?k3 ?k4 ?k5 ?kA ?kF ?kK ?k6 ?k7 ?k8 ?k9 ?kB ?kD ?_ ?c2 ?c3 ?c4; (case kA => exact rfl); (case kF => exact rfl); (case kK => first | exact rfl | assumption); (case k1 => k_asm); (case k2 => k_asm); (case k3 => k_asm); (case k4 => k_asm); (case k5 => k_asm); (case k6 => k_is); (case k7 => k_is); (case k8 => ktr_room); (case k9 => first | exact BindsTo.of_eq rfl | exact binds_K (by k_in) rfl (by k_is) rfl rfl rfl); (case kB => exact rfl); (case kD => decide +kernel); (case c2 => exact rfl); (case c3 => exact rfl); (case c4 => exact rfl); k_whole; intro g' L' h' tk' cells' FG' F' N' Y' B' X' T' l1; (try k_lt l1); k_cells Y'; (try simp only [List.cons_append, List.nil_append] at N'); (try dsimp only); (try k_lift B'); (try k_fold))
  k_with "call builtin:bytes.join" => (k_here; refine call_join_I (by k_asm) (by k_mem) rfl rfl (by kba_ints2) (by kba_ints2) (by kba_ints2) (by kba_ints2) (by first | assumption | decide) (by first | assumption | decide) (by first | assumption | decide) (by first | assumption | decide) ?_; intro _ _ _ kbJ; (try simp only [List.append_nil] at kbJ))
  k_with "units_room" => exact room_deep (by omega)
  k_with "cell_enter" => (refine' code_def ?k1 ?k2 ?k3 ?k4 ?k5 ?kA ?kF ?kK ?k6 ?k7 ?k8 ?k9 ?kB ?_ ?c2 ?c3 ?c4 ?c5; (case kA => exact rfl); (case kF => exact rfl); (case kK => first | exact rfl | assumption); (case k1 => k_asm); (case k2 => k_asm); (case k3 => k_asm); (case k4 => k_asm); (case k5 => k_asm); (case k6 => k_is); (case k7 => k_is); (case k8 => ktr_room); (case k9 => exact binds_K (by k_in) rfl (by k_is) rfl rfl rfl); (case c5 => decide); (case kB => exact locs rfl); (case c2 => exact rfl); (case c3 => exact rfl); (case c4 => exact rfl); k_whole; intro g' L' h' FG' F' N' B' X' T'; (try dsimp only); (try k_fold))
  k_with "con" => (k_here; (with_reducible show wpAny _ _ (call (Value.ref 28) [Value.bytes _ _]) _ _ _); k_dflt (
    refine Con.useI (con_number_of _ _ _ _ (by kba_ints2) (by first | assumption | omega | (simp; omega)) _) (by k_asm) (by k_asm) (by k_asm) (by k_asm) (by k_asm) (by first | exact rfl | assumption) (by ktr_room) (by ktr_units) ?_ ?_
    (rotate_left; (intro v9 t9 h' tk' hO9 F' N'; (try dsimp only); (try k_fold)); rotate_left; (intro hO9 h' tk' F' N'; (try dsimp only); (try k_fold)))))
  k_with "con" => (k_here; (with_reducible show wpAny _ _ (call (Value.ref 28) [Value.bytes _ _]) _ _ _); k_dflt (
    refine Con.useIs (con_number_of _ _ _ _ (by kba_ints2) (by first | assumption | omega | (simp; omega)) _) (by assumption) (by k_asm) (by k_asm) (by k_asm) (by k_asm) (by k_asm) (by first | exact rfl | assumption) (by ktr_room) (by ktr_units) ?_
    (intro t9 h' tk' F' N'; (try dsimp only); (try k_fold))))
  k_with "con" => (k_here; (with_reducible show wpAny _ _ (call (Value.ref 216) [Value.bytes _ _]) _ _ _); k_dflt (
    refine Con.useV (con_are_dec _ _ _ _ (by kba_ints2) (by first | assumption | omega | (simp; omega)) _) (by k_asm) (by k_asm) (by k_asm) (by k_asm) (by k_asm) (by first | exact rfl | assumption) (by ktr_room) (by ktr_units) ?_
    (intro t9 h' tk' F' N'; (try dsimp only); (try k_fold))))
  k_with "walk1" => ((first | with_reducible show wpAny _ _ (exec _ _) _ _ _ | with_reducible show wpAny _ _ (isTrue _ _ _) _ _ _); k_fold)
  trivial
-- the parts between semicolons, over ints
noncomputable def splitI : List Int → List (List Int)
  | [] => [[]]
  | c :: r => if c = 59 then [] :: splitI r else match splitI r with | [] => [[c]] | p :: ps => (c :: p) :: ps
theorem splitI_eq : ∀ l : List UInt8, splitI (l.map fun c => (c.toNat : Int)) = (splitL l).map fun p => p.map fun c => (c.toNat : Int)
  | [] => rfl
  | c :: r => by
    have ih := splitI_eq r
    have hc : ((c.toNat : Int) = 59) ↔ c = 59 := by
      constructor
      · intro h
        exact UInt8.toNat_inj.mp (by show c.toNat = 59; omega)
      · intro h; subst h; rfl
    rw [List.map_cons, splitI, splitL]
    by_cases h : c = 59
    · rw [if_pos h, if_pos (hc.mpr h), ih]; rfl
    · rw [if_neg h, if_neg (fun x => h (hc.mp x)), ih]
      cases splitL r <;> rfl
theorem splitI_ne (l : List Int) : splitI l ≠ [] := by
  cases l with
  | nil => simp [splitI]
  | cons c r =>
    unfold splitI
    split
    · simp
    · split <;> simp
theorem parts_ints {b : Array UInt8} {ks : List Int} (hb : KBw.bInts b = ks) : (partsB b #[59]).map KBw.bInts = splitI ks := by
  have h := parts_eq b
  have e : KBw.bInts b = b.toList.map fun c => (c.toNat : Int) := rfl
  rw [← hb, e, splitI_eq, ← h, List.map_map]
  rfl
-- the run of octets of decimals
noncomputable def decSp (ks : List Int) (i : Int) : List Int := (ks.drop i.toNat).takeWhile isDec
noncomputable def DecR (o : Option ((Int × Int × Int) × Int × Int)) (news : List (Addr × Obj)) (r : Value) (tl : List (Addr × Obj)) : Prop := match o with
  | none => r = .none ∧ tl = []
  | some ((a, b, c), t, n) => ∃ T D t1 t2 t3 t4 t5 k, r = .ref T ∧ tl = [(T, { cls := .type "tuple", data := .seq #[.ref D, .int t t4, .int n t5] }), (D, listOf #[.int a t1, .int b t2, .int c t3] k)] ∧ (∀ p ∈ news, p.1 < T) ∧ D < T
noncomputable def decAt (ks : List Int) (i : Int) : Option ((Int × Int × Int) × Int × Int) := match splitI (decSp ks i) with
  | [p, q, r] => match numOf p, numOf q, numOf r with
    | some x, some y, some z => if i + (decSp ks i).length < (ks.length : Int) then some ((x, y, z), ks.getD (i + (decSp ks i).length).toNat 0, i + (decSp ks i).length + 1) else none
    | _, _, _ => none
  | _ => none
-- between the turns of the search for the end
noncomputable def DecW (ks : List Int) (i n : Int) : Prop := i ≤ n ∧ n ≤ max i (ks.length : Int) ∧ ∀ j : Nat, i.toNat ≤ j → j < n.toNat → isDec (ks.getD j 0) = true
theorem decW_start {ks : List Int} {i : Int} : DecW ks i i := ⟨Int.le_refl _, by omega, fun j h1 h2 => by omega⟩
theorem decW_step {ks : List Int} {i n : Int} (h0 : 0 ≤ i) (h : DecW ks i n) (hl : n < (ks.length : Int)) (hd : isDec (ks.getD n.toNat 0) = true) : DecW ks i (n + 1) := by
  obtain ⟨h1, h2, h3⟩ := h
  refine ⟨by omega, by omega, fun j hj1 hj2 => ?_⟩
  by_cases e : j = n.toNat
  · rw [e]; exact hd
  · exact h3 j hj1 (by omega)
theorem decW_end {ks : List Int} {i n : Int} (h0 : 0 ≤ i) (h : DecW ks i n) (he : ¬ n < (ks.length : Int) ∨ isDec (ks.getD n.toNat 0) = false) : (ks.drop i.toNat).take (n.toNat - i.toNat) = decSp ks i ∧ (i ≤ ks.length → n = i + (decSp ks i).length) := by
  obtain ⟨h1, h2, h3⟩ := h
  have key : ∀ (l : List Int) (k : Nat), (∀ j, j < k → isDec (l.getD j 0) = true) → (l.length ≤ k ∨ isDec (l.getD k 0) = false) → k ≤ l.length → l.takeWhile isDec = l.take k := by
    intro l
    induction l with
    | nil => intro k _ _ hk; simp
    | cons a r ih =>
      intro k hk he hkl
      cases k with
      | zero =>
        rcases he with he | he
        · simp at he
        · have : isDec a = false := he
          simp [this]
      | succ k =>
        have ha : isDec a = true := hk 0 (by omega)
        rw [List.takeWhile_cons, if_pos ha, List.take_succ_cons, ih k (fun j hj => hk (j + 1) (by omega)) ?_ (by simpa using hkl)]
        rcases he with he | he
        · exact .inl (by simpa using he)
        · exact .inr he
  have gd : ∀ j : Nat, (ks.drop i.toNat).getD j 0 = ks.getD (i.toNat + j) 0 := fun j => by
    rw [List.getD_eq_getElem?_getD, List.getD_eq_getElem?_getD, List.getElem?_drop]
  by_cases hi : i ≤ ks.length
  · have hk : n.toNat - i.toNat ≤ (ks.drop i.toNat).length := by rw [List.length_drop]; omega
    have e := key (ks.drop i.toNat) (n.toNat - i.toNat) (fun j hj => by rw [gd]; exact h3 _ (by omega) (by omega)) (by
      rcases he with he | he
      · exact .inl (by rw [List.length_drop]; omega)
      · refine .inr ?_
        rw [gd]
        have : i.toNat + (n.toNat - i.toNat) = n.toNat := by omega
        rw [this]; exact he) hk
    unfold decSp
    rw [e]
    refine ⟨rfl, fun _ => ?_⟩
    rw [List.length_take, Nat.min_eq_left hk]
    omega
  · have hd : ks.drop i.toNat = [] := List.drop_eq_nil_of_le (by omega)
    unfold decSp
    rw [hd]
    exact ⟨by simp, fun x => absurd x hi⟩
theorem numOf_bd {p : List Int} {v : Int} (hl : p.length ≤ 3) (h : numOf p = some v) : 0 ≤ v ∧ v ≤ 999 := by
  have key : ∀ (n : Nat) (pre : List Int), pre.length = n → allD pre → pre.length ≤ 3 → NumW pre (numF pre) := by
    intro n
    induction n with
    | zero =>
      intro pre e _ _
      rw [List.eq_nil_of_length_eq_zero e]
      exact numW_nil
    | succ n ih =>
      intro pre e hd hl
      have hne : pre ≠ [] := by intro x; rw [x] at e; simp at e
      have hs := (List.dropLast_concat_getLast hne).symm
      have ha := hd _ (List.getLast_mem hne)
      have hlen : pre.dropLast.length = n := by rw [List.length_dropLast]; omega
      rw [hs, numF_snoc]
      exact numW_snoc (ih _ hlen (fun k hk => hd k (List.dropLast_subset _ hk)) (by omega)) (by omega) ha.1 ha.2
  unfold numOf at h
  split at h
  · cases h
    rename_i hc
    have := key _ p rfl hc.2 hl
    exact ⟨this.2.2.1, this.2.2.2.1⟩
  · cases h
-- decimals as they come: all parts but the last are whole
noncomputable def GoodDec (sp : List Int) : Prop := (∃ P, splitI sp = [P] ∧ P.length ≤ 3) ∨ (∃ P x Q, splitI sp = [P, Q] ∧ numOf P = some x ∧ P.length ≤ 3 ∧ Q.length ≤ 3) ∨ (∃ P x Q y R, splitI sp = [P, Q, R] ∧ numOf P = some x ∧ numOf Q = some y ∧ P.length ≤ 3 ∧ Q.length ≤ 3 ∧ R.length ≤ 3)
section
variable {prog : Program} {w : World} {A : Around} {E : Value → Shared → Prop} {s : Shared} {h₀ : Heap} {L : Addr} {m : PySem.Str → Option Value} {news : List (Addr × Obj)} {Q : Value → Shared → Prop} {b : Array UInt8} {t u : Tok} {sp : List Int}
theorem call_split3 (F : Fr h₀ L s.heap m) (N : News h₀ L s.heap news) (hb : KBw.bInts b = sp) (hz : sp.length ≤ 1000) (hg : GoodDec sp)
    (h1 : ∀ p P, KBw.bInts p = P → splitI sp = [P] → P.length ≤ 3 → ∀ D k0 h' k, Fr h₀ L h' m → News h₀ L h' ((D, listOf #[.bytes p k0] 0) :: news) → (∀ p ∈ news, p.1 < D) → Q (.ref D) { s with heap := h', toks := k })
    (h2 : ∀ p P q Q', KBw.bInts p = P → KBw.bInts q = Q' → splitI sp = [P, Q'] → P.length ≤ 3 → Q'.length ≤ 3 → ∀ x, numOf P = some x → ∀ D k0 k1 h' k, Fr h₀ L h' m → News h₀ L h' ((D, listOf #[.bytes p k0, .bytes q k1] 0) :: news) → (∀ p ∈ news, p.1 < D) → Q (.ref D) { s with heap := h', toks := k })
    (h3 : ∀ p P q Q' r R, KBw.bInts p = P → KBw.bInts q = Q' → KBw.bInts r = R → splitI sp = [P, Q', R] → P.length ≤ 3 → Q'.length ≤ 3 → R.length ≤ 3 → ∀ x, numOf P = some x → ∀ y, numOf Q' = some y → ∀ D k0 k1 k2 h' k, Fr h₀ L h' m → News h₀ L h' ((D, listOf #[.bytes p k0, .bytes q k1, .bytes r k2] 0) :: news) → (∀ p ∈ news, p.1 < D) → Q (.ref D) { s with heap := h', toks := k }) :
    wpAny (model prog w) A (call (.builtin "bytes.split") [.bytes b t, .bytes #[59] u]) Q E s := by
  have hp := parts_ints hb
  have len : ∀ l : List Int, ∀ p ∈ splitI l, p.length ≤ l.length := by
    intro l
    induction l with
    | nil => intro p hp; simp [splitI] at hp; simp [hp]
    | cons a r ih =>
      intro p hp
      unfold splitI at hp
      split at hp
      · rcases List.mem_cons.mp hp with rfl | hp
        · simp
        · have := ih p hp; simp; omega
      · split at hp
        · rename_i he
          exact absurd he (splitI_ne r)
        · rename_i q qs he
          rcases List.mem_cons.mp hp with rfl | hp
          · have := ih q (by rw [he]; exact .head _); simp; omega
          · have := ih p (by rw [he]; exact .tail _ hp); simp; omega
  have hsz : ∀ p ∈ partsB b #[59], p.size ≤ sizeLine := fun p hm => by
    have := len sp (KBw.bInts p) (by rw [← hp]; exact List.mem_map_of_mem hm)
    rw [KBw.ints_length] at this
    rw [sizeLine_eq]; omega
  have hlen : (partsB b #[59]).length ≤ 3 := by
    have e : (partsB b #[59]).length = (splitI sp).length := by rw [← hp, List.length_map]
    rw [e]
    rcases hg with ⟨P, e, _⟩ | ⟨P, x, Q', e, _⟩ | ⟨P, x, Q', y, R, e, _⟩ <;> rw [e] <;> simp
  refine call_split (parts := partsB b #[59]) F N rfl hsz (by rw [sizeLine_eq]; omega) fun D k0 h' k F' N' l => ?_
  rcases hg with ⟨P, e, l1⟩ | ⟨P, x, Q', e, hx, l1, l2⟩ | ⟨P, x, Q', y, R, e, hx, hy, l1, l2, l3⟩
  · rw [e] at hp
    rcases he : partsB b #[59] with _ | ⟨p, _ | ⟨q, r⟩⟩
    · rw [he] at hp; cases hp
    · rw [he] at hp N'
      have e1 : KBw.bInts p = P := (List.cons.inj hp).1
      exact h1 p _ e1 e l1 D k0 h' k F' N' l
    · rw [he] at hp; cases hp
  · rw [e] at hp
    rcases he : partsB b #[59] with _ | ⟨p, _ | ⟨q, _ | ⟨r, z⟩⟩⟩
    · rw [he] at hp; cases hp
    · rw [he] at hp; cases hp
    · rw [he] at hp N'
      have e1 : KBw.bInts p = P := (List.cons.inj hp).1
      have e2 : KBw.bInts q = Q' := (List.cons.inj (List.cons.inj hp).2).1
      exact h2 p _ q _ e1 e2 e l1 l2 x hx D k0 (k0 + 1) h' k F' N' l
    · rw [he] at hp; cases hp
  · rw [e] at hp
    rcases he : partsB b #[59] with _ | ⟨p, _ | ⟨q, _ | ⟨r, _ | ⟨z, v⟩⟩⟩⟩
    · rw [he] at hp; cases hp
    · rw [he] at hp; cases hp
    · rw [he] at hp; cases hp
    · rw [he] at hp N'
      have e1 : KBw.bInts p = P := (List.cons.inj hp).1
      have e2 : KBw.bInts q = Q' := (List.cons.inj (List.cons.inj hp).2).1
      have e3 : KBw.bInts r = R := (List.cons.inj (List.cons.inj (List.cons.inj hp).2).2).1
      exact h3 p _ q _ r _ e1 e2 e3 e l1 l2 l3 x hx y hy D k0 (k0 + 1) (k0 + 1 + 1) h' k F' N' l
    · rw [he] at hp; cases hp
end
theorem decR_none {o : Option ((Int × Int × Int) × Int × Int)} {news : List (Addr × Obj)} (e : o = none) : DecR o news .none [] := by subst e; exact ⟨rfl, rfl⟩
theorem decR_some {o : Option ((Int × Int × Int) × Int × Int)} {news : List (Addr × Obj)} {a b c t n : Int} {T D : Addr} {t1 t2 t3 t4 t5 : Tok} (e : o = some ((a, b, c), t, n)) (h : ∀ p ∈ news, p.1 < T) (h2 : D < T) :
    DecR o news (.ref T) [(T, { cls := .type "tuple", data := .seq #[.ref D, .int t t4, .int n t5] }), (D, LCg.lst [.int a t1, .int b t2, .int c t3])] := by subst e; exact ⟨T, D, t1, t2, t3, t4, t5, 3, rfl, rfl, h, h2⟩
section
variable {ks P Q R : List Int} {i n x y z : Int}
theorem decAt_1 (h : splitI (decSp ks i) = [P]) : decAt ks i = none := by unfold decAt; rw [h]
theorem decAt_2 (h : splitI (decSp ks i) = [P, Q]) : decAt ks i = none := by unfold decAt; rw [h]
theorem decAt_a (h : splitI (decSp ks i) = [P, Q, R]) (hz : numOf R = none) : decAt ks i = none := by
  unfold decAt; rw [h]; dsimp only; rw [hz]
  cases numOf P <;> cases numOf Q <;> rfl
theorem decAt_b (h : splitI (decSp ks i) = [P, Q, R]) (hl : (ks.length : Int) ≤ i + (decSp ks i).length) : decAt ks i = none := by
  unfold decAt; rw [h]; dsimp only
  cases numOf P <;> cases numOf Q <;> cases numOf R <;> first | rfl | exact if_neg (by omega)
theorem decAt_c (h : splitI (decSp ks i) = [P, Q, R]) (hx : numOf P = some x) (hy : numOf Q = some y) (hz : numOf R = some z) (hl : ¬ (ks.length : Int) ≤ n) (hn : n = i + (decSp ks i).length) : decAt ks i = some ((x, y, z), ks.getD n.toNat 0, n + 1) := by
  unfold decAt; rw [h]; dsimp only; rw [hx, hy, hz, hn]; exact if_pos (by omega)
end
theorem decSp_len {ks : List Int} {i : Int} (h : ks.length ≤ 1000) : (decSp ks i).length ≤ 1000 := by
  have h1 := (List.takeWhile_sublist isDec (l := ks.drop i.toNat)).length_le
  rw [List.length_drop] at h1
  unfold decSp
  omega
theorem isDec_of {k : Int} (h : (48 ≤ k ∧ k ≤ 57) ∨ k = 59) : isDec k = true := by
  unfold isDec
  rcases h with ⟨h1, h2⟩ | h
  · simp [h1, h2]
  · simp [h]
theorem isDec_not {k : Int} (h : ¬ ((48 ≤ k ∧ k ≤ 57) ∨ k = 59)) : isDec k = false := by
  unfold isDec
  by_cases h1 : 48 ≤ k <;> by_cases h2 : k ≤ 57 <;> by_cases h3 : k = 59 <;> simp_all
theorem decAt_bd {ks : List Int} {i a b c t n : Int} (hg : GoodDec (decSp ks i)) (e : decAt ks i = some ((a, b, c), t, n)) : (0 ≤ a ∧ a ≤ 999) ∧ (0 ≤ b ∧ b ≤ 999) ∧ (0 ≤ c ∧ c ≤ 999) := by
  rcases hg with ⟨P, h, _⟩ | ⟨P, x, Q, h, _⟩ | ⟨P, x, Q, y, R, h, hx, hy, l1, l2, l3⟩
  · rw [decAt_1 h] at e; cases e
  · rw [decAt_2 h] at e; cases e
  · cases hz : numOf R with
    | none => rw [decAt_a h hz] at e; cases e
    | some z =>
      by_cases hl : (ks.length : Int) ≤ i + (decSp ks i).length
      · rw [decAt_b h hl] at e; cases e
      · rw [decAt_c h hx hy hz hl rfl] at e
        cases e
        exact ⟨numOf_bd l1 hx, numOf_bd l2 hy, numOf_bd l3 hz⟩
section
variable {need : Nat} {f : Addr} {vs : List Value} {news : List (Addr × Obj)}
    {w : World} {p : Program} {loose : List Str} {mean : ExcName → Option Value} {mg mb : Str → Option Value} {dp un : Nat} {gd : Option (List Code)} {cn : Str} {cs : Scope} {a : Addr} {ccd : Value} {cl : List (Str × Addr)} {outer : List Env} {A₀ : Around} {base h₀ : Heap} {L : Addr} {m : Str → Option Value} {s : Shared}
    {Q E : Value → Shared → Prop}
theorem Con.useD {o : Option ((Int × Int × Int) × Int × Int)} (C : Con w need f vs news (DecR o news))
    (B : Below A₀ base outer h₀) (F : Fr h₀ L s.heap m) (X : (hd.heap_1 w.params).In h₀) (N : News h₀ L s.heap news) (T : Top p loose mean mg mb h₀) (hk : cs.kind = .function) (hd : dp + need < recursionLimit) (hu : un + 8 * need < cLine)
    (hn : o = none → ∀ h' tk', Fr h₀ L h' m → News h₀ L h' news → Q .none { s with heap := h', toks := tk' })
    (hs : ∀ a b c t n T D t1 t2 t3 t4 t5 k h' tk', o = some ((a, b, c), t, n) → (∀ p ∈ news, p.1 < T) → D < T → Fr h₀ L h' m → News h₀ L h' ((T, { cls := .type "tuple", data := .seq #[.ref D, .int t t4, .int n t5] }) :: (D, listOf #[.int a t1, .int b t2, .int c t3] k) :: news) → Q (.ref T) { s with heap := h', toks := tk' }) :
    wpAny (model P0 w) (ktrTop dp un gd cn cs L a ccd cl outer) (call (.ref f) vs) Q E s := by
  refine Con.use C B F X N T hk hd hu fun r tl h' tk' F' N' hR => ?_
  rcases o with _ | ⟨⟨a, b, c⟩, t, n⟩
  · obtain ⟨rfl, rfl⟩ := hR; exact hn rfl h' tk' F' N'
  · obtain ⟨T, D, t1, t2, t3, t4, t5, k, rfl, rfl, l1, l2⟩ := hR; exact hs a b c t n T D _ _ _ _ _ _ h' tk' rfl l1 l2 F' N'
end
theorem own_dec_at_1 : True := by
  k_with "CutPost" => (refine CutPost.intro (by assumption) (by assumption) ?_ ?_)
  trivial
set_option maxRecDepth 100000 in
set_option maxHeartbeats 8000000 in
theorem con_dec_at (w : World) (b : Array UInt8) (tb : Tok) (ks : List Int) (i : Int) (ti : Tok) (hb : KBw.bInts b = ks) (h0 : 0 ≤ i) (hi : i ≤ ks.length) (hl : ks.length ≤ 1000) (hg : GoodDec (decSp ks i)) (news) :
   Con w 14 195 [.bytes b tb, .int i ti] news (DecR (decAt ks i) news) := by
  unfold Con
  intro p loose mean mg mb dp un gd cn cs a ccd cl outer A₀ base h₀ L m s Q E B F X N T hk hd hu hret
  obtain ⟨sh, sg, sd, st, so⟩ := s
  refine wpAny_call ?_
  k_dflt cell_enter
  k_with "exec While BoolOp cons nil" => first
    | ((with_reducible show wpAny _ _ _ (CutPost _ _ _ _ _ _ _) _ _); (k_while (fun _ n => (i ≤ n ∧ n ≤ (ks.length : Int)) ∧ DecW ks i n) (fun _ n => ((ks.length : Int) - n).toNat) "end"))
    | (refine cut_use (Str.ofString "end") (fun n => i ≤ n ∧ (ks.drop i.toNat).take (n.toNat - i.toNat) = decSp ks i ∧ n = i + (decSp ks i).length) (by k_asm) (by k_asm) ?_ ?_)
  k_with "state" => first | exact ⟨⟨by omega, by omega⟩, decW_start⟩ | exact ⟨⟨by omega, by omega⟩, decW_step h0 (by assumption) (by assumption) (isDec_of (by omega))⟩
  k_with "call builtin:bytes.split" => (k_here; (refine' call_split3 (sp := decSp ks i) ?kF ?kN ?kb ?kz hg ?k1 ?k2 ?k3); (case kF => k_asm); (case kN => k_asm); (case kb => exact (‹KBw.bInts _ = List.take _ _›).trans (‹_ ∧ List.take _ _ = decSp ks i ∧ _›).2.1); (case kz => exact decSp_len hl); (case' k1 => (intro p9 P9 hp9 hs9 hl9 D9 k9 h' tk' F' N' l9; (try k_lt l9); (try dsimp only); (try k_fold))); (case' k2 => (intro p9 P9 q9 Q9 hp9 hq9 hs9 hl9 hm9 x9 hx9 D9 k9 j9 h' tk' F' N' l9; (try k_lt l9); (try dsimp only); (try k_fold))); (case' k3 => (intro p9 P9 q9 Q9 r9 R9 hp9 hq9 hr9 hs9 hl9 hm9 hn9 x9 hx9 y9 hy9 D9 k9 j9 i9 h' tk' F' N' l9; (try k_lt l9); (try dsimp only); (try k_fold))))
  k_with "compareOp In none ref" => (k_here; first | refine in_nones true (by k_asm) (by k_mem) rfl rfl ?_ | refine in_nones false (by k_asm) (by k_mem) rfl rfl ?_)
  k_steps
  all_goals first
    | (refine CutPost.intro2 (by assumption) (by assumption) ?_)
    | refine hret (.ref _) [_, _] _ _ (by assumption) (cb_drop (by assumption) cb_mid2) ?_
    | refine hret .none [] _ _ (by assumption) (by first | assumption | exact cb_drop (by assumption) (by first | exact fun _ h => .tail _ (h) | exact fun _ h => .tail _ (.tail _ (h)) | exact fun _ h => .tail _ (.tail _ (.tail _ (h))) | exact fun _ h => .tail _ (.tail _ (.tail _ (.tail _ (h)))) | exact fun _ h => .tail _ (.tail _ (.tail _ (.tail _ (.tail _ (h))))) | exact fun _ h => .tail _ (.tail _ (.tail _ (.tail _ (.tail _ (.tail _ (h)))))) | exact fun _ h => .tail _ (.tail _ (.tail _ (.tail _ (.tail _ (.tail _ (.tail _ (h))))))) | exact fun _ h => .tail _ (.tail _ (.tail _ (.tail _ (.tail _ (.tail _ (.tail _ (.tail _ (h)))))))))) ?_
  · exact ⟨by omega, decW_end h0 (by assumption) (.inr (isDec_not (by omega))) |>.imp_right fun x => x hi⟩
  · exact ⟨by omega, decW_end h0 (by assumption) (.inr (isDec_not (by omega))) |>.imp_right fun x => x hi⟩
  · exact ⟨by omega, decW_end h0 (by assumption) (.inl (by assumption)) |>.imp_right fun x => x hi⟩
  · exact decR_none (decAt_a hs9 hO9)
  · exact decR_none (decAt_b hs9 (by omega))
  · exact decR_some (decAt_c hs9 hx9 hy9 hO9 (by omega) (by omega)) (ltAll (And.right (And.right (by assumption)))) (And.left (by assumption))
  · exact decR_none (decAt_2 hs9)
  · exact decR_none (decAt_2 hs9)
  · exact decR_none (decAt_1 hs9)
  · exact decR_none (decAt_1 hs9)


-- read_mouse
theorem rows_read_mouse : True := by
  w_top off
  k_with_none
  k_with "kba_ints2" => first | kba_ints | (apply ints_lit; (simp only [List.map_cons, List.map_nil, UInt8.reduceToNat, Int.cast_ofNat_Int]); (try exact rfl))
  k_with "compareOp Eq bytes bytes" => (k_here; (with_reducible show wpAny _ _ (compareOp CmpOp.Eq (Value.bytes _ _) (Value.bytes _ _)) _ _ _); (first | refine eq_ints_T (by kba_ints2) (by kba_ints2) (by assumption) ?_ | refine eq_ints_F (by kba_ints2) (by kba_ints2) (by assumption) ?_ | refine eq_ints (by kba_ints2) (by kba_ints2) ?_))
  k_with "compareOp NotEq bytes bytes" => (k_here; (with_reducible show wpAny _ _ (compareOp CmpOp.NotEq (Value.bytes _ _) (Value.bytes _ _)) _ _ _); (refine ne_ints (by kba_ints2) (by kba_ints2) ?_))
  k_with "compareOp NotIn bytes ref" => (k_here; (with_reducible show wpAny _ _ (compareOp CmpOp.NotIn (Value.bytes _ _) (Value.ref _)) _ _ _); (refine notIn_two (by k_asm) (by k_mem) (by kba_ints2) (by kba_ints2) (by kba_ints2) ?_))
  k_with "subscriptTail" => (k_here; (with_reducible show wpAny _ _ (subscriptTail _ (Expr.Slice _ _ none _) (Value.bytes _ _) (Value.ref _)) _ _ _); (with_reducible rename Fr _ _ _ _ => F'); (with_reducible rename News _ _ _ _ => N'); (refine slice_C (s := ⟨_, _, _, _, _⟩) F' N' (by kba_ints2) (by constructor) (by constructor) (by kba_size) (by intro i hi; simp at hi; try (subst hi; omega)) (by intro i hi; simp at hi; try (subst hi; omega)) (by first | exact cut_z3 | exact cut_z2 | exact cut_z | exact cut_mid3 (by omega) | exact cut_mid2 (by omega) | exact cut_lit3 | exact cut_lit2 | exact cut_lit3' | exact cut_lit2' | exact cut_two | exact cut_tail | exact cut_head') ?_); intro _ _ _ _ _ _ kbcK; (try simp only [Int.toNat_zero, Int.toNat_ofNat, List.drop_zero] at kbcK))
  k_with "ktr_room" => first | exact room9 (by assumption) rfl | exact Nat.lt_of_le_of_lt (Nat.le_add_right _ _) (by assumption)
  k_with "ktr_units" => exact units9 (by assumption) rfl
  k_with "getMethod bytes" => (k_here; first | refine meth_starts ?_ | refine meth_split ?_ | refine meth_join ?_)
  k_with "call builtin:bytes.startswith" => (k_here; first | refine call_starts_T (by kba_ints2) (by kba_ints2) (by assumption) ?_ | refine call_starts_F (by kba_ints2) (by kba_ints2) (by assumption) ?_ | refine call_starts_I (by kba_ints2) (by kba_ints2) ?_)
  k_with "CompEnd" => (refine LCg.CompEnd.intro (by assumption) (by assumption) _ (fun _ h => h) (by assumption) (by exact Or.inr ⟨_, by k_mem, rfl, _, rfl⟩) ?_)
  k_with "call type:bytes" => (k_here; (with_reducible show wpAny _ _ (call (Value.type "bytes") [Value.ref _]) _ _ _); (refine' KBa.make_K ?kbaF ?kbaN ?kbah ?kbal ?kbai ?kbar ?kban ?_; (case kbaF => k_asm); (case kbaN => k_asm); (case kbah => rfl); (case kbal => kba_isList); (case kbai => kba_listInts); (case kbar => (repeat' (first | exact List.forall_mem_nil _ | (refine List.forall_mem_cons.mpr ⟨⟨?_, ?_⟩, ?_⟩) | omega | (simp only [fd10, fm10]; omega)))); (case kban => kba_size)); intro _ _ _ F' N' kbaIn; (have kbaM := KBa.ints_make kbaIn))
  k_with "cell_enter" => (refine' code_defC ?k1 ?k2 ?k3 ?k4 ?k5 ?kA ?kF ?kK ?k6 ?k7 ?k8 ?k9 ?kB ?kD ?_ ?c2 ?c3 ?c4; (case kA => exact rfl); (case kF => exact rfl); (case kK => first | exact rfl | assumption); (case k1 => k_asm); (case k2 => k_asm); (case k3 => k_asm); (case k4 => k_asm); (case k5 => k_asm); (case k6 => k_is); (case k7 => k_is); (case k8 => ktr_room); (case k9 => first | exact BindsTo.of_eq rfl | exact binds_K (by k_in) rfl (by k_is) rfl rfl rfl); (case kB => exact rfl); (case kD => decide +kernel); (case c2 => exact rfl); (case c3 => exact rfl); (case c4 => exact rfl); k_whole; intro g' L' h' tk' cells' FG' F' N' Y' B' X' T' l1; (try k_lt l1); k_cells Y'; (try simp only [List.cons_append, List.nil_append] at N'); (try dsimp only); (try k_lift B'); (try k_fold))
  k_with "call builtin:bytes.join" => (k_here; refine call_join_I (by k_asm) (by k_mem) rfl rfl (by kba_ints2) (by kba_ints2) (by kba_ints2) (by kba_ints2) (by first | assumption | decide) (by first | assumption | decide) (by first | assumption | decide) (by first | assumption | decide) ?_; intro _ _ _ kbJ; (try simp only [List.append_nil] at kbJ))
  k_with "units_room" => exact room_deep (by omega)
  k_with "cell_enter" => (refine' code_def ?k1 ?k2 ?k3 ?k4 ?k5 ?kA ?kF ?kK ?k6 ?k7 ?k8 ?k9 ?kB ?_ ?c2 ?c3 ?c4 ?c5; (case kA => exact rfl); (case kF => exact rfl); (case kK => first | exact rfl | assumption); (case k1 => k_asm); (case k2 => k_asm); (case k3 => k_asm); (case k4 => k_asm); (case k5 => k_asm); (case k6 => k_is); (case k7 => k_is); (case k8 => ktr_room); (case k9 => exact binds_K (by k_in) rfl (by k_is) rfl rfl rfl); (case c5 => decide); (case kB => exact locs rfl); (case c2 => exact rfl); (case c3 => exact rfl); (case c4 => exact rfl); k_whole; intro g' L' h' FG' F' N' B' X' T'; (try dsimp only); (try k_fold))
  k_with "con" => (k_here; (with_reducible show wpAny _ _ (call (Value.ref 183) [Value.bytes _ _, Value.int _ _, Value.bool _]) _ _ _); k_dflt (
    refine Con.useP (con_code_at _ _ _ _ _ _ _ (by kba_ints2) (by first | assumption | omega | (simp; omega)) (by first | assumption | omega | (simp; omega)) _) (by k_asm) (by k_asm) (by k_asm) (by k_asm) (by k_asm) (by first | exact rfl | assumption) (by ktr_room) (by ktr_units) ?_ ?_
    (rotate_left; (intro v9 n9 D9 t9 t8 h' tk' hO9 l9 F' N'; (try k_lt l9); (try have f9 := code8_bd (by assumption) (by first | assumption | omega) hO9); (try dsimp only); (try k_fold)); rotate_left; (intro hO9 h' tk' F' N'; (try dsimp only); (try k_fold)))))
  k_with "con" => (k_here; (with_reducible show wpAny _ _ (call (Value.ref 137) [Value.int _ _]) _ _ _); k_dflt (
    refine Con.useI (con_button _ _ _ (by first | assumption | omega | (simp; omega)) (by first | assumption | omega | (simp; omega)) _) (by k_asm) (by k_asm) (by k_asm) (by k_asm) (by k_asm) (by first | exact rfl | assumption) (by ktr_room) (by ktr_units) ?_ ?_
    (rotate_left; (intro v9 t9 h' tk' hO9 F' N'; (try dsimp only); (try k_fold)); rotate_left; (intro hO9 h' tk' F' N'; (try dsimp only); (try k_fold)))))
  k_with "con" => (k_here; (with_reducible show wpAny _ _ (call (Value.ref 105) [Value.str _ _, Value.int _ _, Value.int _ _, Value.int _ _, Value.int _ _]) _ _ _); k_dflt (
    refine Con.useE (con_ev _ _ _ _ _ _ _ _ _ _ _ _) (by k_asm) (by k_asm) (by k_asm) (by k_asm) (by k_asm) (by first | exact rfl | assumption) (by ktr_room) (by ktr_units) (fun e9 => nomatch e9) ?_
    (intro k9 bt9 r9 c9 md9 x9 d9 t0 t1 t2 t3 t4 t5 t6 t7 t8 t9 h' tk' hO9 l9 l8 F' N'; cases hO9; (try k_lt l9); (try k_lt2 l8); (try dsimp only); (try k_fold))))
  k_with "con" => (k_here; (with_reducible show wpAny _ _ (call (Value.ref 176) [Value.int _ _, Value.int _ _, Value.int _ _, Value.none, Value.int _ _, Value.int _ _]) _ _ _); k_dflt (
    refine Con.useE (con_event_of _ _ _ (by first | assumption | omega | (simp; omega)) (by first | assumption | omega | (simp; omega)) _ _ _ _ _ _ _) (by k_asm) (by k_asm) (by k_asm) (by k_asm) (by k_asm) (by first | exact rfl | assumption) (by ktr_room) (by ktr_units) ?_ ?_
    (rotate_left; (intro k9 bt9 r9 c9 md9 x9 d9 t0 t1 t2 t3 t4 t5 t6 t7 t8 t9 h' tk' hO9 l9 l8 F' N'; (try k_lt l9); (try k_lt2 l8); (try dsimp only); (try k_fold)); rotate_left; (intro hO9 h' tk' F' N'; (try dsimp only); (try k_fold)))))
  k_with "con" => (k_here; (with_reducible show wpAny _ _ (call (Value.ref 176) [Value.int _ _, Value.int _ _, Value.int _ _, Value.bool _, Value.int _ _, Value.int _ _]) _ _ _); k_dflt (
    refine Con.useE (con_event_ofB _ _ _ (by first | assumption | omega | (simp; omega)) (by first | assumption | omega | (simp; omega)) _ _ _ _ _ _ _ _) (by k_asm) (by k_asm) (by k_asm) (by k_asm) (by k_asm) (by first | exact rfl | assumption) (by ktr_room) (by ktr_units) ?_ ?_
    (rotate_left; (intro k9 bt9 r9 c9 md9 x9 d9 t0 t1 t2 t3 t4 t5 t6 t7 t8 t9 h' tk' hO9 l9 l8 F' N'; (try k_lt l9); (try k_lt2 l8); (try dsimp only); (try k_fold)); rotate_left; (intro hO9 h' tk' F' N'; (try dsimp only); (try k_fold)))))
  k_with "con" => (k_here; (with_reducible show wpAny _ _ (call (Value.ref 190) [Value.bytes _ _, Value.int _ _, Value.bool _]) _ _ _); k_dflt (
    refine Con.useF (con_read_plain _ _ _ _ _ _ _ (by kba_ints2) (by first | assumption | omega | (simp; omega)) (by first | assumption | omega | (simp; omega)) _) (by k_asm) (by k_asm) (by k_asm) (by k_asm) (by k_asm) (by first | exact rfl | assumption) (by ktr_room) (by ktr_units) ?_ ?_
    (rotate_left; (intro k9 bt9 r9 c9 md9 n9 D9 x9 d9 t9 t0 t1 t2 t3 t4 t5 t6 t7 t8 t9 h' tk' hO9 l9 l8 l7 F' N'; (try k_lt l9); (try k_lt2 l8); (try k_lt2 l7); (try dsimp only); (try k_fold)); rotate_left; (intro hO9 h' tk' F' N'; (try dsimp only); (try k_fold)))))
  k_with "con" => (k_here; (with_reducible show wpAny _ _ (call (Value.ref 28) [Value.bytes _ _]) _ _ _); k_dflt (
    refine Con.useI (con_number_of _ _ _ _ (by kba_ints2) (by first | assumption | omega | (simp; omega)) _) (by k_asm) (by k_asm) (by k_asm) (by k_asm) (by k_asm) (by first | exact rfl | assumption) (by ktr_room) (by ktr_units) ?_ ?_
    (rotate_left; (intro v9 t9 h' tk' hO9 F' N'; (try dsimp only); (try k_fold)); rotate_left; (intro hO9 h' tk' F' N'; (try dsimp only); (try k_fold)))))
  k_with "con" => (k_here; (with_reducible show wpAny _ _ (call (Value.ref 28) [Value.bytes _ _]) _ _ _); k_dflt (
    refine Con.useIs (con_number_of _ _ _ _ (by kba_ints2) (by first | assumption | omega | (simp; omega)) _) (by assumption) (by k_asm) (by k_asm) (by k_asm) (by k_asm) (by k_asm) (by first | exact rfl | assumption) (by ktr_room) (by ktr_units) ?_
    (intro t9 h' tk' F' N'; (try dsimp only); (try k_fold))))
  k_with "con" => (k_here; (with_reducible show wpAny _ _ (call (Value.ref 216) [Value.bytes _ _]) _ _ _); k_dflt (
    refine Con.useV (con_are_dec _ _ _ _ (by kba_ints2) (by first | assumption | omega | (simp; omega)) _) (by k_asm) (by k_asm) (by k_asm) (by k_asm) (by k_asm) (by first | exact rfl | assumption) (by ktr_room) (by ktr_units) ?_
    (intro t9 h' tk' F' N'; (try dsimp only); (try k_fold))))
  k_with "con" => (k_here; (with_reducible show wpAny _ _ (call (Value.ref 195) [Value.bytes _ _, Value.int _ _]) _ _ _); k_dflt (
    refine Con.useD (con_dec_at _ _ _ _ _ _ (by kba_ints2) (by first | assumption | omega | (simp; omega)) (by first | assumption | omega | (simp; omega)) (by first | assumption | omega | (simp; omega)) (by assumption) _) (by k_asm) (by k_asm) (by k_asm) (by k_asm) (by k_asm) (by first | exact rfl | assumption) (by ktr_room) (by ktr_units) ?_ ?_
    (rotate_left; (intro a9 b9 c9 t9 n9 T9 D9 t0 t1 t2 t3 t4 k9 h' tk' hO9 l9 l8 F' N'; (try k_lt l9); (try k_lt2 l8); (try have f9 := decAt_bd (by assumption) hO9); (try dsimp only); (try k_fold)); rotate_left; (intro hO9 h' tk' F' N'; (try dsimp only); (try k_fold)))))
  k_with "walk1" => ((first | with_reducible show wpAny _ _ (exec _ _) _ _ _ | with_reducible show wpAny _ _ (isTrue _ _ _) _ _ _); k_fold)
  trivial
-- what a reader makes of the octets from the first on
noncomputable def rdDecS (ks : List Int) : Option (Ev × Int) := match decAt ks 3 with
  | none => none
  | some ((a, b, c), t, n) => if t ≠ 77 ∧ t ≠ 109 then none else match evOf a b c (some (t == 109)) with
    | none => none
    | some e => some (e, n)
noncomputable def rdDecU (ks : List Int) : Option (Ev × Int) := match decAt ks 2 with
  | none => none
  | some ((a, b, c), t, n) => if t ≠ 77 then none else if a < 32 then none else match evOf (a - 32) b c none with
    | none => none
    | some e => some (e, n)
noncomputable def rdMouse (ks : List Int) (u : Bool) : Option (Ev × Int) :=
  if ks.take 3 = [27, 91, 77] then rdPlain ks 3 u else if ks.take 3 = [27, 91, 60] then rdDecS ks else if ks.take 2 = [27, 91] then rdDecU ks else none
-- octets that the reader may be asked of
noncomputable def Good (ks : List Int) : Prop := ks.length ≤ 1000 ∧ (ks.take 3 ≠ [27, 91, 77] → (ks.take 3 = [27, 91, 60] → GoodDec (decSp ks 3)) ∧ (ks.take 3 ≠ [27, 91, 60] → ks.take 2 = [27, 91] → GoodDec (decSp ks 2)))
section
variable {ks : List Int} {u : Bool} {a b c t n : Int} {e : Ev}
theorem rdMouse_m (h : ks.take 3 = [27, 91, 77]) : rdMouse ks u = rdPlain ks 3 u := if_pos h
theorem rdMouse_s (h : ¬ ks.take 3 = [27, 91, 77]) (h2 : ks.take 3 = [27, 91, 60]) : rdMouse ks u = rdDecS ks := (if_neg h).trans (if_pos h2)
theorem rdMouse_u (h : ¬ ks.take 3 = [27, 91, 77]) (h2 : ¬ ks.take 3 = [27, 91, 60]) (h3 : ks.take 2 = [27, 91]) : rdMouse ks u = rdDecU ks := (if_neg h).trans ((if_neg h2).trans (if_pos h3))
theorem rdMouse_x (h : ¬ ks.take 3 = [27, 91, 77]) (h2 : ¬ ks.take 3 = [27, 91, 60]) (h3 : ¬ ks.take 2 = [27, 91]) : rdMouse ks u = none := (if_neg h).trans ((if_neg h2).trans (if_neg h3))
theorem rdS_a (h : decAt ks 3 = none) : rdDecS ks = none := by unfold rdDecS; rw [h]
theorem rdS_b (h : decAt ks 3 = some ((a, b, c), t, n)) (h1 : t ≠ 77) (h2 : t ≠ 109) : rdDecS ks = none := by unfold rdDecS; rw [h]; exact if_pos ⟨h1, h2⟩
theorem rdS_c (h : decAt ks 3 = some ((a, b, c), t, n)) (h1 : t = 77 ∨ t = 109) (h2 : evOf a b c (some (t == 109)) = none) : rdDecS ks = none := by
  unfold rdDecS; rw [h]; dsimp only; rw [h2]; exact if_neg (by omega)
theorem rdS_d (h : decAt ks 3 = some ((a, b, c), t, n)) (h1 : t = 77 ∨ t = 109) (h2 : evOf a b c (some (t == 109)) = some e) : rdDecS ks = some (e, n) := by
  unfold rdDecS; rw [h]; dsimp only; rw [h2]; exact if_neg (by omega)
theorem rdU_a (h : decAt ks 2 = none) : rdDecU ks = none := by unfold rdDecU; rw [h]
theorem rdU_b (h : decAt ks 2 = some ((a, b, c), t, n)) (h1 : t ≠ 77) : rdDecU ks = none := by unfold rdDecU; rw [h]; exact if_pos h1
theorem rdU_c (h : decAt ks 2 = some ((a, b, c), t, n)) (h1 : t = 77) (h2 : a < 32) : rdDecU ks = none := by unfold rdDecU; rw [h]; exact (if_neg (fun x => x h1)).trans (if_pos h2)
theorem rdU_d (h : decAt ks 2 = some ((a, b, c), t, n)) (h1 : t = 77) (h2 : ¬ a < 32) (h3 : evOf (a - 32) b c none = none) : rdDecU ks = none := by
  unfold rdDecU; rw [h]; dsimp only; rw [h3]; exact (if_neg (fun x => x h1)).trans (if_neg h2)
theorem rdU_e (h : decAt ks 2 = some ((a, b, c), t, n)) (h1 : t = 77) (h2 : ¬ a < 32) (h3 : evOf (a - 32) b c none = some e) : rdDecU ks = some (e, n) := by
  unfold rdDecU; rw [h]; dsimp only; rw [h3]; exact (if_neg (fun x => x h1)).trans (if_neg h2)
theorem len_three (h : ks.take 3 = [27, 91, 60]) : (3 : Int) ≤ ks.length := by
  have := congrArg List.length h
  rw [List.length_take] at this
  simp at this
  omega
theorem len_two (h : ks.take 2 = [27, 91]) : (2 : Int) ≤ ks.length := by
  have := congrArg List.length h
  rw [List.length_take] at this
  simp at this
  omega
end
set_option maxRecDepth 100000 in
set_option maxHeartbeats 8000000 in
theorem con_read_mouse (w : World) (b : Array UInt8) (tb : Tok) (ks : List Int) (ti : Tok) (u : Bool) (hb : KBw.bInts b = ks) (hg : Good ks) (news) :
   Con w 16 203 [.bytes b tb, .int 0 ti, .bool u] news (EPairR w (rdMouse ks u) news) := by
  unfold Con
  intro p loose mean mg mb dp un gd cn cs a ccd cl outer A₀ base h₀ L m s Q E B F X N T hk hd hu hret
  obtain ⟨sh, sg, sd, st, so⟩ := s
  have hl := hg.1
  refine wpAny_call ?_
  k_dflt cell_enter
  k_with "compareOp Eq bytes bytes" => (k_here; refine eq_ints_c (by kba_ints2) (by kba_ints2) ?_ ?_ <;> intro hE9; k_dflt (try (have hg9 := (hg.2 (by assumption)).1 hE9; have hl9 := len_three hE9)))
  k_with "compareOp NotEq bytes bytes" => (k_here; refine ne_ints_c (by kba_ints2) (by kba_ints2) ?_ ?_ <;> intro hE9; k_dflt (have hg9 := (hg.2 (by assumption)).2 (by assumption) hE9; have hl9 := len_two hE9))
  k_steps
  all_goals first
    | refine hret .none [] _ _ (by assumption) (by first | assumption | exact cb_drop (by assumption) (by first | exact fun _ h => .tail _ (h) | exact fun _ h => .tail _ (.tail _ (h)) | exact fun _ h => .tail _ (.tail _ (.tail _ (h))) | exact fun _ h => .tail _ (.tail _ (.tail _ (.tail _ (h)))) | exact fun _ h => .tail _ (.tail _ (.tail _ (.tail _ (.tail _ (h))))) | exact fun _ h => .tail _ (.tail _ (.tail _ (.tail _ (.tail _ (.tail _ (h)))))) | exact fun _ h => .tail _ (.tail _ (.tail _ (.tail _ (.tail _ (.tail _ (.tail _ (h))))))) | exact fun _ h => .tail _ (.tail _ (.tail _ (.tail _ (.tail _ (.tail _ (.tail _ (.tail _ (h)))))))))) ?_
    | refine hret (.ref _) [_, _, _] _ _ (by assumption) (by first | assumption | exact cb_drop (by assumption) cb_mid3b) ?_
  · exact EPairR.none ((rdMouse_m (by assumption)).trans hO9)
  · exact EPairR.some ((rdMouse_m (by assumption)).trans hO9) (by assumption) (by assumption) (by assumption)
  · exact EPairR.none ((rdMouse_s (by assumption) (by assumption)).trans (rdS_a hO9))
  · exact EPairR.none ((rdMouse_s (by assumption) (by assumption)).trans (rdS_c (by assumption) (.inr (by assumption)) hO9))
  · exact EPairR.some ((rdMouse_s (by assumption) (by assumption)).trans (rdS_d (by assumption) (.inr (by assumption)) hO9)) (ltAll (And.right (And.right (by assumption)))) (by assumption) (And.left (by assumption))
  · exact EPairR.none ((rdMouse_s (by assumption) (by assumption)).trans (rdS_b hO9 (by assumption) (by assumption)))
  · exact EPairR.none ((rdMouse_s (by assumption) (by assumption)).trans (rdS_c (by assumption) (.inl (by assumption)) hO9))
  · exact EPairR.some ((rdMouse_s (by assumption) (by assumption)).trans (rdS_d (by assumption) (.inl (by assumption)) hO9)) (ltAll (And.right (And.right (by assumption)))) (by assumption) (And.left (by assumption))
  · exact EPairR.none ((rdMouse_u (by assumption) (by assumption) (by assumption)).trans (rdU_a hO9))
  · exact EPairR.none ((rdMouse_u (by assumption) (by assumption) (by assumption)).trans (rdU_b hO9 (by assumption)))
  · exact EPairR.none ((rdMouse_u (by assumption) (by assumption) (by assumption)).trans (rdU_c hO9 (by assumption) (by assumption)))
  · exact EPairR.none ((rdMouse_u (by assumption) (by assumption) (by assumption)).trans (rdU_d (by assumption) (by assumption) (by assumption) hO9))
  · exact EPairR.some ((rdMouse_u (by assumption) (by assumption) (by assumption)).trans (rdU_e (by assumption) (by assumption) (by assumption) hO9)) (ltAll (And.right (And.right (by assumption)))) (by assumption) (And.left (by assumption))
  · exact EPairR.none (rdMouse_x (by assumption) (by assumption) (by assumption))


-- dec_oct
theorem rows_dec_oct : True := by
  w_top off
  k_with_none
  k_with "kba_ints2" => first | kba_ints | (apply ints_lit; (simp only [List.map_cons, List.map_nil, UInt8.reduceToNat, Int.cast_ofNat_Int]); (try exact rfl))
  k_with "compareOp Eq bytes bytes" => (k_here; (with_reducible show wpAny _ _ (compareOp CmpOp.Eq (Value.bytes _ _) (Value.bytes _ _)) _ _ _); (first | refine eq_ints_T (by kba_ints2) (by kba_ints2) (by assumption) ?_ | refine eq_ints_F (by kba_ints2) (by kba_ints2) (by assumption) ?_ | refine eq_ints (by kba_ints2) (by kba_ints2) ?_))
  k_with "compareOp NotEq bytes bytes" => (k_here; (with_reducible show wpAny _ _ (compareOp CmpOp.NotEq (Value.bytes _ _) (Value.bytes _ _)) _ _ _); (refine ne_ints (by kba_ints2) (by kba_ints2) ?_))
  k_with "compareOp NotIn bytes ref" => (k_here; (with_reducible show wpAny _ _ (compareOp CmpOp.NotIn (Value.bytes _ _) (Value.ref _)) _ _ _); (refine notIn_two (by k_asm) (by k_mem) (by kba_ints2) (by kba_ints2) (by kba_ints2) ?_))
  k_with "subscriptTail" => (k_here; (with_reducible show wpAny _ _ (subscriptTail _ (Expr.Slice _ _ none _) (Value.bytes _ _) (Value.ref _)) _ _ _); (with_reducible rename Fr _ _ _ _ => F'); (with_reducible rename News _ _ _ _ => N'); (refine slice_C (s := ⟨_, _, _, _, _⟩) F' N' (by kba_ints2) (by constructor) (by constructor) (by kba_size) (by intro i hi; simp at hi; try (subst hi; omega)) (by intro i hi; simp at hi; try (subst hi; omega)) (by first | exact cut_z3 | exact cut_z2 | exact cut_z | exact cut_mid3 (by omega) | exact cut_mid2 (by omega) | exact cut_lit3 | exact cut_lit2 | exact cut_lit3' | exact cut_lit2' | exact cut_two | exact cut_tail | exact cut_head') ?_); intro _ _ _ _ _ _ kbcK; (try simp only [Int.toNat_zero, Int.toNat_ofNat, List.drop_zero] at kbcK))
  k_with "ktr_room" => first | exact room9 (by assumption) rfl | exact Nat.lt_of_le_of_lt (Nat.le_add_right _ _) (by assumption)
  k_with "ktr_units" => exact units9 (by assumption) rfl
  k_with "getMethod bytes" => (k_here; first | refine meth_starts ?_ | refine meth_split ?_ | refine meth_join ?_)
  k_with "call builtin:bytes.startswith" => (k_here; first | refine call_starts_T (by kba_ints2) (by kba_ints2) (by assumption) ?_ | refine call_starts_F (by kba_ints2) (by kba_ints2) (by assumption) ?_ | refine call_starts_I (by kba_ints2) (by kba_ints2) ?_)
  k_with "CompEnd" => (refine LCg.CompEnd.intro (by assumption) (by assumption) _ (fun _ h => h) (by assumption) (by exact Or.inr ⟨_, by k_mem, rfl, _, rfl⟩) ?_)
  k_with "call type:bytes" => (k_here; (with_reducible show wpAny _ _ (call (Value.type "bytes") [Value.ref _]) _ _ _); (refine' KBa.make_K ?kbaF ?kbaN ?kbah ?kbal ?kbai ?kbar ?kban ?_; (case kbaF => k_asm); (case kbaN => k_asm); (case kbah => rfl); (case kbal => kba_isList); (case kbai => kba_listInts); (case kbar => (repeat' (first | exact List.forall_mem_nil _ | (refine List.forall_mem_cons.mpr ⟨⟨?_, ?_⟩, ?_⟩) | omega | (simp only [fd10, fm10]; omega)))); (case kban => kba_size)); intro _ _ _ F' N' kbaIn; (have kbaM := KBa.ints_make kbaIn))
  k_with "cell_enter" => (refine' code_defC ?k1 ?k2 ?k3 ?k4 ?k5 ?kA ?kF ?kK ?k6 ?k7 ?k8 ?k9 ?kB ?kD ?_ ?c2 ?c3 ?c4; (case kA => exact rfl); (case kF => exact rfl); (case kK => first | exact rfl | assumption); (case k1 => k_asm); (case k2 => k_asm); (case k3 => k_asm); (case k4 => k_asm); (case k5 => k_asm); (case k6 => k_is); (case k7 => k_is); (case k8 => ktr_room); (case k9 => first | exact BindsTo.of_eq rfl | exact binds_K (by k_in) rfl (by k_is) rfl rfl rfl); (case kB => exact rfl); (case kD => decide +kernel); (case c2 => exact rfl); (case c3 => exact rfl); (case c4 => exact rfl); k_whole; intro g' L' h' tk' cells' FG' F' N' Y' B' X' T' l1; (try k_lt l1); k_cells Y'; (try simp only [List.cons_append, List.nil_append] at N'); (try dsimp only); (try k_lift B'); (try k_fold))
  k_with "call builtin:bytes.join" => (k_here; refine call_join_I (by k_asm) (by k_mem) rfl rfl (by kba_ints2) (by kba_ints2) (by kba_ints2) (by kba_ints2) (by first | assumption | decide) (by first | assumption | decide) (by first | assumption | decide) (by first | assumption | decide) ?_; intro _ _ _ kbJ; (try simp only [List.append_nil] at kbJ))
  k_with "units_room" => exact room_deep (by omega)
  k_with "cell_enter" => (refine' code_def ?k1 ?k2 ?k3 ?k4 ?k5 ?kA ?kF ?kK ?k6 ?k7 ?k8 ?k9 ?kB ?_ ?c2 ?c3 ?c4 ?c5; (case kA => exact rfl); (case kF => exact rfl); (case kK => first | exact rfl | assumption); (case k1 => k_asm); (case k2 => k_asm); (case k3 => k_asm); (case k4 => k_asm); (case k5 => k_asm); (case k6 => k_is); (case k7 => k_is); (case k8 => ktr_room); (case k9 => exact binds_K (by k_in) rfl (by k_is) rfl rfl rfl); (case c5 => decide); (case kB => exact locs rfl); (case c2 => exact rfl); (case c3 => exact rfl); (case c4 => exact rfl); k_whole; intro g' L' h' FG' F' N' B' X' T'; (try dsimp only); (try k_fold))
  trivial
noncomputable def BytesR (ks : List Int) (r : Value) (tl : List (Addr × Obj)) : Prop := tl = [] ∧ ∃ b t, r = .bytes b t ∧ KBw.bInts b = ks
theorem BytesR.mk {ks : List Int} {b : Array UInt8} {t : Tok} (h : KBw.bInts b = ks) : BytesR ks (.bytes b t) [] := ⟨rfl, b, t, rfl, h⟩
section
variable {need : Nat} {f : Addr} {vs : List Value} {news : List (Addr × Obj)}
    {w : World} {p : Program} {loose : List Str} {mean : ExcName → Option Value} {mg mb : Str → Option Value} {dp un : Nat} {gd : Option (List Code)} {cn : Str} {cs : Scope} {a : Addr} {ccd : Value} {cl : List (Str × Addr)} {outer : List Env} {A₀ : Around} {base h₀ : Heap} {L : Addr} {m : Str → Option Value} {s : Shared}
    {Q E : Value → Shared → Prop}
theorem Con.useB {ks : List Int} (C : Con w need f vs news (BytesR ks))
    (B : Below A₀ base outer h₀) (F : Fr h₀ L s.heap m) (X : (hd.heap_1 w.params).In h₀) (N : News h₀ L s.heap news) (T : Top p loose mean mg mb h₀) (hk : cs.kind = .function) (hd : dp + need < recursionLimit) (hu : un + 8 * need < cLine)
    (hs : ∀ b t h' tk', KBw.bInts b = ks → Fr h₀ L h' m → News h₀ L h' news → Q (.bytes b t) { s with heap := h', toks := tk' }) :
    wpAny (model P0 w) (ktrTop dp un gd cn cs L a ccd cl outer) (call (.ref f) vs) Q E s := by
  refine Con.use C B F X N T hk hd hu fun r tl h' tk' F' N' hR => ?_
  obtain ⟨rfl, b, t, rfl, e⟩ := hR; exact hs b t h' tk' e F' N'
end
-- an int's digits
noncomputable def decI (n : Int) : List Int := if n < 10 then [48 + n % 10] else if n < 100 then [48 + n / 10 % 10, 48 + n % 10] else [48 + n / 10 / 10 % 10, 48 + n / 10 % 10, 48 + n % 10]
theorem own_dec_oct_1 : True := by
  k_with "WhlIf" => first | (refine WhlIf.yes (decide_eq_true (by assumption)) ?_) | (refine WhlIf.no (decide_eq_false (by assumption)) ?_)
  trivial
set_option maxRecDepth 100000 in
set_option maxHeartbeats 8000000 in
theorem con_dec_oct (w : World) (n : Int) (t : Tok) (h0 : 0 ≤ n) (h1 : n ≤ 999) (news) :
   Con w 8 21 [.int n t] news (BytesR (decI n)) := by
  unfold Con
  intro p loose mean mg mb dp un gd cn cs a ccd cl outer A₀ base h₀ L m s Q E B F X N T hk hd hu hret
  obtain ⟨sh, sg, sd, st, so⟩ := s
  by_cases h10 : n < 10
  · have e1 : ¬ 0 < n.fdiv 10 := by rw [fd10]; omega
    refine wpAny_call ?_
    k_dflt cell_enter
    k_steps
    all_goals refine hret _ [] _ _ (by assumption) (by first | assumption | exact cb_drop (by assumption) (by first | exact fun _ h => .tail _ (h) | exact fun _ h => .tail _ (.tail _ (h)) | exact fun _ h => .tail _ (.tail _ (.tail _ (h))) | exact fun _ h => .tail _ (.tail _ (.tail _ (.tail _ (h)))) | exact fun _ h => .tail _ (.tail _ (.tail _ (.tail _ (.tail _ (h))))) | exact fun _ h => .tail _ (.tail _ (.tail _ (.tail _ (.tail _ (.tail _ (h)))))) | exact fun _ h => .tail _ (.tail _ (.tail _ (.tail _ (.tail _ (.tail _ (.tail _ (h))))))) | exact fun _ h => .tail _ (.tail _ (.tail _ (.tail _ (.tail _ (.tail _ (.tail _ (.tail _ (h)))))))))) (BytesR.mk (Eq.trans (by assumption) ?_))
    simp only [fm10, fd10]
    exact (if_pos h10).symm
  · have e1 : 0 < n.fdiv 10 := by rw [fd10]; omega
    by_cases h100 : n < 100
    · have e2 : ¬ 0 < (n.fdiv 10).fdiv 10 := by rw [fd10, fd10]; omega
      refine wpAny_call ?_
      k_dflt cell_enter
      k_steps
      all_goals refine hret _ [] _ _ (by assumption) (by first | assumption | exact cb_drop (by assumption) (by first | exact fun _ h => .tail _ (h) | exact fun _ h => .tail _ (.tail _ (h)) | exact fun _ h => .tail _ (.tail _ (.tail _ (h))) | exact fun _ h => .tail _ (.tail _ (.tail _ (.tail _ (h)))) | exact fun _ h => .tail _ (.tail _ (.tail _ (.tail _ (.tail _ (h))))) | exact fun _ h => .tail _ (.tail _ (.tail _ (.tail _ (.tail _ (.tail _ (h)))))) | exact fun _ h => .tail _ (.tail _ (.tail _ (.tail _ (.tail _ (.tail _ (.tail _ (h))))))) | exact fun _ h => .tail _ (.tail _ (.tail _ (.tail _ (.tail _ (.tail _ (.tail _ (.tail _ (h)))))))))) (BytesR.mk (Eq.trans (by assumption) ?_))
      simp only [fm10, fd10]
      exact ((if_neg h10).trans (if_pos h100)).symm
    · have e2 : 0 < (n.fdiv 10).fdiv 10 := by rw [fd10, fd10]; omega
      have e3 : ¬ 0 < ((n.fdiv 10).fdiv 10).fdiv 10 := by rw [fd10, fd10, fd10]; omega
      refine wpAny_call ?_
      k_dflt cell_enter
      k_steps
      all_goals refine hret _ [] _ _ (by assumption) (by first | assumption | exact cb_drop (by assumption) (by first | exact fun _ h => .tail _ (h) | exact fun _ h => .tail _ (.tail _ (h)) | exact fun _ h => .tail _ (.tail _ (.tail _ (h))) | exact fun _ h => .tail _ (.tail _ (.tail _ (.tail _ (h)))) | exact fun _ h => .tail _ (.tail _ (.tail _ (.tail _ (.tail _ (h))))) | exact fun _ h => .tail _ (.tail _ (.tail _ (.tail _ (.tail _ (.tail _ (h)))))) | exact fun _ h => .tail _ (.tail _ (.tail _ (.tail _ (.tail _ (.tail _ (.tail _ (h))))))) | exact fun _ h => .tail _ (.tail _ (.tail _ (.tail _ (.tail _ (.tail _ (.tail _ (.tail _ (h)))))))))) (BytesR.mk (Eq.trans (by assumption) ?_))
      simp only [fm10, fd10]
      exact ((if_neg h10).trans (if_neg h100)).symm


-- number
theorem rows_number : True := by
  w_top off
  k_with_none
  k_with "kba_ints2" => first | kba_ints | (apply ints_lit; (simp only [List.map_cons, List.map_nil, UInt8.reduceToNat, Int.cast_ofNat_Int]); (try exact rfl))
  k_with "compareOp Eq bytes bytes" => (k_here; (with_reducible show wpAny _ _ (compareOp CmpOp.Eq (Value.bytes _ _) (Value.bytes _ _)) _ _ _); (first | refine eq_ints_T (by kba_ints2) (by kba_ints2) (by assumption) ?_ | refine eq_ints_F (by kba_ints2) (by kba_ints2) (by assumption) ?_ | refine eq_ints (by kba_ints2) (by kba_ints2) ?_))
  k_with "compareOp NotEq bytes bytes" => (k_here; (with_reducible show wpAny _ _ (compareOp CmpOp.NotEq (Value.bytes _ _) (Value.bytes _ _)) _ _ _); (refine ne_ints (by kba_ints2) (by kba_ints2) ?_))
  k_with "compareOp NotIn bytes ref" => (k_here; (with_reducible show wpAny _ _ (compareOp CmpOp.NotIn (Value.bytes _ _) (Value.ref _)) _ _ _); (refine notIn_two (by k_asm) (by k_mem) (by kba_ints2) (by kba_ints2) (by kba_ints2) ?_))
  k_with "subscriptTail" => (k_here; (with_reducible show wpAny _ _ (subscriptTail _ (Expr.Slice _ _ none _) (Value.bytes _ _) (Value.ref _)) _ _ _); (with_reducible rename Fr _ _ _ _ => F'); (with_reducible rename News _ _ _ _ => N'); (refine slice_C (s := ⟨_, _, _, _, _⟩) F' N' (by kba_ints2) (by constructor) (by constructor) (by kba_size) (by intro i hi; simp at hi; try (subst hi; omega)) (by intro i hi; simp at hi; try (subst hi; omega)) (by first | exact cut_z3 | exact cut_z2 | exact cut_z | exact cut_mid3 (by omega) | exact cut_mid2 (by omega) | exact cut_lit3 | exact cut_lit2 | exact cut_lit3' | exact cut_lit2' | exact cut_two | exact cut_tail | exact cut_head') ?_); intro _ _ _ _ _ _ kbcK; (try simp only [Int.toNat_zero, Int.toNat_ofNat, List.drop_zero] at kbcK))
  k_with "ktr_room" => first | exact room9 (by assumption) rfl | exact Nat.lt_of_le_of_lt (Nat.le_add_right _ _) (by assumption)
  k_with "ktr_units" => exact units9 (by assumption) rfl
  k_with "getMethod bytes" => (k_here; first | refine meth_starts ?_ | refine meth_split ?_ | refine meth_join ?_)
  k_with "call builtin:bytes.startswith" => (k_here; first | refine call_starts_T (by kba_ints2) (by kba_ints2) (by assumption) ?_ | refine call_starts_F (by kba_ints2) (by kba_ints2) (by assumption) ?_ | refine call_starts_I (by kba_ints2) (by kba_ints2) ?_)
  k_with "CompEnd" => (refine LCg.CompEnd.intro (by assumption) (by assumption) _ (fun _ h => h) (by assumption) (by exact Or.inr ⟨_, by k_mem, rfl, _, rfl⟩) ?_)
  k_with "call type:bytes" => (k_here; (with_reducible show wpAny _ _ (call (Value.type "bytes") [Value.ref _]) _ _ _); (refine' KBa.make_K ?kbaF ?kbaN ?kbah ?kbal ?kbai ?kbar ?kban ?_; (case kbaF => k_asm); (case kbaN => k_asm); (case kbah => rfl); (case kbal => kba_isList); (case kbai => kba_listInts); (case kbar => (repeat' (first | exact List.forall_mem_nil _ | (refine List.forall_mem_cons.mpr ⟨⟨?_, ?_⟩, ?_⟩) | omega | (simp only [fd10, fm10]; omega)))); (case kban => kba_size)); intro _ _ _ F' N' kbaIn; (have kbaM := KBa.ints_make kbaIn))
  k_with "cell_enter" => (refine' code_defC ?k1 ?k2 ?k3 ?k4 ?k5 ?kA ?kF ?kK ?k6 ?k7 ?k8 ?k9 ?kB ?kD ?_ ?c2 ?c3 ?c4; (case kA => exact rfl); (case kF => exact rfl); (case kK => first | exact rfl | assumption); (case k1 => k_asm); (case k2 => k_asm); (case k3 => k_asm); (case k4 => k_asm); (case k5 => k_asm); (case k6 => k_is); (case k7 => k_is); (case k8 => ktr_room); (case k9 => first | exact BindsTo.of_eq rfl | exact binds_K (by k_in) rfl (by k_is) rfl rfl rfl); (case kB => exact rfl); (case kD => decide +kernel); (case c2 => exact rfl); (case c3 => exact rfl); (case c4 => exact rfl); k_whole; intro g' L' h' tk' cells' FG' F' N' Y' B' X' T' l1; (try k_lt l1); k_cells Y'; (try simp only [List.cons_append, List.nil_append] at N'); (try dsimp only); (try k_lift B'); (try k_fold))
  k_with "call builtin:bytes.join" => (k_here; refine call_join_I (by k_asm) (by k_mem) rfl rfl (by kba_ints2) (by kba_ints2) (by kba_ints2) (by kba_ints2) (by first | assumption | decide) (by first | assumption | decide) (by first | assumption | decide) (by first | assumption | decide) ?_; intro _ _ _ kbJ; (try simp only [List.append_nil] at kbJ))
  k_with "units_room" => exact room_deep (by omega)
  k_with "cell_enter" => (refine' code_def ?k1 ?k2 ?k3 ?k4 ?k5 ?kA ?kF ?kK ?k6 ?k7 ?k8 ?k9 ?kB ?_ ?c2 ?c3 ?c4 ?c5; (case kA => exact rfl); (case kF => exact rfl); (case kK => first | exact rfl | assumption); (case k1 => k_asm); (case k2 => k_asm); (case k3 => k_asm); (case k4 => k_asm); (case k5 => k_asm); (case k6 => k_is); (case k7 => k_is); (case k8 => ktr_room); (case k9 => exact binds_K (by k_in) rfl (by k_is) rfl rfl rfl); (case c5 => decide); (case kB => exact locs rfl); (case c2 => exact rfl); (case c3 => exact rfl); (case c4 => exact rfl); k_whole; intro g' L' h' FG' F' N' B' X' T'; (try dsimp only); (try k_fold))
  k_with "con" => (k_here; (with_reducible show wpAny _ _ (call (Value.ref 123) [Value.int _ _]) _ _ _); k_dflt (
    refine Con.useV (con_is_wheel _ _ _ _) (by k_asm) (by k_asm) (by k_asm) (by k_asm) (by k_asm) (by first | exact rfl | assumption) (by ktr_room) (by ktr_units) ?_
    (intro t9 h' tk' F' N'; (try dsimp only); (try k_fold))))
  k_with "walk1" => ((first | with_reducible show wpAny _ _ (exec _ _) _ _ _ | with_reducible show wpAny _ _ (isTrue _ _ _) _ _ _); k_fold)
  trivial
-- the number that tells an event
noncomputable def nbase (k : Str) (bt : Int) (nr : Bool) : Int := if bt = 0 ∨ (k = Str.ofString "release" ∧ nr = false) then 3 else if bt < 4 then bt - 1 else if bt ≤ 7 then 64 + bt - 4 else 128 + bt - 7 - 1
noncomputable def mnum (k : Str) (bt md : Int) (nr : Bool) : Int := nbase k bt nr + (if k = Str.ofString "move" then 32 else 0) + 4 * bitAnd md 7
section
variable {k : Str} {bt md a : Int} {nr : Bool}
theorem num_a (h : bt = 0) : nbase k bt nr = 3 := if_pos (.inl h)
theorem num_b (h : (k == Str.ofString "release") = true) (h2 : nr = false) : nbase k bt nr = 3 := if_pos (.inr ⟨eq_of_beq h, h2⟩)
theorem num_not (h : bt ≠ 0) (h2 : (k == Str.ofString "release") = false ∨ nr = true) : ¬ (bt = 0 ∨ (k = Str.ofString "release" ∧ nr = false)) := fun x => x.elim h fun y => by
  rcases h2 with h2 | h2
  · rw [y.1, beq_self_eq_true] at h2; cases h2
  · rw [y.2] at h2; cases h2
theorem num_c (h : bt ≠ 0) (h2 : (k == Str.ofString "release") = false ∨ nr = true) (h4 : bt < 4) : nbase k bt nr = bt - 1 := (if_neg (num_not h h2)).trans (if_pos h4)
theorem num_d (h : bt ≠ 0) (h2 : (k == Str.ofString "release") = false ∨ nr = true) (h4 : ¬ bt < 4) (h5 : 4 ≤ bt ∧ bt ≤ 7) : nbase k bt nr = 64 + bt - 4 := (if_neg (num_not h h2)).trans ((if_neg h4).trans (if_pos h5.2))
theorem num_e (h : bt ≠ 0) (h2 : (k == Str.ofString "release") = false ∨ nr = true) (h4 : ¬ bt < 4) (h5 : ¬ (4 ≤ bt ∧ bt ≤ 7)) : nbase k bt nr = 128 + bt - 7 - 1 := (if_neg (num_not h h2)).trans ((if_neg h4).trans (if_neg (by omega)))
theorem mnum_y (h : nbase k bt nr = a) (hm : (k == Str.ofString "move") = true) : a + 32 + 4 * bitAnd md 7 = mnum k bt md nr := by
  unfold mnum; rw [h, if_pos (eq_of_beq hm)]
theorem mnum_n (h : nbase k bt nr = a) (hm : (k == Str.ofString "move") = false) : a + 4 * bitAnd md 7 = mnum k bt md nr := by
  unfold mnum; rw [h, if_neg (fun e => by rw [e, beq_self_eq_true] at hm; cases hm), Int.add_zero]
theorem ValR.int {v v' : Int} {t : Tok} (e : v = v') : ValR (fun t => .int v' t) (.int v t) [] := by subst e; exact ⟨rfl, t, rfl⟩
end
theorem nbase_bd {k : Str} {bt : Int} {nr : Bool} (h0 : 0 ≤ bt) (h1 : bt ≤ 11) : 0 ≤ nbase k bt nr ∧ nbase k bt nr ≤ 131 := by
  unfold nbase
  split
  · omega
  · split
    · omega
    · split <;> omega
theorem num_cut {M : Model} {A : Around} {h₀ : Heap} {L : Addr} {st : Stmt} {env : Env} {s : Shared} {m : Str → Option Value} {news : List (Addr × Obj)} {Q : Flow → Shared → Prop} {E : Value → Shared → Prop} (v : Int) (F : Fr h₀ L s.heap m) (N : News h₀ L s.heap news)
    (walk : Hold (wpAny M A (exec st env) (CutPost h₀ L (Str.ofString "number") m news (fun n => n = v) s) E s))
    (rest : Hold (∀ t h' tk, Fr h₀ L h' (fun z => if z = Str.ofString "number" then some (.int v t) else m z) → News h₀ L h' news → Q .next { s with heap := h', toks := tk })) : wpAny M A (exec st env) Q E s :=
  cut_use (Str.ofString "number") (fun n => n = v) F N walk fun n t h' tk e F' N' => by subst e; exact rest t h' tk F' N'
set_option maxRecDepth 100000 in
set_option maxHeartbeats 8000000 in
theorem con_number (w : World) (x d : Addr) (k : Str) (bt r c md : Int) (u0 u1 u2 u3 u4 u5 u6 u7 u8 u9 tx : Tok) (nr : Bool) (h0 : 0 ≤ bt) (h1 : bt ≤ 11) (h2 : 0 ≤ md) (h3 : md ≤ 7) (hk3 : k = Str.ofString "press" ∨ k = Str.ofString "release" ∨ k = Str.ofString "move") (news) :
   Con w 4 130 [.ref x, .bool nr] ((x, instObj 105 d) :: (d, dictOf [⟨PyData.keyHash w.params (Str.ofString "kind"), .str (Str.ofString "kind") u0, .str k u1⟩, ⟨PyData.keyHash w.params (Str.ofString "button"), .str (Str.ofString "button") u2, .int bt u3⟩, ⟨PyData.keyHash w.params (Str.ofString "row"), .str (Str.ofString "row") u4, .int r u5⟩, ⟨PyData.keyHash w.params (Str.ofString "column"), .str (Str.ofString "column") u6, .int c u7⟩, ⟨PyData.keyHash w.params (Str.ofString "modifiers"), .str (Str.ofString "modifiers") u8, .int md u9⟩] 5) :: news) (ValR fun t => .int (mnum k bt md nr) t) := by
  unfold Con
  intro p loose mean mg mb dp un gd cn cs a ccd cl outer A₀ base h₀ L m s Q E B F X N T hk hd hu hret
  obtain ⟨sh, sg, sd, st, so⟩ := s
  refine wpAny_call ?_
  k_dflt cell_enter
  k_with "exec If" => (k_here; (rename CutMark 1 => hM; clear hM); k_dflt (refine num_cut (nbase k bt nr) (by k_asm) (by k_asm) ?_ ?_))
  have hM : CutMark 1 := rfl
  k_steps
  · unfold Hold
    k_steps
    all_goals refine CutPost.intro (by assumption) (by assumption) (fun _ => rfl) ?_
    all_goals first
      | exact (num_a (by assumption)).symm
      | exact (num_b (by assumption) (by assumption)).symm
      | exact (num_c (by assumption) (.inl (by assumption)) (by assumption)).symm
      | exact (num_c (by assumption) (.inr (by assumption)) (by assumption)).symm
      | exact (num_d (by assumption) (.inl (by assumption)) (by assumption) (by assumption)).symm
      | exact (num_d (by assumption) (.inr (by assumption)) (by assumption) (by assumption)).symm
      | exact (num_e (by assumption) (.inl (by assumption)) (by assumption) (by assumption)).symm
      | exact (num_e (by assumption) (.inr (by assumption)) (by assumption) (by assumption)).symm
  · unfold Hold
    intro t' h' tk' F' N'
    have hnb := nbase_bd (k := k) (nr := nr) h0 h1
    k_steps
    all_goals refine hret _ [] _ _ (by assumption) (by first | assumption | exact cb_drop (by assumption) (by first | exact fun _ h => .tail _ (h) | exact fun _ h => .tail _ (.tail _ (h)) | exact fun _ h => .tail _ (.tail _ (.tail _ (h))) | exact fun _ h => .tail _ (.tail _ (.tail _ (.tail _ (h)))) | exact fun _ h => .tail _ (.tail _ (.tail _ (.tail _ (.tail _ (h))))) | exact fun _ h => .tail _ (.tail _ (.tail _ (.tail _ (.tail _ (.tail _ (h)))))) | exact fun _ h => .tail _ (.tail _ (.tail _ (.tail _ (.tail _ (.tail _ (.tail _ (h))))))) | exact fun _ h => .tail _ (.tail _ (.tail _ (.tail _ (.tail _ (.tail _ (.tail _ (.tail _ (h)))))))))) (ValR.int ?_)
    all_goals first
      | exact mnum_y rfl (by assumption)
      | exact mnum_n rfl (by assumption)


-- told
theorem rows_told : True := by
  w_top off
  k_with_none
  k_with "kba_ints2" => first | kba_ints | (apply ints_lit; (simp only [List.map_cons, List.map_nil, UInt8.reduceToNat, Int.cast_ofNat_Int]); (try exact rfl))
  k_with "compareOp Eq bytes bytes" => (k_here; (with_reducible show wpAny _ _ (compareOp CmpOp.Eq (Value.bytes _ _) (Value.bytes _ _)) _ _ _); (first | refine eq_ints_T (by kba_ints2) (by kba_ints2) (by assumption) ?_ | refine eq_ints_F (by kba_ints2) (by kba_ints2) (by assumption) ?_ | refine eq_ints (by kba_ints2) (by kba_ints2) ?_))
  k_with "compareOp NotEq bytes bytes" => (k_here; (with_reducible show wpAny _ _ (compareOp CmpOp.NotEq (Value.bytes _ _) (Value.bytes _ _)) _ _ _); (refine ne_ints (by kba_ints2) (by kba_ints2) ?_))
  k_with "compareOp NotIn bytes ref" => (k_here; (with_reducible show wpAny _ _ (compareOp CmpOp.NotIn (Value.bytes _ _) (Value.ref _)) _ _ _); (refine notIn_two (by k_asm) (by k_mem) (by kba_ints2) (by kba_ints2) (by kba_ints2) ?_))
  k_with "subscriptTail" => (k_here; (with_reducible show wpAny _ _ (subscriptTail _ (Expr.Slice _ _ none _) (Value.bytes _ _) (Value.ref _)) _ _ _); (with_reducible rename Fr _ _ _ _ => F'); (with_reducible rename News _ _ _ _ => N'); (refine slice_C (s := ⟨_, _, _, _, _⟩) F' N' (by kba_ints2) (by constructor) (by constructor) (by kba_size) (by intro i hi; simp at hi; try (subst hi; omega)) (by intro i hi; simp at hi; try (subst hi; omega)) (by first | exact cut_z3 | exact cut_z2 | exact cut_z | exact cut_mid3 (by omega) | exact cut_mid2 (by omega) | exact cut_lit3 | exact cut_lit2 | exact cut_lit3' | exact cut_lit2' | exact cut_two | exact cut_tail | exact cut_head') ?_); intro _ _ _ _ _ _ kbcK; (try simp only [Int.toNat_zero, Int.toNat_ofNat, List.drop_zero] at kbcK))
  k_with "ktr_room" => first | exact room9 (by assumption) rfl | exact Nat.lt_of_le_of_lt (Nat.le_add_right _ _) (by assumption)
  k_with "ktr_units" => exact units9 (by assumption) rfl
  k_with "getMethod bytes" => (k_here; first | refine meth_starts ?_ | refine meth_split ?_ | refine meth_join ?_)
  k_with "call builtin:bytes.startswith" => (k_here; first | refine call_starts_T (by kba_ints2) (by kba_ints2) (by assumption) ?_ | refine call_starts_F (by kba_ints2) (by kba_ints2) (by assumption) ?_ | refine call_starts_I (by kba_ints2) (by kba_ints2) ?_)
  k_with "CompEnd" => (refine LCg.CompEnd.intro (by assumption) (by assumption) _ (fun _ h => h) (by assumption) (by exact Or.inr ⟨_, by k_mem, rfl, _, rfl⟩) ?_)
  k_with "call type:bytes" => (k_here; (with_reducible show wpAny _ _ (call (Value.type "bytes") [Value.ref _]) _ _ _); (refine' KBa.make_K ?kbaF ?kbaN ?kbah ?kbal ?kbai ?kbar ?kban ?_; (case kbaF => k_asm); (case kbaN => k_asm); (case kbah => rfl); (case kbal => kba_isList); (case kbai => kba_listInts); (case kbar => (repeat' (first | exact List.forall_mem_nil _ | (refine List.forall_mem_cons.mpr ⟨⟨?_, ?_⟩, ?_⟩) | omega | (simp only [fd10, fm10]; omega)))); (case kban => kba_size)); intro _ _ _ F' N' kbaIn; (have kbaM := KBa.ints_make kbaIn))
  k_with "cell_enter" => (refine' code_defC ?k1 ?k2 ?k3 ?k4 ?k5 ?kA ?kF ?kK ?k6 ?k7 ?k8 ?k9 ?kB ?kD ?_ ?c2 ?c3 ?c4; (case kA => exact rfl); (case kF => exact rfl); (case kK => first | exact rfl | assumption); (case k1 => k_asm); (case k2 => k_asm); (case k3 => k_asm); (case k4 => k_asm); (case k5 => k_asm); (case k6 => k_is); (case k7 => k_is); (case k8 => ktr_room); (case k9 => first | exact BindsTo.of_eq rfl | exact binds_K (by k_in) rfl (by k_is) rfl rfl rfl); (case kB => exact rfl); (case kD => decide +kernel); (case c2 => exact rfl); (case c3 => exact rfl); (case c4 => exact rfl); k_whole; intro g' L' h' tk' cells' FG' F' N' Y' B' X' T' l1; (try k_lt l1); k_cells Y'; (try simp only [List.cons_append, List.nil_append] at N'); (try dsimp only); (try k_lift B'); (try k_fold))
  k_with "call builtin:bytes.join" => (k_here; refine call_join_I (by k_asm) (by k_mem) rfl rfl (by kba_ints2) (by kba_ints2) (by kba_ints2) (by kba_ints2) (by first | assumption | decide) (by first | assumption | decide) (by first | assumption | decide) (by first | assumption | decide) ?_; intro _ _ _ kbJ; (try simp only [List.append_nil] at kbJ))
  k_with "units_room" => exact room_deep (by omega)
  k_with "cell_enter" => (refine' code_def ?k1 ?k2 ?k3 ?k4 ?k5 ?kA ?kF ?kK ?k6 ?k7 ?k8 ?k9 ?kB ?_ ?c2 ?c3 ?c4 ?c5; (case kA => exact rfl); (case kF => exact rfl); (case kK => first | exact rfl | assumption); (case k1 => k_asm); (case k2 => k_asm); (case k3 => k_asm); (case k4 => k_asm); (case k5 => k_asm); (case k6 => k_is); (case k7 => k_is); (case k8 => ktr_room); (case k9 => exact binds_K (by k_in) rfl (by k_is) rfl rfl rfl); (case c5 => decide); (case kB => exact locs rfl); (case c2 => exact rfl); (case c3 => exact rfl); (case c4 => exact rfl); k_whole; intro g' L' h' FG' F' N' B' X' T'; (try dsimp only); (try k_fold))
  k_with "con" => (k_here; (with_reducible show wpAny _ _ (call (Value.ref 123) [Value.int _ _]) _ _ _); k_dflt (
    refine Con.useV (con_is_wheel _ _ _ _) (by k_asm) (by k_asm) (by k_asm) (by k_asm) (by k_asm) (by first | exact rfl | assumption) (by ktr_room) (by ktr_units) ?_
    (intro t9 h' tk' F' N'; (try dsimp only); (try k_fold))))
  trivial
noncomputable def Told (k : Str) (bt : Int) : Prop := (k = Str.ofString "press" ∧ 0 < bt ∧ bt ≤ 11) ∨ (k = Str.ofString "release" ∧ ¬ (4 ≤ bt ∧ bt ≤ 7)) ∨ k = Str.ofString "move"
theorem told_p {k : Str} {bt : Int} (h : Told k bt) (hp : (k == Str.ofString "press") = true) : 0 < bt ∧ bt ≤ 11 := by
  have hk := eq_of_beq hp
  rcases h with h | h | h
  · exact h.2
  · exact absurd (hk.symm.trans h.1) (by decide +kernel)
  · exact absurd (hk.symm.trans h) (by decide +kernel)
theorem told_r {k : Str} {bt : Int} (h : Told k bt) (hp : (k == Str.ofString "release") = true) : ¬ (4 ≤ bt ∧ bt ≤ 7) := by
  have hk := eq_of_beq hp
  rcases h with h | h | h
  · exact absurd (hk.symm.trans h.1) (by decide +kernel)
  · exact h.2
  · exact absurd (hk.symm.trans h) (by decide +kernel)
set_option maxRecDepth 100000 in
set_option maxHeartbeats 8000000 in
theorem con_told (w : World) (x d : Addr) (k : Str) (bt r c md : Int) (u0 u1 u2 u3 u4 u5 u6 u7 u8 u9 tx : Tok) (ht : Told k bt) (news) :
   Con w 4 144 [.ref x, .str (Str.ofString "mouse_all") tx] ((x, instObj 105 d) :: (d, dictOf [⟨PyData.keyHash w.params (Str.ofString "kind"), .str (Str.ofString "kind") u0, .str k u1⟩, ⟨PyData.keyHash w.params (Str.ofString "button"), .str (Str.ofString "button") u2, .int bt u3⟩, ⟨PyData.keyHash w.params (Str.ofString "row"), .str (Str.ofString "row") u4, .int r u5⟩, ⟨PyData.keyHash w.params (Str.ofString "column"), .str (Str.ofString "column") u6, .int c u7⟩, ⟨PyData.keyHash w.params (Str.ofString "modifiers"), .str (Str.ofString "modifiers") u8, .int md u9⟩] 5) :: news) (ValR fun _ => .bool true) := by
  unfold Con
  intro p loose mean mg mb dp un gd cn cs a ccd cl outer A₀ base h₀ L m s Q E B F X N T hk hd hu hret
  obtain ⟨sh, sg, sd, st, so⟩ := s
  refine wpAny_call ?_
  k_dflt cell_enter
  k_steps
  all_goals refine hret _ [] _ _ (by assumption) (by first | assumption | exact cb_drop (by assumption) (by first | exact fun _ h => .tail _ (h) | exact fun _ h => .tail _ (.tail _ (h)) | exact fun _ h => .tail _ (.tail _ (.tail _ (h))) | exact fun _ h => .tail _ (.tail _ (.tail _ (.tail _ (h)))) | exact fun _ h => .tail _ (.tail _ (.tail _ (.tail _ (.tail _ (h))))) | exact fun _ h => .tail _ (.tail _ (.tail _ (.tail _ (.tail _ (.tail _ (h)))))) | exact fun _ h => .tail _ (.tail _ (.tail _ (.tail _ (.tail _ (.tail _ (.tail _ (h))))))) | exact fun _ h => .tail _ (.tail _ (.tail _ (.tail _ (.tail _ (.tail _ (.tail _ (.tail _ (h)))))))))) (ValR.mk (t := 0) (congrArg Value.bool ?_))
  · exact decide_eq_true (told_p ht (by assumption)).2
  · exact absurd (told_p ht (by assumption)).1 (by assumption)
  · rw [decide_eq_false (told_r ht (by assumption))]; rfl
  · exact beq_self_eq_true _


-- code_oct
theorem rows_code_oct : True := by
  w_top off
  k_with_none
  k_with "kba_ints2" => first | kba_ints | (apply ints_lit; (simp only [List.map_cons, List.map_nil, UInt8.reduceToNat, Int.cast_ofNat_Int]); (try exact rfl))
  k_with "compareOp Eq bytes bytes" => (k_here; (with_reducible show wpAny _ _ (compareOp CmpOp.Eq (Value.bytes _ _) (Value.bytes _ _)) _ _ _); (first | refine eq_ints_T (by kba_ints2) (by kba_ints2) (by assumption) ?_ | refine eq_ints_F (by kba_ints2) (by kba_ints2) (by assumption) ?_ | refine eq_ints (by kba_ints2) (by kba_ints2) ?_))
  k_with "compareOp NotEq bytes bytes" => (k_here; (with_reducible show wpAny _ _ (compareOp CmpOp.NotEq (Value.bytes _ _) (Value.bytes _ _)) _ _ _); (refine ne_ints (by kba_ints2) (by kba_ints2) ?_))
  k_with "compareOp NotIn bytes ref" => (k_here; (with_reducible show wpAny _ _ (compareOp CmpOp.NotIn (Value.bytes _ _) (Value.ref _)) _ _ _); (refine notIn_two (by k_asm) (by k_mem) (by kba_ints2) (by kba_ints2) (by kba_ints2) ?_))
  k_with "subscriptTail" => (k_here; (with_reducible show wpAny _ _ (subscriptTail _ (Expr.Slice _ _ none _) (Value.bytes _ _) (Value.ref _)) _ _ _); (with_reducible rename Fr _ _ _ _ => F'); (with_reducible rename News _ _ _ _ => N'); (refine slice_C (s := ⟨_, _, _, _, _⟩) F' N' (by kba_ints2) (by constructor) (by constructor) (by kba_size) (by intro i hi; simp at hi; try (subst hi; omega)) (by intro i hi; simp at hi; try (subst hi; omega)) (by first | exact cut_z3 | exact cut_z2 | exact cut_z | exact cut_mid3 (by omega) | exact cut_mid2 (by omega) | exact cut_lit3 | exact cut_lit2 | exact cut_lit3' | exact cut_lit2' | exact cut_two | exact cut_tail | exact cut_head') ?_); intro _ _ _ _ _ _ kbcK; (try simp only [Int.toNat_zero, Int.toNat_ofNat, List.drop_zero] at kbcK))
  k_with "ktr_room" => first | exact room9 (by assumption) rfl | exact Nat.lt_of_le_of_lt (Nat.le_add_right _ _) (by assumption)
  k_with "ktr_units" => exact units9 (by assumption) rfl
  k_with "getMethod bytes" => (k_here; first | refine meth_starts ?_ | refine meth_split ?_ | refine meth_join ?_)
  k_with "call builtin:bytes.startswith" => (k_here; first | refine call_starts_T (by kba_ints2) (by kba_ints2) (by assumption) ?_ | refine call_starts_F (by kba_ints2) (by kba_ints2) (by assumption) ?_ | refine call_starts_I (by kba_ints2) (by kba_ints2) ?_)
  k_with "CompEnd" => (refine LCg.CompEnd.intro (by assumption) (by assumption) _ (fun _ h => h) (by assumption) (by exact Or.inr ⟨_, by k_mem, rfl, _, rfl⟩) ?_)
  k_with "call type:bytes" => (k_here; (with_reducible show wpAny _ _ (call (Value.type "bytes") [Value.ref _]) _ _ _); (refine' KBa.make_K ?kbaF ?kbaN ?kbah ?kbal ?kbai ?kbar ?kban ?_; (case kbaF => k_asm); (case kbaN => k_asm); (case kbah => rfl); (case kbal => kba_isList); (case kbai => kba_listInts); (case kbar => (repeat' (first | exact List.forall_mem_nil _ | (refine List.forall_mem_cons.mpr ⟨⟨?_, ?_⟩, ?_⟩) | omega | (simp only [fd10, fm10]; omega)))); (case kban => kba_size)); intro _ _ _ F' N' kbaIn; (have kbaM := KBa.ints_make kbaIn))
  k_with "cell_enter" => (refine' code_defC ?k1 ?k2 ?k3 ?k4 ?k5 ?kA ?kF ?kK ?k6 ?k7 ?k8 ?k9 ?kB ?kD ?_ ?c2 ?c3 ?c4; (case kA => exact rfl); (case kF => exact rfl); (case kK => first | exact rfl | assumption); (case k1 => k_asm); (case k2 => k_asm); (case k3 => k_asm); (case k4 => k_asm); (case k5 => k_asm); (case k6 => k_is); (case k7 => k_is); (case k8 => ktr_room); (case k9 => first | exact BindsTo.of_eq rfl | exact binds_K (by k_in) rfl (by k_is) rfl rfl rfl); (case kB => exact rfl); (case kD => decide +kernel); (case c2 => exact rfl); (case c3 => exact rfl); (case c4 => exact rfl); k_whole; intro g' L' h' tk' cells' FG' F' N' Y' B' X' T' l1; (try k_lt l1); k_cells Y'; (try simp only [List.cons_append, List.nil_append] at N'); (try dsimp only); (try k_lift B'); (try k_fold))
  k_with "call builtin:bytes.join" => (k_here; refine call_join_I (by k_asm) (by k_mem) rfl rfl (by kba_ints2) (by kba_ints2) (by kba_ints2) (by kba_ints2) (by first | assumption | decide) (by first | assumption | decide) (by first | assumption | decide) (by first | assumption | decide) ?_; intro _ _ _ kbJ; (try simp only [List.append_nil] at kbJ))
  k_with "units_room" => exact room_deep (by omega)
  k_with "cell_enter" => (refine' code_def ?k1 ?k2 ?k3 ?k4 ?k5 ?kA ?kF ?kK ?k6 ?k7 ?k8 ?k9 ?kB ?_ ?c2 ?c3 ?c4 ?c5; (case kA => exact rfl); (case kF => exact rfl); (case kK => first | exact rfl | assumption); (case k1 => k_asm); (case k2 => k_asm); (case k3 => k_asm); (case k4 => k_asm); (case k5 => k_asm); (case k6 => k_is); (case k7 => k_is); (case k8 => ktr_room); (case k9 => exact binds_K (by k_in) rfl (by k_is) rfl rfl rfl); (case c5 => decide); (case kB => exact locs rfl); (case c2 => exact rfl); (case c3 => exact rfl); (case c4 => exact rfl); k_whole; intro g' L' h' FG' F' N' B' X' T'; (try dsimp only); (try k_fold))
  k_with "con" => (k_here; (with_reducible show wpAny _ _ (call (Value.ref 21) [Value.int _ _]) _ _ _); k_dflt (
    refine Con.useB (con_dec_oct _ _ _ (by first | assumption | omega | (simp; omega)) (by first | assumption | omega | (simp; omega)) _) (by k_asm) (by k_asm) (by k_asm) (by k_asm) (by k_asm) (by first | exact rfl | assumption) (by ktr_room) (by ktr_units) ?_
    (intro b9 t9 h' tk' hO9 F' N'; (try dsimp only); (try k_fold))))
  trivial
-- a code's octets: one or two
noncomputable def codeI (n : Int) : List Int := if n < 128 then [n] else [bitOr 192 (n / 64), bitOr 128 (bitAnd n 63)]
theorem codeI_len (n : Int) : (codeI n).length ≤ 100 := by
  unfold codeI
  split <;> simp
theorem bitOr_bd {a b : Int} (ha : 0 ≤ a) (ha' : a < 256) (hb : 0 ≤ b) (hb' : b < 256) : 0 ≤ bitOr a b ∧ bitOr a b < 256 := by
  have ho := bitOr_and a b
  rw [bitAnd_pp ha hb] at ho
  have h1 := nat_or_add_and a.toNat b.toNat
  have h := Nat.or_lt_two_pow (n := 8) (x := a.toNat) (y := b.toNat) (by omega) (by omega)
  have h2 : (a.toNat : Int) = a := Int.toNat_of_nonneg ha
  have h3 : (b.toNat : Int) = b := Int.toNat_of_nonneg hb
  omega
theorem shr6 (n : Int) : n.fdiv (2 ^ Int.toNat 6) = n / 64 := by
  have h6 : (2 : Int) ^ Int.toNat 6 = 64 := by decide
  rw [h6]
  exact Int.fdiv_eq_ediv_of_nonneg n (by decide)
theorem mask63 (n : Int) : bitAnd n 63 = n % 64 := kbt_mask n 6
set_option maxRecDepth 100000 in
set_option maxHeartbeats 8000000 in
theorem con_code_oct (w : World) (n : Int) (t : Tok) (h0 : 0 ≤ n) (h1 : n ≤ 2047) (news) :
   Con w 4 151 [.int n t] news (BytesR (codeI n)) := by
  unfold Con
  intro p loose mean mg mb dp un gd cn cs a ccd cl outer A₀ base h₀ L m s Q E B F X N T hk hd hu hret
  obtain ⟨sh, sg, sd, st, so⟩ := s
  have hr1 : 0 ≤ bitOr 192 (n.fdiv (2 ^ Int.toNat 6)) ∧ bitOr 192 (n.fdiv (2 ^ Int.toNat 6)) < 256 := by
    rw [shr6]
    exact bitOr_bd (by decide) (by decide) (by omega) (by omega)
  have hr2 : 0 ≤ bitOr 128 (bitAnd n 63) ∧ bitOr 128 (bitAnd n 63) < 256 := by
    rw [mask63]
    exact bitOr_bd (by decide) (by decide) (by omega) (by omega)
  refine wpAny_call ?_
  k_dflt cell_enter
  k_steps
  all_goals refine hret _ [] _ _ (by assumption) (by first | assumption | exact cb_drop (by assumption) (by first | exact fun _ h => .tail _ (h) | exact fun _ h => .tail _ (.tail _ (h)) | exact fun _ h => .tail _ (.tail _ (.tail _ (h))) | exact fun _ h => .tail _ (.tail _ (.tail _ (.tail _ (h)))) | exact fun _ h => .tail _ (.tail _ (.tail _ (.tail _ (.tail _ (h))))) | exact fun _ h => .tail _ (.tail _ (.tail _ (.tail _ (.tail _ (.tail _ (h)))))) | exact fun _ h => .tail _ (.tail _ (.tail _ (.tail _ (.tail _ (.tail _ (.tail _ (h))))))) | exact fun _ h => .tail _ (.tail _ (.tail _ (.tail _ (.tail _ (.tail _ (.tail _ (.tail _ (h)))))))))) (BytesR.mk ?_)
  · rw [codeI, if_pos (by assumption)]
    exact KBa.ints_make (ns := [n]) (fun k hk => by rw [List.mem_singleton.mp hk]; omega)
  · rw [codeI, if_neg (by assumption), ← shr6]
    exact KBa.ints_make (ns := [_, _]) (List.forall_mem_cons.mpr ⟨hr1, List.forall_mem_cons.mpr ⟨hr2, List.forall_mem_nil _⟩⟩)


-- plain_oct
theorem rows_plain_oct : True := by
  w_top off
  k_with_none
  k_with "kba_ints2" => first | kba_ints | (apply ints_lit; (simp only [List.map_cons, List.map_nil, UInt8.reduceToNat, Int.cast_ofNat_Int]); (try exact rfl))
  k_with "compareOp Eq bytes bytes" => (k_here; (with_reducible show wpAny _ _ (compareOp CmpOp.Eq (Value.bytes _ _) (Value.bytes _ _)) _ _ _); (first | refine eq_ints_T (by kba_ints2) (by kba_ints2) (by assumption) ?_ | refine eq_ints_F (by kba_ints2) (by kba_ints2) (by assumption) ?_ | refine eq_ints (by kba_ints2) (by kba_ints2) ?_))
  k_with "compareOp NotEq bytes bytes" => (k_here; (with_reducible show wpAny _ _ (compareOp CmpOp.NotEq (Value.bytes _ _) (Value.bytes _ _)) _ _ _); (refine ne_ints (by kba_ints2) (by kba_ints2) ?_))
  k_with "compareOp NotIn bytes ref" => (k_here; (with_reducible show wpAny _ _ (compareOp CmpOp.NotIn (Value.bytes _ _) (Value.ref _)) _ _ _); (refine notIn_two (by k_asm) (by k_mem) (by kba_ints2) (by kba_ints2) (by kba_ints2) ?_))
  k_with "subscriptTail" => (k_here; (with_reducible show wpAny _ _ (subscriptTail _ (Expr.Slice _ _ none _) (Value.bytes _ _) (Value.ref _)) _ _ _); (with_reducible rename Fr _ _ _ _ => F'); (with_reducible rename News _ _ _ _ => N'); (refine slice_C (s := ⟨_, _, _, _, _⟩) F' N' (by kba_ints2) (by constructor) (by constructor) (by kba_size) (by intro i hi; simp at hi; try (subst hi; omega)) (by intro i hi; simp at hi; try (subst hi; omega)) (by first | exact cut_z3 | exact cut_z2 | exact cut_z | exact cut_mid3 (by omega) | exact cut_mid2 (by omega) | exact cut_lit3 | exact cut_lit2 | exact cut_lit3' | exact cut_lit2' | exact cut_two | exact cut_tail | exact cut_head') ?_); intro _ _ _ _ _ _ kbcK; (try simp only [Int.toNat_zero, Int.toNat_ofNat, List.drop_zero] at kbcK))
  k_with "ktr_room" => first | exact room9 (by assumption) rfl | exact Nat.lt_of_le_of_lt (Nat.le_add_right _ _) (by assumption)
  k_with "ktr_units" => exact units9 (by assumption) rfl
  k_with "getMethod bytes" => (k_here; first | refine meth_starts ?_ | refine meth_split ?_ | refine meth_join ?_)
  k_with "call builtin:bytes.startswith" => (k_here; first | refine call_starts_T (by kba_ints2) (by kba_ints2) (by assumption) ?_ | refine call_starts_F (by kba_ints2) (by kba_ints2) (by assumption) ?_ | refine call_starts_I (by kba_ints2) (by kba_ints2) ?_)
  k_with "CompEnd" => (refine LCg.CompEnd.intro (by assumption) (by assumption) _ (fun _ h => h) (by assumption) (by exact Or.inr ⟨_, by k_mem, rfl, _, rfl⟩) ?_)
  k_with "call type:bytes" => (k_here; (with_reducible show wpAny _ _ (call (Value.type "bytes") [Value.ref _]) _ _ _); (refine' KBa.make_K ?kbaF ?kbaN ?kbah ?kbal ?kbai ?kbar ?kban ?_; (case kbaF => k_asm); (case kbaN => k_asm); (case kbah => rfl); (case kbal => kba_isList); (case kbai => kba_listInts); (case kbar => (repeat' (first | exact List.forall_mem_nil _ | (refine List.forall_mem_cons.mpr ⟨⟨?_, ?_⟩, ?_⟩) | omega | (simp only [fd10, fm10]; omega)))); (case kban => kba_size)); intro _ _ _ F' N' kbaIn; (have kbaM := KBa.ints_make kbaIn))
  k_with "cell_enter" => (refine' code_defC ?k1 ?k2 ?k3 ?k4 ?k5 ?kA ?kF ?kK ?k6 ?k7 ?k8 ?k9 ?kB ?kD ?_ ?c2 ?c3 ?c4; (case kA => exact rfl); (case kF => exact rfl); (case kK => first | exact rfl | assumption); (case k1 => k_asm); (case k2 => k_asm); (case k3 => k_asm); (case k4 => k_asm); (case k5 => k_asm); (case k6 => k_is); (case k7 => k_is); (case k8 => ktr_room); (case k9 => first | exact BindsTo.of_eq rfl | exact binds_K (by k_in) rfl (by k_is) rfl rfl rfl); (case kB => exact rfl); (case kD => decide +kernel); (case c2 => exact rfl); (case c3 => exact rfl); (case c4 => exact rfl); k_whole; intro g' L' h' tk' cells' FG' F' N' Y' B' X' T' l1; (try k_lt l1); k_cells Y'; (try simp only [List.cons_append, List.nil_append] at N'); (try dsimp only); (try k_lift B'); (try k_fold))
  k_with "call builtin:bytes.join" => (k_here; refine call_join_I (by k_asm) (by k_mem) rfl rfl (by kba_ints2) (by kba_ints2) (by kba_ints2) (by kba_ints2) (by first | assumption | decide) (by first | assumption | decide) (by first | assumption | decide) (by first | assumption | decide) ?_; intro _ _ _ kbJ; (try simp only [List.append_nil] at kbJ))
  k_with "units_room" => exact room_deep (by omega)
  k_with "cell_enter" => (refine' code_def ?k1 ?k2 ?k3 ?k4 ?k5 ?kA ?kF ?kK ?k6 ?k7 ?k8 ?k9 ?kB ?_ ?c2 ?c3 ?c4 ?c5; (case kA => exact rfl); (case kF => exact rfl); (case kK => first | exact rfl | assumption); (case k1 => k_asm); (case k2 => k_asm); (case k3 => k_asm); (case k4 => k_asm); (case k5 => k_asm); (case k6 => k_is); (case k7 => k_is); (case k8 => ktr_room); (case k9 => exact binds_K (by k_in) rfl (by k_is) rfl rfl rfl); (case c5 => decide); (case kB => exact locs rfl); (case c2 => exact rfl); (case c3 => exact rfl); (case c4 => exact rfl); k_whole; intro g' L' h' FG' F' N' B' X' T'; (try dsimp only); (try k_fold))
  k_with "con" => (k_here; (with_reducible show wpAny _ _ (call (Value.ref 21) [Value.int _ _]) _ _ _); k_dflt (
    refine Con.useB (con_dec_oct _ _ _ (by first | assumption | omega | (simp; omega)) (by first | assumption | omega | (simp; omega)) _) (by k_asm) (by k_asm) (by k_asm) (by k_asm) (by k_asm) (by first | exact rfl | assumption) (by ktr_room) (by ktr_units) ?_
    (intro b9 t9 h' tk' hO9 F' N'; (try dsimp only); (try k_fold))))
  k_with "con" => (k_here; (with_reducible show wpAny _ _ (call (Value.ref 151) [Value.int _ _]) _ _ _); k_dflt (
    refine Con.useB (con_code_oct _ _ _ (by first | assumption | omega | (simp; omega)) (by first | assumption | omega | (simp; omega)) _) (by k_asm) (by k_asm) (by k_asm) (by k_asm) (by k_asm) (by first | exact rfl | assumption) (by ktr_room) (by ktr_units) ?_
    (intro b9 t9 h' tk' hO9 F' N'; (try dsimp only); (try k_fold))))
  k_with "con" => (k_here; (with_reducible show wpAny _ _ (call (Value.ref 216) [Value.bytes _ _]) _ _ _); k_dflt (
    refine Con.useV (con_are_dec _ _ _ _ (by kba_ints2) (by first | assumption | omega | (simp; omega)) _) (by k_asm) (by k_asm) (by k_asm) (by k_asm) (by k_asm) (by first | exact rfl | assumption) (by ktr_room) (by ktr_units) ?_
    (intro t9 h' tk' F' N'; (try dsimp only); (try k_fold))))
  trivial
set_option maxRecDepth 100000 in
set_option maxHeartbeats 8000000 in
theorem con_plain_oct (w : World) (l : Addr) (a9 b9 c9 : Int) (t1 t2 t3 tm : Tok) (kk : Nat) (h0 : 0 ≤ a9) (h1 : a9 ≤ 223) (h2 : 0 ≤ b9) (h3 : b9 ≤ 223) (h4 : 0 ≤ c9) (h5 : c9 ≤ 223) (news) :
   Con w 14 156 [.ref l, .int 223 tm, .bool false] ((l, listOf #[.int a9 t1, .int b9 t2, .int c9 t3] kk) :: news) (BytesR [27, 91, 77, a9 + 32, b9 + 32, c9 + 32]) := by
  unfold Con
  intro p loose mean mg mb dp un gd cn cs a ccd cl outer A₀ base h₀ L m s Q E B F X N T hk hd hu hret
  obtain ⟨sh, sg, sd, st, so⟩ := s
  refine wpAny_call ?_
  k_dflt cell_enter
  k_steps
  all_goals exact hret _ [] _ _ (by assumption) (by first | assumption | exact cb_drop (by assumption) (by first | exact fun _ h => .tail _ (h) | exact fun _ h => .tail _ (.tail _ (h)) | exact fun _ h => .tail _ (.tail _ (.tail _ (h))) | exact fun _ h => .tail _ (.tail _ (.tail _ (.tail _ (h)))) | exact fun _ h => .tail _ (.tail _ (.tail _ (.tail _ (.tail _ (h))))) | exact fun _ h => .tail _ (.tail _ (.tail _ (.tail _ (.tail _ (.tail _ (h)))))) | exact fun _ h => .tail _ (.tail _ (.tail _ (.tail _ (.tail _ (.tail _ (.tail _ (h))))))) | exact fun _ h => .tail _ (.tail _ (.tail _ (.tail _ (.tail _ (.tail _ (.tail _ (.tail _ (h)))))))))) (BytesR.mk (by assumption))
section
theorem own_plain_oct_1 : True := by
  k_with "eval ListComp" => (k_here; lcg_look; lcg_calm; k_dflt (refine LCg.ListComp_U (F₀ := by k_asm) (by rfl) (by decide) (by rfl) (by decide) (by rfl) ?_); k_dflt lcg_toSrc)
  k_with "exec Assign cons ListComp" => (k_here; lcg_look; lcg_calm; k_dflt (refine LCg.Assign_ListComp_U (F₀ := by k_asm) (by rfl) (by with_unfolding_all rfl) (by rfl) (by decide) (by rfl) (by decide) (by rfl) (by rfl) (by rfl) ?_); k_dflt lcg_toSrc)
  k_with "CompSrc" => (k_here; k_dflt (refine LCg.CompSrc.ledger (by rfl) (by k_asm) (by k_asm) (by k_mem) (by first | size_fits | exact Nat.le_of_ble_eq_true rfl) ?_; intro g'; lcg_lit))
  trivial
set_option maxRecDepth 100000 in
set_option maxHeartbeats 8000000 in
theorem con_plain_utf (w : World) (l : Addr) (a9 b9 c9 : Int) (t1 t2 t3 tm : Tok) (kk : Nat) (h0 : 0 ≤ a9) (h1 : a9 ≤ 2015) (h2 : 0 ≤ b9) (h3 : b9 ≤ 2015) (h4 : 0 ≤ c9) (h5 : c9 ≤ 2015) (news) :
   Con w 14 156 [.ref l, .int 2015 tm, .bool true] ((l, listOf #[.int a9 t1, .int b9 t2, .int c9 t3] kk) :: news) (BytesR ([27, 91, 77] ++ (codeI (a9 + 32) ++ codeI (b9 + 32) ++ codeI (c9 + 32)))) := by
  unfold Con
  intro p loose mean mg mb dp un gd cn cs a ccd cl outer A₀ base h₀ L m s Q E B F X N T hk hd hu hret
  obtain ⟨sh, sg, sd, st, so⟩ := s
  have hc1 := codeI_len (a9 + 32)
  have hc2 := codeI_len (b9 + 32)
  have hc3 := codeI_len (c9 + 32)
  refine wpAny_call ?_
  k_dflt cell_enter
  k_steps
  all_goals exact hret _ [] _ _ (by assumption) (by first | assumption | exact cb_drop (by assumption) (by first | exact fun _ h => .tail _ (h) | exact fun _ h => .tail _ (.tail _ (h)) | exact fun _ h => .tail _ (.tail _ (.tail _ (h))) | exact fun _ h => .tail _ (.tail _ (.tail _ (.tail _ (h)))) | exact fun _ h => .tail _ (.tail _ (.tail _ (.tail _ (.tail _ (h))))) | exact fun _ h => .tail _ (.tail _ (.tail _ (.tail _ (.tail _ (.tail _ (h)))))) | exact fun _ h => .tail _ (.tail _ (.tail _ (.tail _ (.tail _ (.tail _ (.tail _ (h))))))) | exact fun _ h => .tail _ (.tail _ (.tail _ (.tail _ (.tail _ (.tail _ (.tail _ (.tail _ (h)))))))))) (BytesR.mk (by assumption))
end


-- decimals
theorem rows_decimals : True := by
  w_top off
  k_with_none
  k_with "kba_ints2" => first | kba_ints | (apply ints_lit; (simp only [List.map_cons, List.map_nil, UInt8.reduceToNat, Int.cast_ofNat_Int]); (try exact rfl))
  k_with "compareOp Eq bytes bytes" => (k_here; (with_reducible show wpAny _ _ (compareOp CmpOp.Eq (Value.bytes _ _) (Value.bytes _ _)) _ _ _); (first | refine eq_ints_T (by kba_ints2) (by kba_ints2) (by assumption) ?_ | refine eq_ints_F (by kba_ints2) (by kba_ints2) (by assumption) ?_ | refine eq_ints (by kba_ints2) (by kba_ints2) ?_))
  k_with "compareOp NotEq bytes bytes" => (k_here; (with_reducible show wpAny _ _ (compareOp CmpOp.NotEq (Value.bytes _ _) (Value.bytes _ _)) _ _ _); (refine ne_ints (by kba_ints2) (by kba_ints2) ?_))
  k_with "compareOp NotIn bytes ref" => (k_here; (with_reducible show wpAny _ _ (compareOp CmpOp.NotIn (Value.bytes _ _) (Value.ref _)) _ _ _); (refine notIn_two (by k_asm) (by k_mem) (by kba_ints2) (by kba_ints2) (by kba_ints2) ?_))
  k_with "subscriptTail" => (k_here; (with_reducible show wpAny _ _ (subscriptTail _ (Expr.Slice _ _ none _) (Value.bytes _ _) (Value.ref _)) _ _ _); (with_reducible rename Fr _ _ _ _ => F'); (with_reducible rename News _ _ _ _ => N'); (refine slice_C (s := ⟨_, _, _, _, _⟩) F' N' (by kba_ints2) (by constructor) (by constructor) (by kba_size) (by intro i hi; simp at hi; try (subst hi; omega)) (by intro i hi; simp at hi; try (subst hi; omega)) (by first | exact cut_z3 | exact cut_z2 | exact cut_z | exact cut_mid3 (by omega) | exact cut_mid2 (by omega) | exact cut_lit3 | exact cut_lit2 | exact cut_lit3' | exact cut_lit2' | exact cut_two | exact cut_tail | exact cut_head') ?_); intro _ _ _ _ _ _ kbcK; (try simp only [Int.toNat_zero, Int.toNat_ofNat, List.drop_zero] at kbcK))
  k_with "ktr_room" => first | exact room9 (by assumption) rfl | exact Nat.lt_of_le_of_lt (Nat.le_add_right _ _) (by assumption)
  k_with "ktr_units" => exact units9 (by assumption) rfl
  k_with "getMethod bytes" => (k_here; first | refine meth_starts ?_ | refine meth_split ?_ | refine meth_join ?_)
  k_with "call builtin:bytes.startswith" => (k_here; first | refine call_starts_T (by kba_ints2) (by kba_ints2) (by assumption) ?_ | refine call_starts_F (by kba_ints2) (by kba_ints2) (by assumption) ?_ | refine call_starts_I (by kba_ints2) (by kba_ints2) ?_)
  k_with "CompEnd" => (refine LCg.CompEnd.intro (by assumption) (by assumption) _ (fun _ h => h) (by assumption) (by exact Or.inr ⟨_, by k_mem, rfl, _, rfl⟩) ?_)
  k_with "call type:bytes" => (k_here; (with_reducible show wpAny _ _ (call (Value.type "bytes") [Value.ref _]) _ _ _); (refine' KBa.make_K ?kbaF ?kbaN ?kbah ?kbal ?kbai ?kbar ?kban ?_; (case kbaF => k_asm); (case kbaN => k_asm); (case kbah => rfl); (case kbal => kba_isList); (case kbai => kba_listInts); (case kbar => (repeat' (first | exact List.forall_mem_nil _ | (refine List.forall_mem_cons.mpr ⟨⟨?_, ?_⟩, ?_⟩) | omega | (simp only [fd10, fm10]; omega)))); (case kban => kba_size)); intro _ _ _ F' N' kbaIn; (have kbaM := KBa.ints_make kbaIn))
  k_with "cell_enter" => (refine' code_defC ?k1 ?k2 ?k3 ?k4 ?k5 ?kA ?kF ?kK ?k6 ?k7 ?k8 ?k9 ?kB ?kD ?_ ?c2 ?c3 ?c4; (case kA => exact rfl); (case kF => exact rfl); (case kK => first | exact rfl | assumption); (case k1 => k_asm); (case k2 => k_asm); (case k3 => k_asm); (case k4 => k_asm); (case k5 => k_asm); (case k6 => k_is); (case k7 => k_is); (case k8 => ktr_room); (case k9 => first | exact BindsTo.of_eq rfl | exact binds_K (by k_in) rfl (by k_is) rfl rfl rfl); (case kB => exact rfl); (case kD => decide +kernel); (case c2 => exact rfl); (case c3 => exact rfl); (case c4 => exact rfl); k_whole; intro g' L' h' tk' cells' FG' F' N' Y' B' X' T' l1; (try k_lt l1); k_cells Y'; (try simp only [List.cons_append, List.nil_append] at N'); (try dsimp only); (try k_lift B'); (try k_fold))
  k_with "call builtin:bytes.join" => (k_here; refine call_join_I (by k_asm) (by k_mem) rfl rfl (by kba_ints2) (by kba_ints2) (by kba_ints2) (by kba_ints2) (by first | assumption | decide) (by first | assumption | decide) (by first | assumption | decide) (by first | assumption | decide) ?_; intro _ _ _ kbJ; (try simp only [List.append_nil] at kbJ))
  k_with "units_room" => exact room_deep (by omega)
  k_with "cell_enter" => (refine' code_def ?k1 ?k2 ?k3 ?k4 ?k5 ?kA ?kF ?kK ?k6 ?k7 ?k8 ?k9 ?kB ?_ ?c2 ?c3 ?c4 ?c5; (case kA => exact rfl); (case kF => exact rfl); (case kK => first | exact rfl | assumption); (case k1 => k_asm); (case k2 => k_asm); (case k3 => k_asm); (case k4 => k_asm); (case k5 => k_asm); (case k6 => k_is); (case k7 => k_is); (case k8 => ktr_room); (case k9 => exact binds_K (by k_in) rfl (by k_is) rfl rfl rfl); (case c5 => decide); (case kB => exact locs rfl); (case c2 => exact rfl); (case c3 => exact rfl); (case c4 => exact rfl); k_whole; intro g' L' h' FG' F' N' B' X' T'; (try dsimp only); (try k_fold))
  k_with "con" => (k_here; (with_reducible show wpAny _ _ (call (Value.ref 21) [Value.int _ _]) _ _ _); k_dflt (
    refine Con.useB (con_dec_oct _ _ _ (by first | assumption | omega | (simp; omega)) (by first | assumption | omega | (simp; omega)) _) (by k_asm) (by k_asm) (by k_asm) (by k_asm) (by k_asm) (by first | exact rfl | assumption) (by ktr_room) (by ktr_units) ?_
    (intro b9 t9 h' tk' hO9 F' N'; (try dsimp only); (try k_fold))))
  trivial
theorem decI_len (n : Int) : (decI n).length ≤ 100 := by
  unfold decI
  split
  · simp
  · split <;> simp
section
theorem own_decimals_1 : True := by
  k_with "eval ListComp" => (k_here; lcg_look; lcg_calm; k_dflt (refine LCg.ListComp_U (F₀ := by k_asm) (by rfl) (by decide) (by rfl) (by decide) (by rfl) ?_); k_dflt lcg_toSrc)
  k_with "CompSrc" => (k_here; k_dflt (refine LCg.CompSrc.ledger (by rfl) (by k_asm) (by k_asm) (by k_mem) (by first | size_fits | exact Nat.le_of_ble_eq_true rfl) ?_; intro g'; lcg_lit))
  trivial
set_option maxRecDepth 100000 in
set_option maxHeartbeats 8000000 in
theorem con_decimals (w : World) (l : Addr) (a9 b9 c9 : Int) (t1 t2 t3 : Tok) (kk : Nat) (h0 : 0 ≤ a9) (h1 : a9 ≤ 999) (h2 : 0 ≤ b9) (h3 : b9 ≤ 999) (h4 : 0 ≤ c9) (h5 : c9 ≤ 999) (news) :
   Con w 14 161 [.ref l] ((l, listOf #[.int a9 t1, .int b9 t2, .int c9 t3] kk) :: news) (BytesR (decI a9 ++ [59] ++ decI b9 ++ [59] ++ decI c9)) := by
  unfold Con
  intro p loose mean mg mb dp un gd cn cs a ccd cl outer A₀ base h₀ L m s Q E B F X N T hk hd hu hret
  obtain ⟨sh, sg, sd, st, so⟩ := s
  have hc1 := decI_len a9
  have hc2 := decI_len b9
  have hc3 := decI_len c9
  refine wpAny_call ?_
  k_dflt cell_enter
  k_steps
  all_goals exact hret _ [] _ _ (by assumption) (by first | assumption | exact cb_drop (by assumption) (by first | exact fun _ h => .tail _ (h) | exact fun _ h => .tail _ (.tail _ (h)) | exact fun _ h => .tail _ (.tail _ (.tail _ (h))) | exact fun _ h => .tail _ (.tail _ (.tail _ (.tail _ (h)))) | exact fun _ h => .tail _ (.tail _ (.tail _ (.tail _ (.tail _ (h))))) | exact fun _ h => .tail _ (.tail _ (.tail _ (.tail _ (.tail _ (.tail _ (h)))))) | exact fun _ h => .tail _ (.tail _ (.tail _ (.tail _ (.tail _ (.tail _ (.tail _ (h))))))) | exact fun _ h => .tail _ (.tail _ (.tail _ (.tail _ (.tail _ (.tail _ (.tail _ (.tail _ (h)))))))))) (BytesR.mk (by assumption))
end


-- is_on
theorem rows_is_on : True := by
  w_top off
  k_with_none
  k_with "kba_ints2" => first | kba_ints | (apply ints_lit; (simp only [List.map_cons, List.map_nil, UInt8.reduceToNat, Int.cast_ofNat_Int]); (try exact rfl))
  k_with "compareOp Eq bytes bytes" => (k_here; (with_reducible show wpAny _ _ (compareOp CmpOp.Eq (Value.bytes _ _) (Value.bytes _ _)) _ _ _); (first | refine eq_ints_T (by kba_ints2) (by kba_ints2) (by assumption) ?_ | refine eq_ints_F (by kba_ints2) (by kba_ints2) (by assumption) ?_ | refine eq_ints (by kba_ints2) (by kba_ints2) ?_))
  k_with "compareOp NotEq bytes bytes" => (k_here; (with_reducible show wpAny _ _ (compareOp CmpOp.NotEq (Value.bytes _ _) (Value.bytes _ _)) _ _ _); (refine ne_ints (by kba_ints2) (by kba_ints2) ?_))
  k_with "compareOp NotIn bytes ref" => (k_here; (with_reducible show wpAny _ _ (compareOp CmpOp.NotIn (Value.bytes _ _) (Value.ref _)) _ _ _); (refine notIn_two (by k_asm) (by k_mem) (by kba_ints2) (by kba_ints2) (by kba_ints2) ?_))
  k_with "subscriptTail" => (k_here; (with_reducible show wpAny _ _ (subscriptTail _ (Expr.Slice _ _ none _) (Value.bytes _ _) (Value.ref _)) _ _ _); (with_reducible rename Fr _ _ _ _ => F'); (with_reducible rename News _ _ _ _ => N'); (refine slice_C (s := ⟨_, _, _, _, _⟩) F' N' (by kba_ints2) (by constructor) (by constructor) (by kba_size) (by intro i hi; simp at hi; try (subst hi; omega)) (by intro i hi; simp at hi; try (subst hi; omega)) (by first | exact cut_z3 | exact cut_z2 | exact cut_z | exact cut_mid3 (by omega) | exact cut_mid2 (by omega) | exact cut_lit3 | exact cut_lit2 | exact cut_lit3' | exact cut_lit2' | exact cut_two | exact cut_tail | exact cut_head') ?_); intro _ _ _ _ _ _ kbcK; (try simp only [Int.toNat_zero, Int.toNat_ofNat, List.drop_zero] at kbcK))
  k_with "ktr_room" => first | exact room9 (by assumption) rfl | exact Nat.lt_of_le_of_lt (Nat.le_add_right _ _) (by assumption)
  k_with "ktr_units" => exact units9 (by assumption) rfl
  k_with "getMethod bytes" => (k_here; first | refine meth_starts ?_ | refine meth_split ?_ | refine meth_join ?_)
  k_with "call builtin:bytes.startswith" => (k_here; first | refine call_starts_T (by kba_ints2) (by kba_ints2) (by assumption) ?_ | refine call_starts_F (by kba_ints2) (by kba_ints2) (by assumption) ?_ | refine call_starts_I (by kba_ints2) (by kba_ints2) ?_)
  k_with "CompEnd" => (refine LCg.CompEnd.intro (by assumption) (by assumption) _ (fun _ h => h) (by assumption) (by exact Or.inr ⟨_, by k_mem, rfl, _, rfl⟩) ?_)
  k_with "call type:bytes" => (k_here; (with_reducible show wpAny _ _ (call (Value.type "bytes") [Value.ref _]) _ _ _); (refine' KBa.make_K ?kbaF ?kbaN ?kbah ?kbal ?kbai ?kbar ?kban ?_; (case kbaF => k_asm); (case kbaN => k_asm); (case kbah => rfl); (case kbal => kba_isList); (case kbai => kba_listInts); (case kbar => (repeat' (first | exact List.forall_mem_nil _ | (refine List.forall_mem_cons.mpr ⟨⟨?_, ?_⟩, ?_⟩) | omega | (simp only [fd10, fm10]; omega)))); (case kban => kba_size)); intro _ _ _ F' N' kbaIn; (have kbaM := KBa.ints_make kbaIn))
  k_with "cell_enter" => (refine' code_defC ?k1 ?k2 ?k3 ?k4 ?k5 ?kA ?kF ?kK ?k6 ?k7 ?k8 ?k9 ?kB ?kD ?_ ?c2 ?c3 ?c4; (case kA => exact rfl); (case kF => exact rfl); (case kK => first | exact rfl | assumption); (case k1 => k_asm); (case k2 => k_asm); (case k3 => k_asm); (case k4 => k_asm); (case k5 => k_asm); (case k6 => k_is); (case k7 => k_is); (case k8 => ktr_room); (case k9 => first | exact BindsTo.of_eq rfl | exact binds_K (by k_in) rfl (by k_is) rfl rfl rfl); (case kB => exact rfl); (case kD => decide +kernel); (case c2 => exact rfl); (case c3 => exact rfl); (case c4 => exact rfl); k_whole; intro g' L' h' tk' cells' FG' F' N' Y' B' X' T' l1; (try k_lt l1); k_cells Y'; (try simp only [List.cons_append, List.nil_append] at N'); (try dsimp only); (try k_lift B'); (try k_fold))
  k_with "call builtin:bytes.join" => (k_here; refine call_join_I (by k_asm) (by k_mem) rfl rfl (by kba_ints2) (by kba_ints2) (by kba_ints2) (by kba_ints2) (by first | assumption | decide) (by first | assumption | decide) (by first | assumption | decide) (by first | assumption | decide) ?_; intro _ _ _ kbJ; (try simp only [List.append_nil] at kbJ))
  k_with "units_room" => exact room_deep (by omega)
  k_with "cell_enter" => (refine' code_def ?k1 ?k2 ?k3 ?k4 ?k5 ?kA ?kF ?kK ?k6 ?k7 ?k8 ?k9 ?kB ?_ ?c2 ?c3 ?c4 ?c5; (case kA => exact rfl); (case kF => exact rfl); (case kK => first | exact rfl | assumption); (case k1 => k_asm); (case k2 => k_asm); (case k3 => k_asm); (case k4 => k_asm); (case k5 => k_asm); (case k6 => k_is); (case k7 => k_is); (case k8 => ktr_room); (case k9 => exact binds_K (by k_in) rfl (by k_is) rfl rfl rfl); (case c5 => decide); (case kB => exact locs rfl); (case c2 => exact rfl); (case c3 => exact rfl); (case c4 => exact rfl); k_whole; intro g' L' h' FG' F' N' B' X' T'; (try dsimp only); (try k_fold))
  trivial
theorem mem1 {l : List (Addr × Obj)} {p : Addr × Obj} (a : p ∈ l) : ∀ x ∈ [p], x ∈ l := List.forall_mem_cons.mpr ⟨a, List.forall_mem_nil _⟩
theorem mem3 {l : List (Addr × Obj)} {p q r : Addr × Obj} (a : p ∈ l) (b : q ∈ l) (c : r ∈ l) : ∀ x ∈ [p, q, r], x ∈ l := List.forall_mem_cons.mpr ⟨a, List.forall_mem_cons.mpr ⟨b, List.forall_mem_cons.mpr ⟨c, List.forall_mem_nil _⟩⟩⟩
theorem mem2 {l : List (Addr × Obj)} {p q : Addr × Obj} (a : p ∈ l) (b : q ∈ l) : ∀ x ∈ [p, q], x ∈ l := List.forall_mem_cons.mpr ⟨a, List.forall_mem_cons.mpr ⟨b, List.forall_mem_nil _⟩⟩
theorem mem4 {l : List (Addr × Obj)} {p q r s : Addr × Obj} (a : p ∈ l) (b : q ∈ l) (c : r ∈ l) (d : s ∈ l) : ∀ x ∈ [p, q, r, s], x ∈ l := List.forall_mem_cons.mpr ⟨a, mem3 b c d⟩
theorem mem5 {l : List (Addr × Obj)} {p q r s t : Addr × Obj} (a : p ∈ l) (b : q ∈ l) (c : r ∈ l) (d : s ∈ l) (e : t ∈ l) : ∀ x ∈ [p, q, r, s, t], x ∈ l := List.forall_mem_cons.mpr ⟨a, mem4 b c d e⟩
theorem Con.dup {w : World} {need : Nat} {f : Addr} {vs : List Value} {os news : List (Addr × Obj)} {R : Value → List (Addr × Obj) → Prop} (hs : ∀ p ∈ os, p ∈ news) (C : Con w need f vs (os ++ news) R) : Con w need f vs news R := by
  intro p loose mean mg mb dp un gd cn cs a ccd cl outer A₀ base h₀ L m s Q E B F X N T hk hd hu hret
  refine C p loose mean mg mb dp un gd cn cs a ccd cl outer A₀ base h₀ L m s Q E B F X (fun q hq => ?_) T hk hd hu fun r tl h' tk' F' N' hr => hret r tl h' tk' F' (fun q hq => ?_) hr
  · rcases List.mem_append.mp hq with h | h
    · exact N _ (hs _ h)
    · exact N _ h
  · rcases List.mem_append.mp hq with h | h
    · exact N' _ (List.mem_append_left _ h)
    · exact N' _ (List.mem_append_right _ (List.mem_append_right _ h))
set_option maxRecDepth 100000 in
set_option maxHeartbeats 8000000 in
theorem con_is_on (w : World) (mo md st kp : Addr) (k : Str) (v20 v21 t : Tok) (o : Obj) (kvs : List (Str × Value)) (r : Value) (lo : (st == sysModules) = false) (ho : o.IsDictOf (PySem.strKind P0 w) kvs) (hr : (valueAt kvs k).getD (.bool false) = r) (news) :
   Con w 4 59 [.ref mo, .str k t] ((mo, instObj 69 md) :: (md, dictOf [⟨PyData.keyHash w.params (Str.ofString "states"), .str (Str.ofString "states") v20, .ref st⟩, ⟨PyData.keyHash w.params (Str.ofString "kept"), .str (Str.ofString "kept") v21, .ref kp⟩] 2) :: (st, o) :: news) (ValR fun _ => r) := by
  unfold Con
  intro p loose mean mg mb dp un gd cn cs a ccd cl outer A₀ base h₀ L m s Q E B F X N T hk hd hu hret
  obtain ⟨sh, sg, sd, st', so⟩ := s
  refine wpAny_call ?_
  k_dflt cell_enter
  k_steps
  refine kdg_get2 (knd := PySem.strKind _ _) (by k_asm) (by k_mem) (by k_asm) (by k_asm) (strKind_is _ _ _ _) _ rfl ?_
  rw [hr]
  k_steps
  all_goals refine hret _ [] _ _ (by assumption) (by first | assumption | exact cb_drop (by assumption) (by first | exact fun _ h => .tail _ (h) | exact fun _ h => .tail _ (.tail _ (h)) | exact fun _ h => .tail _ (.tail _ (.tail _ (h))) | exact fun _ h => .tail _ (.tail _ (.tail _ (.tail _ (h)))) | exact fun _ h => .tail _ (.tail _ (.tail _ (.tail _ (.tail _ (h))))) | exact fun _ h => .tail _ (.tail _ (.tail _ (.tail _ (.tail _ (.tail _ (h)))))) | exact fun _ h => .tail _ (.tail _ (.tail _ (.tail _ (.tail _ (.tail _ (.tail _ (h))))))) | exact fun _ h => .tail _ (.tail _ (.tail _ (.tail _ (.tail _ (.tail _ (.tail _ (.tail _ (h)))))))))) (ValR.mk (t := 0) rfl)


-- mode
theorem rows_mode : True := by
  w_top off
  k_with_none
  k_with "kba_ints2" => first | kba_ints | (apply ints_lit; (simp only [List.map_cons, List.map_nil, UInt8.reduceToNat, Int.cast_ofNat_Int]); (try exact rfl))
  k_with "compareOp Eq bytes bytes" => (k_here; (with_reducible show wpAny _ _ (compareOp CmpOp.Eq (Value.bytes _ _) (Value.bytes _ _)) _ _ _); (first | refine eq_ints_T (by kba_ints2) (by kba_ints2) (by assumption) ?_ | refine eq_ints_F (by kba_ints2) (by kba_ints2) (by assumption) ?_ | refine eq_ints (by kba_ints2) (by kba_ints2) ?_))
  k_with "compareOp NotEq bytes bytes" => (k_here; (with_reducible show wpAny _ _ (compareOp CmpOp.NotEq (Value.bytes _ _) (Value.bytes _ _)) _ _ _); (refine ne_ints (by kba_ints2) (by kba_ints2) ?_))
  k_with "compareOp NotIn bytes ref" => (k_here; (with_reducible show wpAny _ _ (compareOp CmpOp.NotIn (Value.bytes _ _) (Value.ref _)) _ _ _); (refine notIn_two (by k_asm) (by k_mem) (by kba_ints2) (by kba_ints2) (by kba_ints2) ?_))
  k_with "subscriptTail" => (k_here; (with_reducible show wpAny _ _ (subscriptTail _ (Expr.Slice _ _ none _) (Value.bytes _ _) (Value.ref _)) _ _ _); (with_reducible rename Fr _ _ _ _ => F'); (with_reducible rename News _ _ _ _ => N'); (refine slice_C (s := ⟨_, _, _, _, _⟩) F' N' (by kba_ints2) (by constructor) (by constructor) (by kba_size) (by intro i hi; simp at hi; try (subst hi; omega)) (by intro i hi; simp at hi; try (subst hi; omega)) (by first | exact cut_z3 | exact cut_z2 | exact cut_z | exact cut_mid3 (by omega) | exact cut_mid2 (by omega) | exact cut_lit3 | exact cut_lit2 | exact cut_lit3' | exact cut_lit2' | exact cut_two | exact cut_tail | exact cut_head') ?_); intro _ _ _ _ _ _ kbcK; (try simp only [Int.toNat_zero, Int.toNat_ofNat, List.drop_zero] at kbcK))
  k_with "ktr_room" => first | exact room9 (by assumption) rfl | exact Nat.lt_of_le_of_lt (Nat.le_add_right _ _) (by assumption)
  k_with "ktr_units" => exact units9 (by assumption) rfl
  k_with "getMethod bytes" => (k_here; first | refine meth_starts ?_ | refine meth_split ?_ | refine meth_join ?_)
  k_with "call builtin:bytes.startswith" => (k_here; first | refine call_starts_T (by kba_ints2) (by kba_ints2) (by assumption) ?_ | refine call_starts_F (by kba_ints2) (by kba_ints2) (by assumption) ?_ | refine call_starts_I (by kba_ints2) (by kba_ints2) ?_)
  k_with "CompEnd" => (refine LCg.CompEnd.intro (by assumption) (by assumption) _ (fun _ h => h) (by assumption) (by exact Or.inr ⟨_, by k_mem, rfl, _, rfl⟩) ?_)
  k_with "call type:bytes" => (k_here; (with_reducible show wpAny _ _ (call (Value.type "bytes") [Value.ref _]) _ _ _); (refine' KBa.make_K ?kbaF ?kbaN ?kbah ?kbal ?kbai ?kbar ?kban ?_; (case kbaF => k_asm); (case kbaN => k_asm); (case kbah => rfl); (case kbal => kba_isList); (case kbai => kba_listInts); (case kbar => (repeat' (first | exact List.forall_mem_nil _ | (refine List.forall_mem_cons.mpr ⟨⟨?_, ?_⟩, ?_⟩) | omega | (simp only [fd10, fm10]; omega)))); (case kban => kba_size)); intro _ _ _ F' N' kbaIn; (have kbaM := KBa.ints_make kbaIn))
  k_with "cell_enter" => (refine' code_defC ?k1 ?k2 ?k3 ?k4 ?k5 ?kA ?kF ?kK ?k6 ?k7 ?k8 ?k9 ?kB ?kD ?_ ?c2 ?c3 ?c4; (case kA => exact rfl); (case kF => exact rfl); (case kK => first | exact rfl | assumption); (case k1 => k_asm); (case k2 => k_asm); (case k3 => k_asm); (case k4 => k_asm); (case k5 => k_asm); (case k6 => k_is); (case k7 => k_is); (case k8 => ktr_room); (case k9 => first | exact BindsTo.of_eq rfl | exact binds_K (by k_in) rfl (by k_is) rfl rfl rfl); (case kB => exact rfl); (case kD => decide +kernel); (case c2 => exact rfl); (case c3 => exact rfl); (case c4 => exact rfl); k_whole; intro g' L' h' tk' cells' FG' F' N' Y' B' X' T' l1; (try k_lt l1); k_cells Y'; (try simp only [List.cons_append, List.nil_append] at N'); (try dsimp only); (try k_lift B'); (try k_fold))
  k_with "call builtin:bytes.join" => (k_here; refine call_join_I (by k_asm) (by k_mem) rfl rfl (by kba_ints2) (by kba_ints2) (by kba_ints2) (by kba_ints2) (by first | assumption | decide) (by first | assumption | decide) (by first | assumption | decide) (by first | assumption | decide) ?_; intro _ _ _ kbJ; (try simp only [List.append_nil] at kbJ))
  k_with "units_room" => exact room_deep (by omega)
  k_with "cell_enter" => (refine' code_def ?k1 ?k2 ?k3 ?k4 ?k5 ?kA ?kF ?kK ?k6 ?k7 ?k8 ?k9 ?kB ?_ ?c2 ?c3 ?c4 ?c5; (case kA => exact rfl); (case kF => exact rfl); (case kK => first | exact rfl | assumption); (case k1 => k_asm); (case k2 => k_asm); (case k3 => k_asm); (case k4 => k_asm); (case k5 => k_asm); (case k6 => k_is); (case k7 => k_is); (case k8 => ktr_room); (case k9 => exact binds_K (by k_in) rfl (by k_is) rfl rfl rfl); (case c5 => decide); (case kB => exact locs rfl); (case c2 => exact rfl); (case c3 => exact rfl); (case c4 => exact rfl); k_whole; intro g' L' h' FG' F' N' B' X' T'; (try dsimp only); (try k_fold))
  k_with "con" => (k_here; (with_reducible show wpAny _ _ (call (Value.ref 59) [Value.ref _, Value.str _ _]) _ _ _); k_dflt (
    refine' Con.useV ?cC ?cB ?cF ?cX ?cN ?cT ?cK ?cD ?cU ?_
    (case cB => k_asm); (case cF => k_asm); (case cX => k_asm); (case cN => k_asm); (case cT => k_asm); (case cK => first | exact rfl | assumption | with_unfolding_all rfl)
    (case cC => (refine' Con.dup (os := [_, _, _]) (mem3 ?m1 ?m2 ?m3) (con_is_on _ _ _ _ _ _ _ _ _ _ _ _ ?s1 ?s2 ?s3 _); (case m1 => k_mem); (case m2 => k_mem); (case m3 => k_mem); (case s1 => assumption); (case s2 => assumption); (case s3 => assumption)))
    (case cD => ktr_room); (case cU => ktr_units)
    (intro t9 h' tk' F' N'; (try dsimp only); (try k_fold))))
  k_with "walk1" => ((first | with_reducible show wpAny _ _ (exec _ _) _ _ _ | with_reducible show wpAny _ _ (isTrue _ _ _) _ _ _); k_fold)
  trivial
theorem unrEndW_head {h₀ : Heap} {L I : Addr} {o : Obj} {rest : (Str → Option Value) → List (Addr × Obj) → Prop} {s₁ : Shared} {h' : Heap} {tk : Nat} {m' : Str → Option Value} {news' : List (Addr × Obj)} (F : Fr h₀ L h' m') (N : News h₀ L h' ((I, o) :: news'))
    (off : AllLt I news') (r : rest m' news') : UnrEndW h₀ L s₁ [(I, o)] rest { s₁ with heap := h', toks := tk } :=
  ⟨h', tk, m', news', rfl, F, N, fun p hp q hq e => by
    rw [List.mem_singleton.mp hq] at e
    have : ∀ (l : List (Addr × Obj)), AllLt I l → p ∈ l → p.1 < I := by
      intro l
      induction l with
      | nil => intro _ h; cases h
      | cons a r ih => intro h hm; rcases List.mem_cons.mp hm with rfl | hm; exact h.1; exact ih h.2 hm
    exact absurd (this _ off hp) (e ▸ Nat.lt_irrefl _), r⟩
theorem own_mode_1 : True := by
  k_with "UnrEndW" => (refine unrEndW_head (by assumption) (by assumption) (by assumption) ⟨by k_subL, ?_⟩)
  k_with "exec For Name Name" => (k_here; (rename Fr _ _ _ _ => lF'); (with_unfolding_all refine' For_turnsG lF' ?g ?_; (case g => exact rfl); k_whole))
  trivial
set_option maxRecDepth 100000 in
set_option maxHeartbeats 8000000 in
theorem con_mode (w : World) (mo md st kp : Addr) (v20 v21 : Tok) (o : Obj) (kvs : List (Str × Value)) (lo : (st == sysModules) = false) (ho : o.IsDictOf (PySem.strKind P0 w) kvs)
   (h1 : (valueAt kvs (Str.ofString "mouse_x10")).getD (.bool false) = .bool false) (h2 : (valueAt kvs (Str.ofString "mouse_click")).getD (.bool false) = .bool false) (h3 : (valueAt kvs (Str.ofString "mouse_drag")).getD (.bool false) = .bool false) (h4 : (valueAt kvs (Str.ofString "mouse_all")).getD (.bool false) = .bool true) (news) :
   Con w 8 80 [.ref mo] ((mo, instObj 69 md) :: (md, dictOf [⟨PyData.keyHash w.params (Str.ofString "states"), .str (Str.ofString "states") v20, .ref st⟩, ⟨PyData.keyHash w.params (Str.ofString "kept"), .str (Str.ofString "kept") v21, .ref kp⟩] 2) :: (st, o) :: news) (ValR fun t => .str (Str.ofString "mouse_all") t) := by
  unfold Con
  intro p loose mean mg mb dp un gd cn cs a ccd cl outer A₀ base h₀ L m s Q E B F X N T hk hd hu hret
  obtain ⟨sh, sg, sd, st', so⟩ := s
  refine wpAny_call ?_
  k_dflt cell_enter
  k_steps
  all_goals refine hret _ [] _ _ (by assumption) (by first | assumption | exact cb_drop (by assumption) (by first | exact fun _ h => .tail _ (h) | exact fun _ h => .tail _ (.tail _ (h)) | exact fun _ h => .tail _ (.tail _ (.tail _ (h))) | exact fun _ h => .tail _ (.tail _ (.tail _ (.tail _ (h)))) | exact fun _ h => .tail _ (.tail _ (.tail _ (.tail _ (.tail _ (h))))) | exact fun _ h => .tail _ (.tail _ (.tail _ (.tail _ (.tail _ (.tail _ (h)))))) | exact fun _ h => .tail _ (.tail _ (.tail _ (.tail _ (.tail _ (.tail _ (.tail _ (h))))))) | exact fun _ h => .tail _ (.tail _ (.tail _ (.tail _ (.tail _ (.tail _ (.tail _ (.tail _ (h)))))))))) (by first | exact ValR.mk (t := 0) rfl | exact ValR.mk rfl)
-- the ways by number: 0 none, 1 utf8, 2 sgr, 3 urxvt
noncomputable def wayV : Nat → Tok → Value
  | 0, _ => .none
  | 1, t => .str (Str.ofString "mouse_utf8") t
  | 2, t => .str (Str.ofString "mouse_sgr") t
  | _, t => .str (Str.ofString "mouse_urxvt") t
theorem wayV0 (t : Tok) : wayV 0 t = .none := rfl
theorem wayV1 (t : Tok) : wayV 1 t = .str (Str.ofString "mouse_utf8") t := rfl
theorem wayV2 (t : Tok) : wayV 2 t = .str (Str.ofString "mouse_sgr") t := rfl
theorem wayV3 (t : Tok) : wayV 3 t = .str (Str.ofString "mouse_urxvt") t := rfl
set_option maxRecDepth 100000 in
set_option maxHeartbeats 8000000 in
theorem con_enc (w : World) (mo md st kp : Addr) (v20 v21 : Tok) (o : Obj) (kvs : List (Str × Value)) (lo : (st == sysModules) = false) (ho : o.IsDictOf (PySem.strKind P0 w) kvs) (y : Nat) (hy : y < 4)
   (h1 : (valueAt kvs (Str.ofString "mouse_utf8")).getD (.bool false) = .bool (y == 1)) (h2 : (valueAt kvs (Str.ofString "mouse_sgr")).getD (.bool false) = .bool (y == 2)) (h3 : (valueAt kvs (Str.ofString "mouse_urxvt")).getD (.bool false) = .bool (y == 3)) (h4 : (valueAt kvs (Str.ofString "mouse_pixels")).getD (.bool false) = .bool false) (news) :
   Con w 8 87 [.ref mo] ((mo, instObj 69 md) :: (md, dictOf [⟨PyData.keyHash w.params (Str.ofString "states"), .str (Str.ofString "states") v20, .ref st⟩, ⟨PyData.keyHash w.params (Str.ofString "kept"), .str (Str.ofString "kept") v21, .ref kp⟩] 2) :: (st, o) :: news) (ValR fun t => wayV y t) := by
  have hy' : y = 0 ∨ y = 1 ∨ y = 2 ∨ y = 3 := by omega
  rcases hy' with rfl | rfl | rfl | rfl
  all_goals simp only [Nat.reduceBEq, Nat.reduceEqDiff, decide_true, decide_false, beq_self_eq_true] at h1 h2 h3 h4
  all_goals unfold Con
  all_goals intro p loose mean mg mb dp un gd cn cs a ccd cl outer A₀ base h₀ L m s Q E B F X N T hk hd hu hret
  all_goals obtain ⟨sh, sg, sd, st', so⟩ := s
  all_goals refine wpAny_call ?_
  all_goals k_dflt cell_enter
  all_goals k_steps
  all_goals refine hret _ [] _ _ (by assumption) (by first | assumption | exact cb_drop (by assumption) (by first | exact fun _ h => .tail _ (h) | exact fun _ h => .tail _ (.tail _ (h)) | exact fun _ h => .tail _ (.tail _ (.tail _ (h))) | exact fun _ h => .tail _ (.tail _ (.tail _ (.tail _ (h)))) | exact fun _ h => .tail _ (.tail _ (.tail _ (.tail _ (.tail _ (h))))) | exact fun _ h => .tail _ (.tail _ (.tail _ (.tail _ (.tail _ (.tail _ (h)))))) | exact fun _ h => .tail _ (.tail _ (.tail _ (.tail _ (.tail _ (.tail _ (.tail _ (h))))))) | exact fun _ h => .tail _ (.tail _ (.tail _ (.tail _ (.tail _ (.tail _ (.tail _ (.tail _ (h)))))))))) (by first | exact ValR.mk (t := 0) rfl | exact ValR.mk rfl)
-- the states of a Modes object: all mouse told, the way y
noncomputable def WayOk (w : World) (y : Nat) (st : Addr) (o : Obj) : Prop :=
  (st == sysModules) = false ∧ y < 4 ∧ ∃ kvs : List (Str × Value), o.IsDictOf (PySem.strKind P0 w) kvs ∧ (valueAt kvs (Str.ofString "mouse_x10")).getD (.bool false) = .bool false ∧ (valueAt kvs (Str.ofString "mouse_click")).getD (.bool false) = .bool false ∧ (valueAt kvs (Str.ofString "mouse_drag")).getD (.bool false) = .bool false ∧ (valueAt kvs (Str.ofString "mouse_all")).getD (.bool false) = .bool true ∧
    (valueAt kvs (Str.ofString "mouse_utf8")).getD (.bool false) = .bool (y == 1) ∧ (valueAt kvs (Str.ofString "mouse_sgr")).getD (.bool false) = .bool (y == 2) ∧ (valueAt kvs (Str.ofString "mouse_urxvt")).getD (.bool false) = .bool (y == 3) ∧ (valueAt kvs (Str.ofString "mouse_pixels")).getD (.bool false) = .bool false
theorem con_modeW (w : World) (mo md st kp : Addr) (v20 v21 : Tok) (o : Obj) (y : Nat) (hw : WayOk w y st o) (news) : Con w 8 80 [.ref mo] ((mo, instObj 69 md) :: (md, dictOf [⟨PyData.keyHash w.params (Str.ofString "states"), .str (Str.ofString "states") v20, .ref st⟩, ⟨PyData.keyHash w.params (Str.ofString "kept"), .str (Str.ofString "kept") v21, .ref kp⟩] 2) :: (st, o) :: news) (ValR fun t => .str (Str.ofString "mouse_all") t) := by
  obtain ⟨lo, hy, kvs, ho, h1, h2, h3, h4, h5, h6, h7, h8⟩ := hw
  exact con_mode w mo md st kp v20 v21 o kvs lo ho h1 h2 h3 h4 news
theorem con_encW (w : World) (mo md st kp : Addr) (v20 v21 : Tok) (o : Obj) (y : Nat) (hw : WayOk w y st o) (news) : Con w 8 87 [.ref mo] ((mo, instObj 69 md) :: (md, dictOf [⟨PyData.keyHash w.params (Str.ofString "states"), .str (Str.ofString "states") v20, .ref st⟩, ⟨PyData.keyHash w.params (Str.ofString "kept"), .str (Str.ofString "kept") v21, .ref kp⟩] 2) :: (st, o) :: news) (ValR fun t => wayV y t) := by
  obtain ⟨lo, hy, kvs, ho, h1, h2, h3, h4, h5, h6, h7, h8⟩ := hw
  exact con_enc w mo md st kp v20 v21 o kvs lo ho y hy h5 h6 h7 h8 news


-- octets
theorem rows_octets : True := by
  w_top off
  k_with_none
  k_with "kba_ints2" => first | kba_ints | (apply ints_lit; (simp only [List.map_cons, List.map_nil, UInt8.reduceToNat, Int.cast_ofNat_Int]); (try exact rfl))
  k_with "compareOp Eq bytes bytes" => (k_here; (with_reducible show wpAny _ _ (compareOp CmpOp.Eq (Value.bytes _ _) (Value.bytes _ _)) _ _ _); (first | refine eq_ints_T (by kba_ints2) (by kba_ints2) (by assumption) ?_ | refine eq_ints_F (by kba_ints2) (by kba_ints2) (by assumption) ?_ | refine eq_ints (by kba_ints2) (by kba_ints2) ?_))
  k_with "compareOp NotEq bytes bytes" => (k_here; (with_reducible show wpAny _ _ (compareOp CmpOp.NotEq (Value.bytes _ _) (Value.bytes _ _)) _ _ _); (refine ne_ints (by kba_ints2) (by kba_ints2) ?_))
  k_with "compareOp NotIn bytes ref" => (k_here; (with_reducible show wpAny _ _ (compareOp CmpOp.NotIn (Value.bytes _ _) (Value.ref _)) _ _ _); (refine notIn_two (by k_asm) (by k_mem) (by kba_ints2) (by kba_ints2) (by kba_ints2) ?_))
  k_with "subscriptTail" => (k_here; (with_reducible show wpAny _ _ (subscriptTail _ (Expr.Slice _ _ none _) (Value.bytes _ _) (Value.ref _)) _ _ _); (with_reducible rename Fr _ _ _ _ => F'); (with_reducible rename News _ _ _ _ => N'); (refine slice_C (s := ⟨_, _, _, _, _⟩) F' N' (by kba_ints2) (by constructor) (by constructor) (by kba_size) (by intro i hi; simp at hi; try (subst hi; omega)) (by intro i hi; simp at hi; try (subst hi; omega)) (by first | exact cut_z3 | exact cut_z2 | exact cut_z | exact cut_mid3 (by omega) | exact cut_mid2 (by omega) | exact cut_lit3 | exact cut_lit2 | exact cut_lit3' | exact cut_lit2' | exact cut_two | exact cut_tail | exact cut_head') ?_); intro _ _ _ _ _ _ kbcK; (try simp only [Int.toNat_zero, Int.toNat_ofNat, List.drop_zero] at kbcK))
  k_with "ktr_room" => first | exact room9 (by assumption) rfl | exact Nat.lt_of_le_of_lt (Nat.le_add_right _ _) (by assumption)
  k_with "ktr_units" => exact units9 (by assumption) rfl
  k_with "getMethod bytes" => (k_here; first | refine meth_starts ?_ | refine meth_split ?_ | refine meth_join ?_)
  k_with "call builtin:bytes.startswith" => (k_here; first | refine call_starts_T (by kba_ints2) (by kba_ints2) (by assumption) ?_ | refine call_starts_F (by kba_ints2) (by kba_ints2) (by assumption) ?_ | refine call_starts_I (by kba_ints2) (by kba_ints2) ?_)
  k_with "CompEnd" => (refine LCg.CompEnd.intro (by assumption) (by assumption) _ (fun _ h => h) (by assumption) (by exact Or.inr ⟨_, by k_mem, rfl, _, rfl⟩) ?_)
  k_with "call type:bytes" => (k_here; (with_reducible show wpAny _ _ (call (Value.type "bytes") [Value.ref _]) _ _ _); (refine' KBa.make_K ?kbaF ?kbaN ?kbah ?kbal ?kbai ?kbar ?kban ?_; (case kbaF => k_asm); (case kbaN => k_asm); (case kbah => rfl); (case kbal => kba_isList); (case kbai => kba_listInts); (case kbar => (repeat' (first | exact List.forall_mem_nil _ | (refine List.forall_mem_cons.mpr ⟨⟨?_, ?_⟩, ?_⟩) | omega | (simp only [fd10, fm10]; omega)))); (case kban => kba_size)); intro _ _ _ F' N' kbaIn; (have kbaM := KBa.ints_make kbaIn))
  k_with "cell_enter" => (refine' code_defC ?k1 ?k2 ?k3 ?k4 ?k5 ?kA ?kF ?kK ?k6 ?k7 ?k8 ?k9 ?kB ?kD ?_ ?c2 ?c3 ?c4; (case kA => exact rfl); (case kF => exact rfl); (case kK => first | exact rfl | assumption); (case k1 => k_asm); (case k2 => k_asm); (case k3 => k_asm); (case k4 => k_asm); (case k5 => k_asm); (case k6 => k_is); (case k7 => k_is); (case k8 => ktr_room); (case k9 => first | exact BindsTo.of_eq rfl | exact binds_K (by k_in) rfl (by k_is) rfl rfl rfl); (case kB => exact rfl); (case kD => decide +kernel); (case c2 => exact rfl); (case c3 => exact rfl); (case c4 => exact rfl); k_whole; intro g' L' h' tk' cells' FG' F' N' Y' B' X' T' l1; (try k_lt l1); k_cells Y'; (try simp only [List.cons_append, List.nil_append] at N'); (try dsimp only); (try k_lift B'); (try k_fold))
  k_with "call builtin:bytes.join" => (k_here; refine call_join_I (by k_asm) (by k_mem) rfl rfl (by kba_ints2) (by kba_ints2) (by kba_ints2) (by kba_ints2) (by first | assumption | decide) (by first | assumption | decide) (by first | assumption | decide) (by first | assumption | decide) ?_; intro _ _ _ kbJ; (try simp only [List.append_nil] at kbJ))
  k_with "units_room" => exact room_deep (by omega)
  k_with "cell_enter" => (refine' code_def ?k1 ?k2 ?k3 ?k4 ?k5 ?kA ?kF ?kK ?k6 ?k7 ?k8 ?k9 ?kB ?_ ?c2 ?c3 ?c4 ?c5; (case kA => exact rfl); (case kF => exact rfl); (case kK => first | exact rfl | assumption); (case k1 => k_asm); (case k2 => k_asm); (case k3 => k_asm); (case k4 => k_asm); (case k5 => k_asm); (case k6 => k_is); (case k7 => k_is); (case k8 => ktr_room); (case k9 => exact binds_K (by k_in) rfl (by k_is) rfl rfl rfl); (case c5 => decide); (case kB => exact locs rfl); (case c2 => exact rfl); (case c3 => exact rfl); (case c4 => exact rfl); k_whole; intro g' L' h' FG' F' N' B' X' T'; (try dsimp only); (try k_fold))
  k_with "con" => (k_here; (with_reducible show wpAny _ _ (call (Value.ref 59) [Value.ref _, Value.str _ _]) _ _ _); k_dflt (
    refine' Con.useV ?cC ?cB ?cF ?cX ?cN ?cT ?cK ?cD ?cU ?_
    (case cB => k_asm); (case cF => k_asm); (case cX => k_asm); (case cN => k_asm); (case cT => k_asm); (case cK => first | exact rfl | assumption | with_unfolding_all rfl)
    (case cC => (refine' Con.dup (os := [_, _, _]) (mem3 ?m1 ?m2 ?m3) (con_is_on _ _ _ _ _ _ _ _ _ _ _ _ ?s1 ?s2 ?s3 _); (case m1 => k_mem); (case m2 => k_mem); (case m3 => k_mem); (case s1 => assumption); (case s2 => assumption); (case s3 => assumption)))
    (case cD => ktr_room); (case cU => ktr_units)
    (intro t9 h' tk' F' N'; (try dsimp only); (try k_fold))))
  k_with "con" => (k_here; (with_reducible show wpAny _ _ (call (Value.ref 80) [Value.ref _]) _ _ _); k_dflt (
    refine' Con.useV ?cC ?cB ?cF ?cX ?cN ?cT ?cK ?cD ?cU ?_
    (case cB => k_asm); (case cF => k_asm); (case cX => k_asm); (case cN => k_asm); (case cT => k_asm); (case cK => first | exact rfl | assumption | with_unfolding_all rfl)
    (case cC => (refine' Con.dup (os := [_, _, _]) (mem3 ?m1 ?m2 ?m3) (con_modeW _ _ _ _ _ _ _ _ _ ?s1 _); (case m1 => k_mem); (case m2 => k_mem); (case m3 => k_mem); (case s1 => assumption)))
    (case cD => ktr_room); (case cU => ktr_units)
    (intro t9 h' tk' F' N'; (try dsimp only); (try k_fold))))
  k_with "con" => (k_here; (with_reducible show wpAny _ _ (call (Value.ref 87) [Value.ref _]) _ _ _); k_dflt (
    refine' Con.useV ?cC ?cB ?cF ?cX ?cN ?cT ?cK ?cD ?cU ?_
    (case cB => k_asm); (case cF => k_asm); (case cX => k_asm); (case cN => k_asm); (case cT => k_asm); (case cK => first | exact rfl | assumption | with_unfolding_all rfl)
    (case cC => (refine' Con.dup (os := [_, _, _]) (mem3 ?m1 ?m2 ?m3) (con_encW _ _ _ _ _ _ _ _ _ ?s1 _); (case m1 => k_mem); (case m2 => k_mem); (case m3 => k_mem); (case s1 => assumption)))
    (case cD => ktr_room); (case cU => ktr_units)
    (intro t9 h' tk' F' N'; (try dsimp only [wayV0, wayV1, wayV2, wayV3]); (try k_fold))))
  k_with "con" => (k_here; (with_reducible show wpAny _ _ (call (Value.ref 123) [Value.int _ _]) _ _ _); k_dflt (
    refine Con.useV (con_is_wheel _ _ _ _) (by k_asm) (by k_asm) (by k_asm) (by k_asm) (by k_asm) (by first | exact rfl | assumption) (by ktr_room) (by ktr_units) ?_
    (intro t9 h' tk' F' N'; (try dsimp only); (try k_fold))))
  k_with "con" => (k_here; (with_reducible show wpAny _ _ (call (Value.ref 144) [Value.ref _, Value.str _ _]) _ _ _); k_dflt (
    refine' Con.useV ?cC ?cB ?cF ?cX ?cN ?cT ?cK ?cD ?cU ?_
    (case cB => k_asm); (case cF => k_asm); (case cX => k_asm); (case cN => k_asm); (case cT => k_asm); (case cK => first | exact rfl | assumption | with_unfolding_all rfl)
    (case cC => (refine' Con.dup (os := [_, _]) (mem2 ?m1 ?m2) (con_told _ _ _ _ _ _ _ _ _ _ _ _ _ _ _ _ _ _  _ ?s1 _); (case m1 => k_mem); (case m2 => k_mem); (case s1 => assumption)))
    (case cD => ktr_room); (case cU => ktr_units)
    (intro t9 h' tk' F' N'; (try dsimp only); (try k_fold))))
  k_with "con" => (k_here; (with_reducible show wpAny _ _ (call (Value.ref 21) [Value.int _ _]) _ _ _); k_dflt (
    refine Con.useB (con_dec_oct _ _ _ (by first | assumption | omega | (simp; omega)) (by first | assumption | omega | (simp; omega)) _) (by k_asm) (by k_asm) (by k_asm) (by k_asm) (by k_asm) (by first | exact rfl | assumption) (by ktr_room) (by ktr_units) ?_
    (intro b9 t9 h' tk' hO9 F' N'; (try dsimp only); (try k_fold))))
  k_with "con" => (k_here; (with_reducible show wpAny _ _ (call (Value.ref 151) [Value.int _ _]) _ _ _); k_dflt (
    refine Con.useB (con_code_oct _ _ _ (by first | assumption | omega | (simp; omega)) (by first | assumption | omega | (simp; omega)) _) (by k_asm) (by k_asm) (by k_asm) (by k_asm) (by k_asm) (by first | exact rfl | assumption) (by ktr_room) (by ktr_units) ?_
    (intro b9 t9 h' tk' hO9 F' N'; (try dsimp only); (try k_fold))))
  k_with "con" => (k_here; (with_reducible show wpAny _ _ (call (Value.ref 216) [Value.bytes _ _]) _ _ _); k_dflt (
    refine Con.useV (con_are_dec _ _ _ _ (by kba_ints2) (by first | assumption | omega | (simp; omega)) _) (by k_asm) (by k_asm) (by k_asm) (by k_asm) (by k_asm) (by first | exact rfl | assumption) (by ktr_room) (by ktr_units) ?_
    (intro t9 h' tk' F' N'; (try dsimp only); (try k_fold))))
  k_with "con" => (k_here; (with_reducible show wpAny _ _ (call (Value.ref 156) [Value.ref _, Value.int _ _, Value.bool false]) _ _ _); k_dflt (
    refine' Con.useB ?cC ?cB ?cF ?cX ?cN ?cT ?cK ?cD ?cU ?_
    (case cB => k_asm); (case cF => k_asm); (case cX => k_asm); (case cN => k_asm); (case cT => k_asm); (case cK => first | exact rfl | assumption | with_unfolding_all rfl)
    (case cC => (refine' Con.dup (os := [_]) (mem1 ?m1) (con_plain_oct _ _ _ _ _ _ _ _ _ _ ?s1 ?s2 ?s3 ?s4 ?s5 ?s6 _); (case m1 => k_mem); (case s1 => first | assumption | omega); (case s2 => first | assumption | omega); (case s3 => first | assumption | omega); (case s4 => first | assumption | omega); (case s5 => first | assumption | omega); (case s6 => first | assumption | omega)))
    (case cD => ktr_room); (case cU => ktr_units)
    (intro b9 t9 h' tk' hO9 F' N'; (try dsimp only); (try k_fold))))
  k_with "con" => (k_here; (with_reducible show wpAny _ _ (call (Value.ref 156) [Value.ref _, Value.int _ _, Value.bool true]) _ _ _); k_dflt (
    refine' Con.useB ?cC ?cB ?cF ?cX ?cN ?cT ?cK ?cD ?cU ?_
    (case cB => k_asm); (case cF => k_asm); (case cX => k_asm); (case cN => k_asm); (case cT => k_asm); (case cK => first | exact rfl | assumption | with_unfolding_all rfl)
    (case cC => (refine' Con.dup (os := [_]) (mem1 ?m1) (con_plain_utf _ _ _ _ _ _ _ _ _ _ ?s1 ?s2 ?s3 ?s4 ?s5 ?s6 _); (case m1 => k_mem); (case s1 => first | assumption | omega); (case s2 => first | assumption | omega); (case s3 => first | assumption | omega); (case s4 => first | assumption | omega); (case s5 => first | assumption | omega); (case s6 => first | assumption | omega)))
    (case cD => ktr_room); (case cU => ktr_units)
    (intro b9 t9 h' tk' hO9 F' N'; (try dsimp only); (try k_fold))))
  k_with "con" => (k_here; (with_reducible show wpAny _ _ (call (Value.ref 161) [Value.ref _]) _ _ _); k_dflt (
    refine' Con.useB ?cC ?cB ?cF ?cX ?cN ?cT ?cK ?cD ?cU ?_
    (case cB => k_asm); (case cF => k_asm); (case cX => k_asm); (case cN => k_asm); (case cT => k_asm); (case cK => first | exact rfl | assumption | with_unfolding_all rfl)
    (case cC => (refine' Con.dup (os := [_]) (mem1 ?m1) (con_decimals _ _ _ _ _ _ _ _ _ ?s1 ?s2 ?s3 ?s4 ?s5 ?s6 _); (case m1 => k_mem); (case s1 => first | assumption | omega); (case s2 => first | assumption | omega); (case s3 => first | assumption | omega); (case s4 => first | assumption | omega); (case s5 => first | assumption | omega); (case s6 => first | assumption | omega)))
    (case cD => ktr_room); (case cU => ktr_units)
    (intro b9 t9 h' tk' hO9 F' N'; (try dsimp only); (try k_fold))))
  k_with "con" => (k_here; (with_reducible show wpAny _ _ (call (Value.ref 130) [Value.ref _, Value.bool _]) _ _ _); k_dflt (
    refine' Con.useV ?cC ?cB ?cF ?cX ?cN ?cT ?cK ?cD ?cU ?_
    (case cB => k_asm); (case cF => k_asm); (case cX => k_asm); (case cN => k_asm); (case cT => k_asm); (case cK => first | exact rfl | assumption | with_unfolding_all rfl)
    (case cC => (refine' Con.dup (os := [_, _]) (mem2 ?m1 ?m2) (con_number _ _ _ _ _ _ _ _ _ _ _ _ _ _ _ _ _ _  0 _ ?s1 ?s2 ?s3 ?s4 ?s5 _); (case m1 => k_mem); (case m2 => k_mem); (case s1 => first | assumption | omega); (case s2 => first | assumption | omega); (case s3 => first | assumption | omega); (case s4 => first | assumption | omega); (case s5 => first | assumption | omega)))
    (case cD => ktr_room); (case cU => ktr_units)
    (intro t9 h' tk' F' N'; (try dsimp only); (try k_fold))))
  k_with "walk1" => ((first | with_reducible show wpAny _ _ (exec _ _) _ _ _ | with_reducible show wpAny _ _ (isTrue _ _ _) _ _ _); k_fold)
  trivial
theorem bit7_bd {md : Int} (h0 : 0 ≤ md) (h1 : md ≤ 7) : bitAnd md 7 = md := by
  have h := (by decide +kernel : ∀ m : Fin 8, bitAnd (m.val : Int) 7 = (m.val : Int)) ⟨md.toNat, by omega⟩
  dsimp only at h
  rwa [Int.toNat_of_nonneg h0] at h
theorem mnum_bd {k : Str} {bt md : Int} {nr : Bool} (h0 : 0 ≤ bt) (h1 : bt ≤ 11) (h2 : 0 ≤ md) (h3 : md ≤ 7) : 0 ≤ mnum k bt md nr ∧ mnum k bt md nr ≤ 191 := by
  unfold mnum
  have := nbase_bd (k := k) (nr := nr) h0 h1
  rw [bit7_bd h2 h3]
  split <;> omega
theorem rel109 {k : Str} (h : (k == Str.ofString "release") = true) : (if k = Str.ofString "release" then (109 : Int) else 77) = 109 := if_pos (eq_of_beq h)
theorem rel77 {k : Str} (h : (k == Str.ofString "release") = false) : (if k = Str.ofString "release" then (109 : Int) else 77) = 77 := if_neg fun e => by rw [e, beq_self_eq_true] at h; cases h
set_option maxRecDepth 100000 in
set_option maxHeartbeats 8000000 in
theorem con_oct0 (w : World) (x d mo me st kp : Addr) (k : Str) (bt r c md : Int) (u0 u1 u2 u3 u4 u5 u6 u7 u8 u9 v20 v21 : Tok) (o : Obj) (hw : WayOk w 0 st o) (ht : Told k bt) (h0 : 0 ≤ bt) (h1 : bt ≤ 11) (h2 : 0 ≤ md) (h3 : md ≤ 7) (hk3 : k = Str.ofString "press" ∨ k = Str.ofString "release" ∨ k = Str.ofString "move") (hr0 : 0 ≤ r) (hr1 : r ≤ 199) (hc0 : 0 ≤ c) (hc1 : c ≤ 222) (news) :
   Con w 24 169 [.ref x, .ref mo] ((x, instObj 105 d) :: (d, dictOf [⟨PyData.keyHash w.params (Str.ofString "kind"), .str (Str.ofString "kind") u0, .str k u1⟩, ⟨PyData.keyHash w.params (Str.ofString "button"), .str (Str.ofString "button") u2, .int bt u3⟩, ⟨PyData.keyHash w.params (Str.ofString "row"), .str (Str.ofString "row") u4, .int r u5⟩, ⟨PyData.keyHash w.params (Str.ofString "column"), .str (Str.ofString "column") u6, .int c u7⟩, ⟨PyData.keyHash w.params (Str.ofString "modifiers"), .str (Str.ofString "modifiers") u8, .int md u9⟩] 5) :: (mo, instObj 69 me) :: (me, dictOf [⟨PyData.keyHash w.params (Str.ofString "states"), .str (Str.ofString "states") v20, .ref st⟩, ⟨PyData.keyHash w.params (Str.ofString "kept"), .str (Str.ofString "kept") v21, .ref kp⟩] 2) :: (st, o) :: news) (BytesR [27, 91, 77, mnum k bt md false + 32, c + 1 + 32, r + 1 + 32]) := by
  unfold Con
  intro p loose mean mg mb dp un gd cn cs a ccd cl outer A₀ base h₀ L m s Q E B F X N T hk hd hu hret
  obtain ⟨sh, sg, sd, st', so⟩ := s
  have hr0' : ¬ r < 0 := by omega
  have hc0' : ¬ c < 0 := by omega
  have hm1 := mnum_bd (k := k) (nr := false) h0 h1 h2 h3
  have hm2 := mnum_bd (k := k) (nr := true) h0 h1 h2 h3
  obtain ⟨hm0, hm1⟩ := hm1
  obtain ⟨hm2, hm3⟩ := hm2
  refine wpAny_call ?_
  k_dflt cell_enter
  k_steps
  all_goals exact hret _ [] _ _ (by assumption) (by first | assumption | exact cb_drop (by assumption) (by first | exact fun _ h => .tail _ (h) | exact fun _ h => .tail _ (.tail _ (h)) | exact fun _ h => .tail _ (.tail _ (.tail _ (h))) | exact fun _ h => .tail _ (.tail _ (.tail _ (.tail _ (h)))) | exact fun _ h => .tail _ (.tail _ (.tail _ (.tail _ (.tail _ (h))))) | exact fun _ h => .tail _ (.tail _ (.tail _ (.tail _ (.tail _ (.tail _ (h)))))) | exact fun _ h => .tail _ (.tail _ (.tail _ (.tail _ (.tail _ (.tail _ (.tail _ (h))))))) | exact fun _ h => .tail _ (.tail _ (.tail _ (.tail _ (.tail _ (.tail _ (.tail _ (.tail _ (h)))))))))) (BytesR.mk (by assumption))
set_option maxRecDepth 100000 in
set_option maxHeartbeats 8000000 in
theorem con_oct1 (w : World) (x d mo me st kp : Addr) (k : Str) (bt r c md : Int) (u0 u1 u2 u3 u4 u5 u6 u7 u8 u9 v20 v21 : Tok) (o : Obj) (hw : WayOk w 1 st o) (ht : Told k bt) (h0 : 0 ≤ bt) (h1 : bt ≤ 11) (h2 : 0 ≤ md) (h3 : md ≤ 7) (hk3 : k = Str.ofString "press" ∨ k = Str.ofString "release" ∨ k = Str.ofString "move") (hr0 : 0 ≤ r) (hr1 : r ≤ 199) (hc0 : 0 ≤ c) (hc1 : c ≤ 222) (news) :
   Con w 24 169 [.ref x, .ref mo] ((x, instObj 105 d) :: (d, dictOf [⟨PyData.keyHash w.params (Str.ofString "kind"), .str (Str.ofString "kind") u0, .str k u1⟩, ⟨PyData.keyHash w.params (Str.ofString "button"), .str (Str.ofString "button") u2, .int bt u3⟩, ⟨PyData.keyHash w.params (Str.ofString "row"), .str (Str.ofString "row") u4, .int r u5⟩, ⟨PyData.keyHash w.params (Str.ofString "column"), .str (Str.ofString "column") u6, .int c u7⟩, ⟨PyData.keyHash w.params (Str.ofString "modifiers"), .str (Str.ofString "modifiers") u8, .int md u9⟩] 5) :: (mo, instObj 69 me) :: (me, dictOf [⟨PyData.keyHash w.params (Str.ofString "states"), .str (Str.ofString "states") v20, .ref st⟩, ⟨PyData.keyHash w.params (Str.ofString "kept"), .str (Str.ofString "kept") v21, .ref kp⟩] 2) :: (st, o) :: news) (BytesR ([27, 91, 77] ++ (codeI (mnum k bt md false + 32) ++ codeI (c + 1 + 32) ++ codeI (r + 1 + 32)))) := by
  unfold Con
  intro p loose mean mg mb dp un gd cn cs a ccd cl outer A₀ base h₀ L m s Q E B F X N T hk hd hu hret
  obtain ⟨sh, sg, sd, st', so⟩ := s
  have hr0' : ¬ r < 0 := by omega
  have hc0' : ¬ c < 0 := by omega
  have hm1 := mnum_bd (k := k) (nr := false) h0 h1 h2 h3
  have hm2 := mnum_bd (k := k) (nr := true) h0 h1 h2 h3
  obtain ⟨hm0, hm1⟩ := hm1
  obtain ⟨hm2, hm3⟩ := hm2
  refine wpAny_call ?_
  k_dflt cell_enter
  k_steps
  all_goals exact hret _ [] _ _ (by assumption) (by first | assumption | exact cb_drop (by assumption) (by first | exact fun _ h => .tail _ (h) | exact fun _ h => .tail _ (.tail _ (h)) | exact fun _ h => .tail _ (.tail _ (.tail _ (h))) | exact fun _ h => .tail _ (.tail _ (.tail _ (.tail _ (h)))) | exact fun _ h => .tail _ (.tail _ (.tail _ (.tail _ (.tail _ (h))))) | exact fun _ h => .tail _ (.tail _ (.tail _ (.tail _ (.tail _ (.tail _ (h)))))) | exact fun _ h => .tail _ (.tail _ (.tail _ (.tail _ (.tail _ (.tail _ (.tail _ (h))))))) | exact fun _ h => .tail _ (.tail _ (.tail _ (.tail _ (.tail _ (.tail _ (.tail _ (.tail _ (h)))))))))) (BytesR.mk (by assumption))
set_option maxRecDepth 100000 in
set_option maxHeartbeats 8000000 in
theorem con_oct2 (w : World) (x d mo me st kp : Addr) (k : Str) (bt r c md : Int) (u0 u1 u2 u3 u4 u5 u6 u7 u8 u9 v20 v21 : Tok) (o : Obj) (hw : WayOk w 2 st o) (ht : Told k bt) (h0 : 0 ≤ bt) (h1 : bt ≤ 11) (h2 : 0 ≤ md) (h3 : md ≤ 7) (hk3 : k = Str.ofString "press" ∨ k = Str.ofString "release" ∨ k = Str.ofString "move") (hr0 : 0 ≤ r) (hr1 : r ≤ 199) (hc0 : 0 ≤ c) (hc1 : c ≤ 222) (news) :
   Con w 24 169 [.ref x, .ref mo] ((x, instObj 105 d) :: (d, dictOf [⟨PyData.keyHash w.params (Str.ofString "kind"), .str (Str.ofString "kind") u0, .str k u1⟩, ⟨PyData.keyHash w.params (Str.ofString "button"), .str (Str.ofString "button") u2, .int bt u3⟩, ⟨PyData.keyHash w.params (Str.ofString "row"), .str (Str.ofString "row") u4, .int r u5⟩, ⟨PyData.keyHash w.params (Str.ofString "column"), .str (Str.ofString "column") u6, .int c u7⟩, ⟨PyData.keyHash w.params (Str.ofString "modifiers"), .str (Str.ofString "modifiers") u8, .int md u9⟩] 5) :: (mo, instObj 69 me) :: (me, dictOf [⟨PyData.keyHash w.params (Str.ofString "states"), .str (Str.ofString "states") v20, .ref st⟩, ⟨PyData.keyHash w.params (Str.ofString "kept"), .str (Str.ofString "kept") v21, .ref kp⟩] 2) :: (st, o) :: news) (BytesR ([27, 91, 60] ++ (decI (mnum k bt md true) ++ [59] ++ decI (c + 1) ++ [59] ++ decI (r + 1)) ++ [if k = Str.ofString "release" then 109 else 77])) := by
  unfold Con
  intro p loose mean mg mb dp un gd cn cs a ccd cl outer A₀ base h₀ L m s Q E B F X N T hk hd hu hret
  obtain ⟨sh, sg, sd, st', so⟩ := s
  have hr0' : ¬ r < 0 := by omega
  have hc0' : ¬ c < 0 := by omega
  have hm1 := mnum_bd (k := k) (nr := false) h0 h1 h2 h3
  have hm2 := mnum_bd (k := k) (nr := true) h0 h1 h2 h3
  obtain ⟨hm0, hm1⟩ := hm1
  obtain ⟨hm2, hm3⟩ := hm2
  have hd1 := decI_len (mnum k bt md true)
  have hd2 := decI_len (c + 1)
  have hd3 := decI_len (r + 1)
  refine wpAny_call ?_
  k_dflt cell_enter
  k_steps
  all_goals refine hret _ [] _ _ (by assumption) (by first | assumption | exact cb_drop (by assumption) (by first | exact fun _ h => .tail _ (h) | exact fun _ h => .tail _ (.tail _ (h)) | exact fun _ h => .tail _ (.tail _ (.tail _ (h))) | exact fun _ h => .tail _ (.tail _ (.tail _ (.tail _ (h)))) | exact fun _ h => .tail _ (.tail _ (.tail _ (.tail _ (.tail _ (h))))) | exact fun _ h => .tail _ (.tail _ (.tail _ (.tail _ (.tail _ (.tail _ (h)))))) | exact fun _ h => .tail _ (.tail _ (.tail _ (.tail _ (.tail _ (.tail _ (.tail _ (h))))))) | exact fun _ h => .tail _ (.tail _ (.tail _ (.tail _ (.tail _ (.tail _ (.tail _ (.tail _ (h)))))))))) (BytesR.mk ?_)
  all_goals first
    | (rw [rel109 (by assumption)]; assumption)
    | (rw [rel77 (by assumption)]; assumption)
set_option maxRecDepth 100000 in
set_option maxHeartbeats 8000000 in
theorem con_oct3 (w : World) (x d mo me st kp : Addr) (k : Str) (bt r c md : Int) (u0 u1 u2 u3 u4 u5 u6 u7 u8 u9 v20 v21 : Tok) (o : Obj) (hw : WayOk w 3 st o) (ht : Told k bt) (h0 : 0 ≤ bt) (h1 : bt ≤ 11) (h2 : 0 ≤ md) (h3 : md ≤ 7) (hk3 : k = Str.ofString "press" ∨ k = Str.ofString "release" ∨ k = Str.ofString "move") (hr0 : 0 ≤ r) (hr1 : r ≤ 199) (hc0 : 0 ≤ c) (hc1 : c ≤ 222) (news) :
   Con w 24 169 [.ref x, .ref mo] ((x, instObj 105 d) :: (d, dictOf [⟨PyData.keyHash w.params (Str.ofString "kind"), .str (Str.ofString "kind") u0, .str k u1⟩, ⟨PyData.keyHash w.params (Str.ofString "button"), .str (Str.ofString "button") u2, .int bt u3⟩, ⟨PyData.keyHash w.params (Str.ofString "row"), .str (Str.ofString "row") u4, .int r u5⟩, ⟨PyData.keyHash w.params (Str.ofString "column"), .str (Str.ofString "column") u6, .int c u7⟩, ⟨PyData.keyHash w.params (Str.ofString "modifiers"), .str (Str.ofString "modifiers") u8, .int md u9⟩] 5) :: (mo, instObj 69 me) :: (me, dictOf [⟨PyData.keyHash w.params (Str.ofString "states"), .str (Str.ofString "states") v20, .ref st⟩, ⟨PyData.keyHash w.params (Str.ofString "kept"), .str (Str.ofString "kept") v21, .ref kp⟩] 2) :: (st, o) :: news) (BytesR ([27, 91] ++ (decI (mnum k bt md false + 32) ++ [59] ++ decI (c + 1) ++ [59] ++ decI (r + 1)) ++ [77])) := by
  unfold Con
  intro p loose mean mg mb dp un gd cn cs a ccd cl outer A₀ base h₀ L m s Q E B F X N T hk hd hu hret
  obtain ⟨sh, sg, sd, st', so⟩ := s
  have hr0' : ¬ r < 0 := by omega
  have hc0' : ¬ c < 0 := by omega
  have hm1 := mnum_bd (k := k) (nr := false) h0 h1 h2 h3
  have hm2 := mnum_bd (k := k) (nr := true) h0 h1 h2 h3
  obtain ⟨hm0, hm1⟩ := hm1
  obtain ⟨hm2, hm3⟩ := hm2
  have hd1 := decI_len (mnum k bt md false + 32)
  have hd2 := decI_len (c + 1)
  have hd3 := decI_len (r + 1)
  refine wpAny_call ?_
  k_dflt cell_enter
  k_steps
  all_goals exact hret _ [] _ _ (by assumption) (by first | assumption | exact cb_drop (by assumption) (by first | exact fun _ h => .tail _ (h) | exact fun _ h => .tail _ (.tail _ (h)) | exact fun _ h => .tail _ (.tail _ (.tail _ (h))) | exact fun _ h => .tail _ (.tail _ (.tail _ (.tail _ (h)))) | exact fun _ h => .tail _ (.tail _ (.tail _ (.tail _ (.tail _ (h))))) | exact fun _ h => .tail _ (.tail _ (.tail _ (.tail _ (.tail _ (.tail _ (h)))))) | exact fun _ h => .tail _ (.tail _ (.tail _ (.tail _ (.tail _ (.tail _ (.tail _ (h))))))) | exact fun _ h => .tail _ (.tail _ (.tail _ (.tail _ (.tail _ (.tail _ (.tail _ (.tail _ (h)))))))))) (BytesR.mk (by assumption))


-- parts
theorem rows_parts : True := by
  w_top off
  k_with_none
  k_with "kba_ints2" => first | kba_ints | (apply ints_lit; (simp only [List.map_cons, List.map_nil, UInt8.reduceToNat, Int.cast_ofNat_Int]); (try exact rfl))
  k_with "compareOp Eq bytes bytes" => (k_here; (with_reducible show wpAny _ _ (compareOp CmpOp.Eq (Value.bytes _ _) (Value.bytes _ _)) _ _ _); (first | refine eq_ints_T (by kba_ints2) (by kba_ints2) (by assumption) ?_ | refine eq_ints_F (by kba_ints2) (by kba_ints2) (by assumption) ?_ | refine eq_ints (by kba_ints2) (by kba_ints2) ?_))
  k_with "compareOp NotEq bytes bytes" => (k_here; (with_reducible show wpAny _ _ (compareOp CmpOp.NotEq (Value.bytes _ _) (Value.bytes _ _)) _ _ _); (refine ne_ints (by kba_ints2) (by kba_ints2) ?_))
  k_with "compareOp NotIn bytes ref" => (k_here; (with_reducible show wpAny _ _ (compareOp CmpOp.NotIn (Value.bytes _ _) (Value.ref _)) _ _ _); (refine notIn_two (by k_asm) (by k_mem) (by kba_ints2) (by kba_ints2) (by kba_ints2) ?_))
  k_with "subscriptTail" => (k_here; (with_reducible show wpAny _ _ (subscriptTail _ (Expr.Slice _ _ none _) (Value.bytes _ _) (Value.ref _)) _ _ _); (with_reducible rename Fr _ _ _ _ => F'); (with_reducible rename News _ _ _ _ => N'); (refine slice_C (s := ⟨_, _, _, _, _⟩) F' N' (by kba_ints2) (by constructor) (by constructor) (by kba_size) (by intro i hi; simp at hi; try (subst hi; omega)) (by intro i hi; simp at hi; try (subst hi; omega)) (by first | exact cut_z3 | exact cut_z2 | exact cut_z | exact cut_mid3 (by omega) | exact cut_mid2 (by omega) | exact cut_lit3 | exact cut_lit2 | exact cut_lit3' | exact cut_lit2' | exact cut_two | exact cut_tail | exact cut_head') ?_); intro _ _ _ _ _ _ kbcK; (try simp only [Int.toNat_zero, Int.toNat_ofNat, List.drop_zero] at kbcK))
  k_with "ktr_room" => first | exact room9 (by assumption) rfl | exact Nat.lt_of_le_of_lt (Nat.le_add_right _ _) (by assumption)
  k_with "ktr_units" => exact units9 (by assumption) rfl
  k_with "getMethod bytes" => (k_here; first | refine meth_starts ?_ | refine meth_split ?_ | refine meth_join ?_)
  k_with "call builtin:bytes.startswith" => (k_here; first | refine call_starts_T (by kba_ints2) (by kba_ints2) (by assumption) ?_ | refine call_starts_F (by kba_ints2) (by kba_ints2) (by assumption) ?_ | refine call_starts_I (by kba_ints2) (by kba_ints2) ?_)
  k_with "CompEnd" => (refine LCg.CompEnd.intro (by assumption) (by assumption) _ (fun _ h => h) (by assumption) (by exact Or.inr ⟨_, by k_mem, rfl, _, rfl⟩) ?_)
  k_with "call type:bytes" => (k_here; (with_reducible show wpAny _ _ (call (Value.type "bytes") [Value.ref _]) _ _ _); (refine' KBa.make_K ?kbaF ?kbaN ?kbah ?kbal ?kbai ?kbar ?kban ?_; (case kbaF => k_asm); (case kbaN => k_asm); (case kbah => rfl); (case kbal => kba_isList); (case kbai => kba_listInts); (case kbar => (repeat' (first | exact List.forall_mem_nil _ | (refine List.forall_mem_cons.mpr ⟨⟨?_, ?_⟩, ?_⟩) | omega | (simp only [fd10, fm10]; omega)))); (case kban => kba_size)); intro _ _ _ F' N' kbaIn; (have kbaM := KBa.ints_make kbaIn))
  k_with "cell_enter" => (refine' code_defC ?k1 ?k2 ?k3 ?k4 ?k5 ?kA ?kF ?kK ?k6 ?k7 ?k8 ?k9 ?kB ?kD ?_ ?c2 ?c3 ?c4; (case kA => exact rfl); (case kF => exact rfl); (case kK => first | exact rfl | assumption); (case k1 => k_asm); (case k2 => k_asm); (case k3 => k_asm); (case k4 => k_asm); (case k5 => k_asm); (case k6 => k_is); (case k7 => k_is); (case k8 => ktr_room); (case k9 => first | exact BindsTo.of_eq rfl | exact binds_K (by k_in) rfl (by k_is) rfl rfl rfl); (case kB => exact rfl); (case kD => decide +kernel); (case c2 => exact rfl); (case c3 => exact rfl); (case c4 => exact rfl); k_whole; intro g' L' h' tk' cells' FG' F' N' Y' B' X' T' l1; (try k_lt l1); k_cells Y'; (try simp only [List.cons_append, List.nil_append] at N'); (try dsimp only); (try k_lift B'); (try k_fold))
  k_with "call builtin:bytes.join" => (k_here; refine call_join_I (by k_asm) (by k_mem) rfl rfl (by kba_ints2) (by kba_ints2) (by kba_ints2) (by kba_ints2) (by first | assumption | decide) (by first | assumption | decide) (by first | assumption | decide) (by first | assumption | decide) ?_; intro _ _ _ kbJ; (try simp only [List.append_nil] at kbJ))
  k_with "units_room" => exact room_deep (by omega)
  k_with "cell_enter" => (refine' code_def ?k1 ?k2 ?k3 ?k4 ?k5 ?kA ?kF ?kK ?k6 ?k7 ?k8 ?k9 ?kB ?_ ?c2 ?c3 ?c4 ?c5; (case kA => exact rfl); (case kF => exact rfl); (case kK => first | exact rfl | assumption); (case k1 => k_asm); (case k2 => k_asm); (case k3 => k_asm); (case k4 => k_asm); (case k5 => k_asm); (case k6 => k_is); (case k7 => k_is); (case k8 => ktr_room); (case k9 => exact binds_K (by k_in) rfl (by k_is) rfl rfl rfl); (case c5 => decide); (case kB => exact locs rfl); (case c2 => exact rfl); (case c3 => exact rfl); (case c4 => exact rfl); k_whole; intro g' L' h' FG' F' N' B' X' T'; (try dsimp only); (try k_fold))
  k_with "con" => (k_here; (with_reducible show wpAny _ _ (call (Value.ref 59) [Value.ref _, Value.str _ _]) _ _ _); k_dflt (
    refine' Con.useV ?cC ?cB ?cF ?cX ?cN ?cT ?cK ?cD ?cU ?_
    (case cB => k_asm); (case cF => k_asm); (case cX => k_asm); (case cN => k_asm); (case cT => k_asm); (case cK => first | exact rfl | assumption | with_unfolding_all rfl)
    (case cC => (refine' Con.dup (os := [_, _, _]) (mem3 ?m1 ?m2 ?m3) (con_is_on _ _ _ _ _ _ _ _ _ _ _ _ ?s1 ?s2 ?s3 _); (case m1 => k_mem); (case m2 => k_mem); (case m3 => k_mem); (case s1 => assumption); (case s2 => assumption); (case s3 => assumption)))
    (case cD => ktr_room); (case cU => ktr_units)
    (intro t9 h' tk' F' N'; (try dsimp only); (try k_fold))))
  k_with "walk1" => ((first | with_reducible show wpAny _ _ (exec _ _) _ _ _ | with_reducible show wpAny _ _ (isTrue _ _ _) _ _ _); k_fold)
  trivial
-- what a row's four cells tell: an event
noncomputable def evOfCells (a b c e : Int) : Ev :=
  ⟨if a.fmod 3 = 0 then Str.ofString "press" else if a.fmod 3 = 1 then Str.ofString "release" else Str.ofString "move",
   if a.fmod 3 = 0 then [1, 2, 3, 4, 5, 6, 7, 8, 11].getD (b.fmod 9).toNat 0 else if a.fmod 3 = 1 then [1, 2, 3, 8].getD (b.fmod 4).toNat 0 else [0, 1, 2, 3].getD (b.fmod 4).toNat 0,
   c.fmod 200, e.fmod 223, (e.fdiv 223).fmod 8⟩
-- an event told as a tuple of five
noncomputable def PartsR (e : Ev) (news : List (Addr × Obj)) (r : Value) (tl : List (Addr × Obj)) : Prop :=
  ∃ T t0 t1 t2 t3 t4, r = .ref T ∧ tl = [(T, { cls := .type "tuple", data := .seq #[.str e.k t0, .int e.bt t1, .int e.r t2, .int e.c t3, .int e.md t4] })] ∧ ∀ p ∈ news, p.1 < T
theorem PartsR.mk {e : Ev} {news : List (Addr × Obj)} {k : Str} {bt r c md : Int} {T : Addr} {t0 t1 t2 t3 t4 : Tok} (h : e = ⟨k, bt, r, c, md⟩) (l : ∀ p ∈ news, p.1 < T) :
    PartsR e news (.ref T) [(T, { cls := .type "tuple", data := .seq #[.str k t0, .int bt t1, .int r t2, .int c t3, .int md t4] })] := by
  subst h; exact ⟨T, t0, t1, t2, t3, t4, rfl, rfl, l⟩
theorem PartsR.sub {e : Ev} {os news : List (Addr × Obj)} {r : Value} {tl : List (Addr × Obj)} (h : PartsR e (os ++ news) r tl) : PartsR e news r tl := by
  obtain ⟨T, t0, t1, t2, t3, t4, a, b, l⟩ := h
  exact ⟨T, t0, t1, t2, t3, t4, a, b, fun p hp => l p (List.mem_append_right _ hp)⟩
theorem EvR.sub {w : World} {o : Option Ev} {os news : List (Addr × Obj)} {r : Value} {tl : List (Addr × Obj)} (h : EvR w o (os ++ news) r tl) : EvR w o news r tl := by
  cases o with
  | none => exact h
  | some e =>
    obtain ⟨x, d, t0, t1, t2, t3, t4, t5, t6, t7, t8, t9, a, b, l, l2⟩ := h
    exact ⟨x, d, t0, t1, t2, t3, t4, t5, t6, t7, t8, t9, a, b, fun p hp => l p (List.mem_append_right _ hp), l2⟩
theorem Con.weak {w : World} {need : Nat} {f : Addr} {vs : List Value} {news : List (Addr × Obj)} {R R' : Value → List (Addr × Obj) → Prop} (C : Con w need f vs news R) (h : ∀ r tl, R r tl → R' r tl) : Con w need f vs news R' := by
  intro p loose mean mg mb dp un gd cn cs a ccd cl outer A₀ base h₀ L m s Q E B F X N T hk hd hu hret
  exact C p loose mean mg mb dp un gd cn cs a ccd cl outer A₀ base h₀ L m s Q E B F X N T hk hd hu fun r tl h' tk' F' N' hr => hret r tl h' tk' F' N' (h r tl hr)
theorem Con.dupE {w : World} {need : Nat} {f : Addr} {vs : List Value} {os news : List (Addr × Obj)} {o : Option Ev} (hs : ∀ p ∈ os, p ∈ news) (C : Con w need f vs (os ++ news) (EvR w o (os ++ news))) : Con w need f vs news (EvR w o news) := (Con.dup hs C).weak fun _ _ => EvR.sub
theorem Con.dupT {w : World} {need : Nat} {f : Addr} {vs : List Value} {os news : List (Addr × Obj)} {e : Ev} (hs : ∀ p ∈ os, p ∈ news) (C : Con w need f vs (os ++ news) (PartsR e (os ++ news))) : Con w need f vs news (PartsR e news) := (Con.dup hs C).weak fun _ _ => PartsR.sub
theorem cb_p1 {a b : Addr × Obj} {news : List (Addr × Obj)} : ∀ p ∈ [a] ++ news, p ∈ a :: b :: news := fun p hp => by
  rcases List.mem_cons.mp hp with rfl | hp
  · exact .head _
  · exact .tail _ (.tail _ hp)
theorem cb_mid5 {a b c g h i : Addr × Obj} {news : List (Addr × Obj)} : ∀ p ∈ [a] ++ news, p ∈ a :: b :: c :: g :: h :: i :: news := fun p hp => by
  rcases List.mem_cons.mp hp with rfl | hp
  · exact .head _
  · exact .tail _ (.tail _ (.tail _ (.tail _ (.tail _ (.tail _ hp)))))
section
variable {need : Nat} {f : Addr} {vs : List Value} {news : List (Addr × Obj)}
    {w : World} {p : Program} {loose : List Str} {mean : ExcName → Option Value} {mg mb : Str → Option Value} {dp un : Nat} {gd : Option (List Code)} {cn : Str} {cs : Scope} {a : Addr} {ccd : Value} {cl : List (Str × Addr)} {outer : List Env} {A₀ : Around} {base h₀ : Heap} {L : Addr} {m : Str → Option Value} {s : Shared}
    {Q E : Value → Shared → Prop}
theorem Con.useT {k : Str} {bt r c md : Int} (C : Con w need f vs news (PartsR ⟨k, bt, r, c, md⟩ news))
    (B : Below A₀ base outer h₀) (F : Fr h₀ L s.heap m) (X : (hd.heap_1 w.params).In h₀) (N : News h₀ L s.heap news) (T : Top p loose mean mg mb h₀) (hk : cs.kind = .function) (hd : dp + need < recursionLimit) (hu : un + 8 * need < cLine)
    (hs : ∀ T t0 t1 t2 t3 t4 h' tk', (∀ p ∈ news, p.1 < T) → Fr h₀ L h' m → News h₀ L h' ((T, { cls := .type "tuple", data := .seq #[.str k t0, .int bt t1, .int r t2, .int c t3, .int md t4] }) :: news) → Q (.ref T) { s with heap := h', toks := tk' }) :
    wpAny (model P0 w) (ktrTop dp un gd cn cs L a ccd cl outer) (call (.ref f) vs) Q E s := by
  refine Con.use C B F X N T hk hd hu fun r tl h' tk' F' N' hR => ?_
  obtain ⟨T, t0, t1, t2, t3, t4, rfl, rfl, l⟩ := hR; exact hs T t0 t1 t2 t3 t4 h' tk' l F' N'
end
noncomputable def kOf (a : Int) : Str := if a.fmod 3 = 0 then Str.ofString "press" else if a.fmod 3 = 1 then Str.ofString "release" else Str.ofString "move"
theorem item_kind {prog : Program} {w : World} {A : Around} {E : Value → Shared → Prop} {s : Shared} {value slice : PySem.Expr} {l : Addr} {n : Int} {u t1 t2 t3 : Tok} {Q : Value → Shared → Prop}
    (hl : s.heap.IsList l #[.str (Str.ofString "press") t1, .str (Str.ofString "release") t2, .str (Str.ofString "move") t3])
    (h : ∀ t, Q (.str (kOf n) t) s)
    (hs : subscripted slice false (.ref l) (.int (n.fmod 3) u) = operate [.ref l, .int (n.fmod 3) u] (getItem (.ref l) (.int (n.fmod 3) u)) := by with_unfolding_all rfl) :
    wpAny (model prog w) A (subscriptTail value slice (.ref l) (.int (n.fmod 3) u)) Q E s := by
  have h3 : n.fmod 3 = 0 ∨ n.fmod 3 = 1 ∨ n.fmod 3 = 2 := by rw [Int.fmod_eq_emod_of_nonneg _ (by decide)]; omega
  have key : ∃ t, #[Value.str (Str.ofString "press") t1, .str (Str.ofString "release") t2, .str (Str.ofString "move") t3][(n.fmod 3).toNat]? = some (.str (kOf n) t) := by
    unfold kOf
    rcases h3 with h3 | h3 | h3 <;> rw [h3]
    · exact ⟨t1, rfl⟩
    · exact ⟨t2, rfl⟩
    · exact ⟨t3, rfl⟩
  obtain ⟨t, hv⟩ := key
  exact item_litK hl (by omega) (by omega) (by simpa using hv) (h t) hs
theorem own_parts_1 : True := by
  k_with "subscriptTail" => (k_here; (with_reducible show wpAny _ _ (subscriptTail _ _ (Value.ref _) (Value.int (Int.fmod _ 3) _)) _ _ _); (with_unfolding_all refine' item_kind ?k1 ?_ ?k6; (case k1 => is_list); (case k6 => with_unfolding_all rfl)); intro t9)
  k_with "subscriptTail" => (k_here; (with_reducible show wpAny _ _ (subscriptTail _ _ (Value.ref _) (Value.int _ _)) _ _ _); (with_unfolding_all refine' item_anyK ?k1 ?k2 ?k3 ?k4 ?k5 ?_ ?k6; (case k1 => is_list); (case k2 => l_ints); (case k3 => l_idx); (case k4 => l_idx); (case k5 => l_idx); (case k6 => with_unfolding_all rfl); k_whole); intro _)
  k_with "subscriptTail Name Constant ref int" => (k_here; (with_reducible show wpAny _ _ (subscriptTail _ _ (Value.ref _) (Value.int _ _)) _ _ _); (with_unfolding_all refine' item_litK ?k1 ?k2 ?k3 ?k4 ?_ ?k6; (case k1 => is_list); (case k2 => decide); (case k3 => decide); (case k4 => rfl); (case k6 => with_unfolding_all rfl); k_whole))
  trivial
noncomputable def someL (a : Int) : List Int := if a.fmod 3 = 0 then [1, 2, 3, 4, 5, 6, 7, 8, 11] else if a.fmod 3 = 1 then [1, 2, 3, 8] else [0, 1, 2, 3]
theorem someL_len (a : Int) : (someL a).length = 9 ∨ (someL a).length = 4 := by
  unfold someL
  split
  · exact .inl rfl
  · split
    · exact .inr rfl
    · exact .inr rfl
theorem parts_eq5 {a b c e : Int} : evOfCells a b c e = ⟨kOf a, (someL a).getD (b.fmod ((someL a).length : Int)).toNat 0, c.fmod 200, e.fmod 223, (e.fdiv 223).fmod 8⟩ := by
  unfold evOfCells kOf someL
  by_cases h : a.fmod 3 = 0
  · simp only [if_pos h]; rfl
  · by_cases h1 : a.fmod 3 = 1
    · simp only [if_neg h, if_pos h1]; rfl
    · simp only [if_neg h, if_neg h1]; rfl
noncomputable def SomePost (h₀ : Heap) (L : Addr) (m : Str → Option Value) (rs : List (Addr × Obj)) (a : Int) (s : Shared) (f : Flow) (s' : Shared) : Prop :=
  f = .next ∧ ∃ sL vs kk h' tk, s' = { s with heap := h', toks := tk } ∧ IntsAre vs (someL a) ∧ Fr h₀ L h' (fun z => if z = Str.ofString "some" then some (.ref sL) else m z) ∧ News h₀ L h' ((sL, listOf vs.toArray kk) :: rs)
theorem SomePost.intro {h₀ h' : Heap} {L sL : Addr} {m m' : Str → Option Value} {rs nl : List (Addr × Obj)} {a : Int} {s : Shared} {tk kk : Nat} {vs : List Value} (F : Fr h₀ L h' m') (N : News h₀ L h' nl) (hm : ∀ z, m' z = if z = Str.ofString "some" then some (.ref sL) else m z) (hi : IntsAre vs (someL a)) (h1 : (sL, listOf vs.toArray kk) ∈ nl) (hr : ∀ p ∈ rs, p ∈ nl) :
    SomePost h₀ L m rs a s .next { s with heap := h', toks := tk } :=
  ⟨rfl, sL, vs, kk, h', tk, rfl, hi, by rw [show (fun z => if z = Str.ofString "some" then some (.ref sL) else m z) = m' from funext fun z => (hm z).symm]; exact F, cb_drop N (List.forall_mem_cons.mpr ⟨h1, hr⟩)⟩
theorem cut_some {M : Model} {A : Around} {h₀ : Heap} {L : Addr} {st : Stmt} {env : Env} {s : Shared} {m : Str → Option Value} {Q : Flow → Shared → Prop} {E : Value → Shared → Prop} {x1 : Addr × Obj} {rs : List (Addr × Obj)} (a : Int) (F : Fr h₀ L s.heap m) (_N : News h₀ L s.heap (x1 :: rs))
    (walk : Hold (wpAny M A (exec st env) (SomePost h₀ L m rs a s) E s))
    (rest : Hold (∀ sL vs kk h' tk, IntsAre vs (someL a) → Fr h₀ L h' (fun z => if z = Str.ofString "some" then some (.ref sL) else m z) → News h₀ L h' ((sL, listOf vs.toArray kk) :: rs) → Q .next { s with heap := h', toks := tk })) : wpAny M A (exec st env) Q E s := by
  refine wpAny_mono walk (fun f s' hc => ?_) fun _ _ x => x
  obtain ⟨hf, sL, vs, kk, h', tk, hs, hi, F', N'⟩ := hc
  subst hf hs
  exact rest sL vs kk h' tk hi F' N'
set_option maxRecDepth 100000 in
set_option maxHeartbeats 8000000 in
theorem con_parts (w : World) (l : Addr) (a9 b9 c9 e9 : Int) (t1 t2 t3 t4 : Tok) (kk : Nat) (h0 : 0 ≤ a9) (h1 : 0 ≤ b9) (h2 : 0 ≤ c9) (h3 : 0 ≤ e9) (news) :
   Con w 12 231 [.ref l] ((l, listOf #[.int a9 t1, .int b9 t2, .int c9 t3, .int e9 t4] kk) :: news) (PartsR (evOfCells a9 b9 c9 e9) ((l, listOf #[.int a9 t1, .int b9 t2, .int c9 t3, .int e9 t4] kk) :: news)) := by
  unfold Con
  intro p loose mean mg mb dp un gd cn cs a ccd cl outer A₀ base h₀ L m s Q E B F X N T hk hd hu hret
  obtain ⟨sh, sg, sd, st, so⟩ := s
  refine wpAny_call ?_
  k_dflt cell_enter
  have hA : Int.fmod a9 3 = 0 ∨ Int.fmod a9 3 = 1 ∨ Int.fmod a9 3 = 2 := by rw [Int.fmod_eq_emod_of_nonneg _ (by decide)]; omega
  k_with "subscriptTail" => (k_here; (with_reducible show wpAny _ _ (subscriptTail _ _ (Value.ref _) (Value.str (kOf _) _)) _ _ _); k_dflt (refine hold_in ?_))
  k_with "subscriptTail Dict Name ref str" => (k_here; (with_reducible show wpAny _ _ (subscriptTail _ _ (Value.ref _) (Value.str (kOf _) _)) _ _ _); k_dflt (refine hold_in ?_))
  k_with "exec Assign" => (k_here; (with_reducible show wpAny _ _ (exec (PySem.Stmt.Assign _ (PySem.Expr.Subscript (PySem.Expr.Dict _ _ _) _ _) _) _) _ _ _); (rename CutMark 1 => hM; clear hM); rename Fr _ _ _ _ => F8; rename News _ _ _ _ => N8; k_dflt (refine (cut_some (env := _) a9 F8 N8 : Hold _ → Hold _ → _) ?_ ?_))
  have hM : CutMark 1 := rfl
  k_steps
  · unfold Hold
    k_steps
    unfold Hold
    rcases hA with hA | hA | hA
    · have hk9 : kOf a9 = Str.ofString "press" := if_pos hA
      rw [hk9]
      k_steps
      have hsl : someL a9 = [1, 2, 3, 4, 5, 6, 7, 8, 11] := if_pos hA
      refine SomePost.intro (by assumption) (by assumption) (fun _ => rfl) ?hi (by k_mem) ?hr
      case hi => rw [hsl]; l_ints
      case hr => exact fun q hq => by repeat' (first | exact hq | refine List.Mem.tail _ ?_)
    · have hk9 : kOf a9 = Str.ofString "release" := (if_neg (by rw [hA]; decide)).trans (if_pos hA)
      rw [hk9]
      k_steps
      have hsl : someL a9 = [1, 2, 3, 8] := (if_neg (by rw [hA]; decide)).trans (if_pos hA)
      refine SomePost.intro (by assumption) (by assumption) (fun _ => rfl) ?hi (by k_mem) ?hr
      case hi => rw [hsl]; l_ints
      case hr => exact fun q hq => by repeat' (first | exact hq | refine List.Mem.tail _ ?_)
    · have hk9 : kOf a9 = Str.ofString "move" := (if_neg (by rw [hA]; decide)).trans (if_neg (by rw [hA]; decide))
      rw [hk9]
      k_steps
      have hsl : someL a9 = [0, 1, 2, 3] := (if_neg (by rw [hA]; decide)).trans (if_neg (by rw [hA]; decide))
      refine SomePost.intro (by assumption) (by assumption) (fun _ => rfl) ?hi (by k_mem) ?hr
      case hi => rw [hsl]; l_ints
      case hr => exact fun q hq => by repeat' (first | exact hq | refine List.Mem.tail _ ?_)
  · unfold Hold
    intro sL vs kk9 h' tk hi9 F2 N2
    have hvl := hi9.length
    have h94 := someL_len a9
    k_steps
    refine hret _ [_] _ _ (by assumption) (cb_drop (by assumption) cb_p1) (PartsR.mk parts_eq5 (ltAll (And.right (by assumption))))


-- lev
theorem rows_lev : True := by
  w_top off
  k_with_none
  k_with "kba_ints2" => first | kba_ints | (apply ints_lit; (simp only [List.map_cons, List.map_nil, UInt8.reduceToNat, Int.cast_ofNat_Int]); (try exact rfl))
  k_with "compareOp Eq bytes bytes" => (k_here; (with_reducible show wpAny _ _ (compareOp CmpOp.Eq (Value.bytes _ _) (Value.bytes _ _)) _ _ _); (first | refine eq_ints_T (by kba_ints2) (by kba_ints2) (by assumption) ?_ | refine eq_ints_F (by kba_ints2) (by kba_ints2) (by assumption) ?_ | refine eq_ints (by kba_ints2) (by kba_ints2) ?_))
  k_with "compareOp NotEq bytes bytes" => (k_here; (with_reducible show wpAny _ _ (compareOp CmpOp.NotEq (Value.bytes _ _) (Value.bytes _ _)) _ _ _); (refine ne_ints (by kba_ints2) (by kba_ints2) ?_))
  k_with "compareOp NotIn bytes ref" => (k_here; (with_reducible show wpAny _ _ (compareOp CmpOp.NotIn (Value.bytes _ _) (Value.ref _)) _ _ _); (refine notIn_two (by k_asm) (by k_mem) (by kba_ints2) (by kba_ints2) (by kba_ints2) ?_))
  k_with "subscriptTail" => (k_here; (with_reducible show wpAny _ _ (subscriptTail _ (Expr.Slice _ _ none _) (Value.bytes _ _) (Value.ref _)) _ _ _); (with_reducible rename Fr _ _ _ _ => F'); (with_reducible rename News _ _ _ _ => N'); (refine slice_C (s := ⟨_, _, _, _, _⟩) F' N' (by kba_ints2) (by constructor) (by constructor) (by kba_size) (by intro i hi; simp at hi; try (subst hi; omega)) (by intro i hi; simp at hi; try (subst hi; omega)) (by first | exact cut_z3 | exact cut_z2 | exact cut_z | exact cut_mid3 (by omega) | exact cut_mid2 (by omega) | exact cut_lit3 | exact cut_lit2 | exact cut_lit3' | exact cut_lit2' | exact cut_two | exact cut_tail | exact cut_head') ?_); intro _ _ _ _ _ _ kbcK; (try simp only [Int.toNat_zero, Int.toNat_ofNat, List.drop_zero] at kbcK))
  k_with "ktr_room" => first | exact room9 (by assumption) rfl | exact Nat.lt_of_le_of_lt (Nat.le_add_right _ _) (by assumption)
  k_with "ktr_units" => exact units9 (by assumption) rfl
  k_with "getMethod bytes" => (k_here; first | refine meth_starts ?_ | refine meth_split ?_ | refine meth_join ?_)
  k_with "call builtin:bytes.startswith" => (k_here; first | refine call_starts_T (by kba_ints2) (by kba_ints2) (by assumption) ?_ | refine call_starts_F (by kba_ints2) (by kba_ints2) (by assumption) ?_ | refine call_starts_I (by kba_ints2) (by kba_ints2) ?_)
  k_with "CompEnd" => (refine LCg.CompEnd.intro (by assumption) (by assumption) _ (fun _ h => h) (by assumption) (by exact Or.inr ⟨_, by k_mem, rfl, _, rfl⟩) ?_)
  k_with "call type:bytes" => (k_here; (with_reducible show wpAny _ _ (call (Value.type "bytes") [Value.ref _]) _ _ _); (refine' KBa.make_K ?kbaF ?kbaN ?kbah ?kbal ?kbai ?kbar ?kban ?_; (case kbaF => k_asm); (case kbaN => k_asm); (case kbah => rfl); (case kbal => kba_isList); (case kbai => kba_listInts); (case kbar => (repeat' (first | exact List.forall_mem_nil _ | (refine List.forall_mem_cons.mpr ⟨⟨?_, ?_⟩, ?_⟩) | omega | (simp only [fd10, fm10]; omega)))); (case kban => kba_size)); intro _ _ _ F' N' kbaIn; (have kbaM := KBa.ints_make kbaIn))
  k_with "cell_enter" => (refine' code_defC ?k1 ?k2 ?k3 ?k4 ?k5 ?kA ?kF ?kK ?k6 ?k7 ?k8 ?k9 ?kB ?kD ?_ ?c2 ?c3 ?c4; (case kA => exact rfl); (case kF => exact rfl); (case kK => first | exact rfl | assumption); (case k1 => k_asm); (case k2 => k_asm); (case k3 => k_asm); (case k4 => k_asm); (case k5 => k_asm); (case k6 => k_is); (case k7 => k_is); (case k8 => ktr_room); (case k9 => first | exact BindsTo.of_eq rfl | exact binds_K (by k_in) rfl (by k_is) rfl rfl rfl); (case kB => exact rfl); (case kD => decide +kernel); (case c2 => exact rfl); (case c3 => exact rfl); (case c4 => exact rfl); k_whole; intro g' L' h' tk' cells' FG' F' N' Y' B' X' T' l1; (try k_lt l1); k_cells Y'; (try simp only [List.cons_append, List.nil_append] at N'); (try dsimp only); (try k_lift B'); (try k_fold))
  k_with "call builtin:bytes.join" => (k_here; refine call_join_I (by k_asm) (by k_mem) rfl rfl (by kba_ints2) (by kba_ints2) (by kba_ints2) (by kba_ints2) (by first | assumption | decide) (by first | assumption | decide) (by first | assumption | decide) (by first | assumption | decide) ?_; intro _ _ _ kbJ; (try simp only [List.append_nil] at kbJ))
  k_with "units_room" => exact room_deep (by omega)
  k_with "cell_enter" => (refine' code_def ?k1 ?k2 ?k3 ?k4 ?k5 ?kA ?kF ?kK ?k6 ?k7 ?k8 ?k9 ?kB ?_ ?c2 ?c3 ?c4 ?c5; (case kA => exact rfl); (case kF => exact rfl); (case kK => first | exact rfl | assumption); (case k1 => k_asm); (case k2 => k_asm); (case k3 => k_asm); (case k4 => k_asm); (case k5 => k_asm); (case k6 => k_is); (case k7 => k_is); (case k8 => ktr_room); (case k9 => exact binds_K (by k_in) rfl (by k_is) rfl rfl rfl); (case c5 => decide); (case kB => exact locs rfl); (case c2 => exact rfl); (case c3 => exact rfl); (case c4 => exact rfl); k_whole; intro g' L' h' FG' F' N' B' X' T'; (try dsimp only); (try k_fold))
  k_with "con" => (k_here; (with_reducible show wpAny _ _ (call (Value.ref 59) [Value.ref _, Value.str _ _]) _ _ _); k_dflt (
    refine' Con.useV ?cC ?cB ?cF ?cX ?cN ?cT ?cK ?cD ?cU ?_
    (case cB => k_asm); (case cF => k_asm); (case cX => k_asm); (case cN => k_asm); (case cT => k_asm); (case cK => first | exact rfl | assumption | with_unfolding_all rfl)
    (case cC => (refine' Con.dup (os := [_, _, _]) (mem3 ?m1 ?m2 ?m3) (con_is_on _ _ _ _ _ _ _ _ _ _ _ _ ?s1 ?s2 ?s3 _); (case m1 => k_mem); (case m2 => k_mem); (case m3 => k_mem); (case s1 => assumption); (case s2 => assumption); (case s3 => assumption)))
    (case cD => ktr_room); (case cU => ktr_units)
    (intro t9 h' tk' F' N'; (try dsimp only); (try k_fold))))
  k_with "con" => (k_here; (with_reducible show wpAny _ _ (call (Value.ref 105) [Value.str _ _, Value.int _ _, Value.int _ _, Value.int _ _, Value.int _ _]) _ _ _); k_dflt (
    refine Con.useE (con_ev _ _ _ _ _ _ _ _ _ _ _ _) (by k_asm) (by k_asm) (by k_asm) (by k_asm) (by k_asm) (by first | exact rfl | assumption) (by ktr_room) (by ktr_units) (fun e9 => nomatch e9) ?_
    (intro k9 bt9 r9 c9 md9 x9 d9 t0 t1 t2 t3 t4 t5 t6 t7 t8 t9 h' tk' hO9 l9 l8 F' N'; cases hO9; (try k_lt l9); (try k_lt2 l8); (try dsimp only); (try k_fold))))
  trivial
set_option maxRecDepth 100000 in
set_option maxHeartbeats 8000000 in
theorem con_lev (w : World) (T : Addr) (k : Str) (bt r c md : Int) (t0 t1 t2 t3 t4 : Tok) (news) :
   Con w 6 238 [.ref T] ((T, { cls := .type "tuple", data := .seq #[.str k t0, .int bt t1, .int r t2, .int c t3, .int md t4] }) :: news) (EvR w (some ⟨k, bt, r, c, md⟩) ((T, { cls := .type "tuple", data := .seq #[.str k t0, .int bt t1, .int r t2, .int c t3, .int md t4] }) :: news)) := by
  unfold Con
  intro p loose mean mg mb dp un gd cn cs a ccd cl outer A₀ base h₀ L m s Q E B F X N T' hk hd hu hret
  obtain ⟨sh, sg, sd, st', so⟩ := s
  refine wpAny_call ?_
  k_dflt cell_enter
  k_steps
  all_goals refine hret _ [_, _] _ _ (by assumption) (by first | assumption | exact cb_drop (by assumption) (by first | exact fun _ h => .tail _ (h) | exact fun _ h => .tail _ (.tail _ (h)) | exact fun _ h => .tail _ (.tail _ (.tail _ (h))) | exact fun _ h => .tail _ (.tail _ (.tail _ (.tail _ (h)))) | exact fun _ h => .tail _ (.tail _ (.tail _ (.tail _ (.tail _ (h))))) | exact fun _ h => .tail _ (.tail _ (.tail _ (.tail _ (.tail _ (.tail _ (h)))))) | exact fun _ h => .tail _ (.tail _ (.tail _ (.tail _ (.tail _ (.tail _ (.tail _ (h))))))) | exact fun _ h => .tail _ (.tail _ (.tail _ (.tail _ (.tail _ (.tail _ (.tail _ (.tail _ (h)))))))))) (EvR.some rfl (by first | assumption | exact ltAll (by assumption) | exact ltAll (And.right (by assumption))) (by first | assumption | exact And.left (by assumption)))
set_option maxRecDepth 100000 in
set_option maxHeartbeats 8000000 in
theorem con_ltold (w : World) (x d : Addr) (k : Str) (bt r c md : Int) (u0 u1 u2 u3 u4 u5 u6 u7 u8 u9 : Tok) (news) :
   Con w 3 245 [.ref x] ((x, instObj 105 d) :: (d, dictOf [⟨PyData.keyHash w.params (Str.ofString "kind"), .str (Str.ofString "kind") u0, .str k u1⟩, ⟨PyData.keyHash w.params (Str.ofString "button"), .str (Str.ofString "button") u2, .int bt u3⟩, ⟨PyData.keyHash w.params (Str.ofString "row"), .str (Str.ofString "row") u4, .int r u5⟩, ⟨PyData.keyHash w.params (Str.ofString "column"), .str (Str.ofString "column") u6, .int c u7⟩, ⟨PyData.keyHash w.params (Str.ofString "modifiers"), .str (Str.ofString "modifiers") u8, .int md u9⟩] 5) :: news) (PartsR ⟨k, bt, r, c, md⟩ ((x, instObj 105 d) :: (d, dictOf [⟨PyData.keyHash w.params (Str.ofString "kind"), .str (Str.ofString "kind") u0, .str k u1⟩, ⟨PyData.keyHash w.params (Str.ofString "button"), .str (Str.ofString "button") u2, .int bt u3⟩, ⟨PyData.keyHash w.params (Str.ofString "row"), .str (Str.ofString "row") u4, .int r u5⟩, ⟨PyData.keyHash w.params (Str.ofString "column"), .str (Str.ofString "column") u6, .int c u7⟩, ⟨PyData.keyHash w.params (Str.ofString "modifiers"), .str (Str.ofString "modifiers") u8, .int md u9⟩] 5) :: news)) := by
  unfold Con
  intro p loose mean mg mb dp un gd cn cs a ccd cl outer A₀ base h₀ L m s Q E B F X N T' hk hd hu hret
  obtain ⟨sh, sg, sd, st', so⟩ := s
  refine wpAny_call ?_
  k_dflt cell_enter
  k_steps
  all_goals refine hret _ [_] _ _ (by assumption) (by first | assumption | exact cb_drop (by assumption) (by first | exact fun _ h => .tail _ (h) | exact fun _ h => .tail _ (.tail _ (h)) | exact fun _ h => .tail _ (.tail _ (.tail _ (h))) | exact fun _ h => .tail _ (.tail _ (.tail _ (.tail _ (h)))) | exact fun _ h => .tail _ (.tail _ (.tail _ (.tail _ (.tail _ (h))))) | exact fun _ h => .tail _ (.tail _ (.tail _ (.tail _ (.tail _ (.tail _ (h)))))) | exact fun _ h => .tail _ (.tail _ (.tail _ (.tail _ (.tail _ (.tail _ (.tail _ (h))))))) | exact fun _ h => .tail _ (.tail _ (.tail _ (.tail _ (.tail _ (.tail _ (.tail _ (.tail _ (h)))))))))) (PartsR.mk rfl (ltAll (by assumption)))


-- same
theorem rows_same : True := by
  w_top off
  k_with_none
  k_with "kba_ints2" => first | kba_ints | (apply ints_lit; (simp only [List.map_cons, List.map_nil, UInt8.reduceToNat, Int.cast_ofNat_Int]); (try exact rfl))
  k_with "compareOp Eq bytes bytes" => (k_here; (with_reducible show wpAny _ _ (compareOp CmpOp.Eq (Value.bytes _ _) (Value.bytes _ _)) _ _ _); (first | refine eq_ints_T (by kba_ints2) (by kba_ints2) (by assumption) ?_ | refine eq_ints_F (by kba_ints2) (by kba_ints2) (by assumption) ?_ | refine eq_ints (by kba_ints2) (by kba_ints2) ?_))
  k_with "compareOp NotEq bytes bytes" => (k_here; (with_reducible show wpAny _ _ (compareOp CmpOp.NotEq (Value.bytes _ _) (Value.bytes _ _)) _ _ _); (refine ne_ints (by kba_ints2) (by kba_ints2) ?_))
  k_with "compareOp NotIn bytes ref" => (k_here; (with_reducible show wpAny _ _ (compareOp CmpOp.NotIn (Value.bytes _ _) (Value.ref _)) _ _ _); (refine notIn_two (by k_asm) (by k_mem) (by kba_ints2) (by kba_ints2) (by kba_ints2) ?_))
  k_with "subscriptTail" => (k_here; (with_reducible show wpAny _ _ (subscriptTail _ (Expr.Slice _ _ none _) (Value.bytes _ _) (Value.ref _)) _ _ _); (with_reducible rename Fr _ _ _ _ => F'); (with_reducible rename News _ _ _ _ => N'); (refine slice_C (s := ⟨_, _, _, _, _⟩) F' N' (by kba_ints2) (by constructor) (by constructor) (by kba_size) (by intro i hi; simp at hi; try (subst hi; omega)) (by intro i hi; simp at hi; try (subst hi; omega)) (by first | exact cut_z3 | exact cut_z2 | exact cut_z | exact cut_mid3 (by omega) | exact cut_mid2 (by omega) | exact cut_lit3 | exact cut_lit2 | exact cut_lit3' | exact cut_lit2' | exact cut_two | exact cut_tail | exact cut_head') ?_); intro _ _ _ _ _ _ kbcK; (try simp only [Int.toNat_zero, Int.toNat_ofNat, List.drop_zero] at kbcK))
  k_with "ktr_room" => first | exact room9 (by assumption) rfl | exact Nat.lt_of_le_of_lt (Nat.le_add_right _ _) (by assumption)
  k_with "ktr_units" => exact units9 (by assumption) rfl
  k_with "getMethod bytes" => (k_here; first | refine meth_starts ?_ | refine meth_split ?_ | refine meth_join ?_)
  k_with "call builtin:bytes.startswith" => (k_here; first | refine call_starts_T (by kba_ints2) (by kba_ints2) (by assumption) ?_ | refine call_starts_F (by kba_ints2) (by kba_ints2) (by assumption) ?_ | refine call_starts_I (by kba_ints2) (by kba_ints2) ?_)
  k_with "CompEnd" => (refine LCg.CompEnd.intro (by assumption) (by assumption) _ (fun _ h => h) (by assumption) (by exact Or.inr ⟨_, by k_mem, rfl, _, rfl⟩) ?_)
  k_with "call type:bytes" => (k_here; (with_reducible show wpAny _ _ (call (Value.type "bytes") [Value.ref _]) _ _ _); (refine' KBa.make_K ?kbaF ?kbaN ?kbah ?kbal ?kbai ?kbar ?kban ?_; (case kbaF => k_asm); (case kbaN => k_asm); (case kbah => rfl); (case kbal => kba_isList); (case kbai => kba_listInts); (case kbar => (repeat' (first | exact List.forall_mem_nil _ | (refine List.forall_mem_cons.mpr ⟨⟨?_, ?_⟩, ?_⟩) | omega | (simp only [fd10, fm10]; omega)))); (case kban => kba_size)); intro _ _ _ F' N' kbaIn; (have kbaM := KBa.ints_make kbaIn))
  k_with "cell_enter" => (refine' code_defC ?k1 ?k2 ?k3 ?k4 ?k5 ?kA ?kF ?kK ?k6 ?k7 ?k8 ?k9 ?kB ?kD ?_ ?c2 ?c3 ?c4; (case kA => exact rfl); (case kF => exact rfl); (case kK => first | exact rfl | assumption); (case k1 => k_asm); (case k2 => k_asm); (case k3 => k_asm); (case k4 => k_asm); (case k5 => k_asm); (case k6 => k_is); (case k7 => k_is); (case k8 => ktr_room); (case k9 => first | exact BindsTo.of_eq rfl | exact binds_K (by k_in) rfl (by k_is) rfl rfl rfl); (case kB => exact rfl); (case kD => decide +kernel); (case c2 => exact rfl); (case c3 => exact rfl); (case c4 => exact rfl); k_whole; intro g' L' h' tk' cells' FG' F' N' Y' B' X' T' l1; (try k_lt l1); k_cells Y'; (try simp only [List.cons_append, List.nil_append] at N'); (try dsimp only); (try k_lift B'); (try k_fold))
  k_with "call builtin:bytes.join" => (k_here; refine call_join_I (by k_asm) (by k_mem) rfl rfl (by kba_ints2) (by kba_ints2) (by kba_ints2) (by kba_ints2) (by first | assumption | decide) (by first | assumption | decide) (by first | assumption | decide) (by first | assumption | decide) ?_; intro _ _ _ kbJ; (try simp only [List.append_nil] at kbJ))
  k_with "units_room" => exact room_deep (by omega)
  k_with "cell_enter" => (refine' code_def ?k1 ?k2 ?k3 ?k4 ?k5 ?kA ?kF ?kK ?k6 ?k7 ?k8 ?k9 ?kB ?_ ?c2 ?c3 ?c4 ?c5; (case kA => exact rfl); (case kF => exact rfl); (case kK => first | exact rfl | assumption); (case k1 => k_asm); (case k2 => k_asm); (case k3 => k_asm); (case k4 => k_asm); (case k5 => k_asm); (case k6 => k_is); (case k7 => k_is); (case k8 => ktr_room); (case k9 => exact binds_K (by k_in) rfl (by k_is) rfl rfl rfl); (case c5 => decide); (case kB => exact locs rfl); (case c2 => exact rfl); (case c3 => exact rfl); (case c4 => exact rfl); k_whole; intro g' L' h' FG' F' N' B' X' T'; (try dsimp only); (try k_fold))
  trivial
-- the answer of same_event
noncomputable def sameB (e g : Ev) : Bool := e.k == g.k && (e.bt == g.bt && (e.md == g.md && (e.r == g.r && e.c == g.c)))
section
variable {k j : Str} {bt r c md b2 r2 c2 m2 : Int}
theorem same_a (h : (k != j) = true) : sameB ⟨k, bt, r, c, md⟩ ⟨j, b2, r2, c2, m2⟩ = false := by
  have : (k == j) = false := by simpa [bne] using h
  simp [sameB, this]
theorem same_b (h : (k != j) = false) (hb : ¬ bt = b2) : sameB ⟨k, bt, r, c, md⟩ ⟨j, b2, r2, c2, m2⟩ = false := by simp [sameB, hb]
theorem same_c (h : (k != j) = false) (hb : bt = b2) (hm : ¬ md = m2) : sameB ⟨k, bt, r, c, md⟩ ⟨j, b2, r2, c2, m2⟩ = false := by simp [sameB, hm]
theorem same_d (h : (k != j) = false) (hb : bt = b2) (hm : md = m2) (hr : r = r2) : sameB ⟨k, bt, r, c, md⟩ ⟨j, b2, r2, c2, m2⟩ = (c == c2) := by
  have : (k == j) = true := by simpa [bne] using h
  simp [sameB, this, hb, hm, hr]
theorem same_e (h : (k != j) = false) (hb : bt = b2) (hm : md = m2) (hr : ¬ r = r2) : sameB ⟨k, bt, r, c, md⟩ ⟨j, b2, r2, c2, m2⟩ = (r == r2) := by
  have : (r == r2) = false := by simpa using hr
  simp [sameB, this]
end
set_option maxRecDepth 100000 in
set_option maxHeartbeats 8000000 in
theorem con_same (w : World) (x d y g : Addr) (k j : Str) (bt r c md b2 r2 c2 m2 : Int) (u0 u1 u2 u3 u4 u5 u6 u7 u8 u9 v0 v1 v2 v3 v4 v5 v6 v7 v8 v9 : Tok) (news) :
   Con w 4 116 [.ref x, .ref y] ((x, instObj 105 d) :: (d, dictOf [⟨PyData.keyHash w.params (Str.ofString "kind"), .str (Str.ofString "kind") u0, .str k u1⟩, ⟨PyData.keyHash w.params (Str.ofString "button"), .str (Str.ofString "button") u2, .int bt u3⟩, ⟨PyData.keyHash w.params (Str.ofString "row"), .str (Str.ofString "row") u4, .int r u5⟩, ⟨PyData.keyHash w.params (Str.ofString "column"), .str (Str.ofString "column") u6, .int c u7⟩, ⟨PyData.keyHash w.params (Str.ofString "modifiers"), .str (Str.ofString "modifiers") u8, .int md u9⟩] 5) :: (y, instObj 105 g) :: (g, dictOf [⟨PyData.keyHash w.params (Str.ofString "kind"), .str (Str.ofString "kind") v0, .str j v1⟩, ⟨PyData.keyHash w.params (Str.ofString "button"), .str (Str.ofString "button") v2, .int b2 v3⟩, ⟨PyData.keyHash w.params (Str.ofString "row"), .str (Str.ofString "row") v4, .int r2 v5⟩, ⟨PyData.keyHash w.params (Str.ofString "column"), .str (Str.ofString "column") v6, .int c2 v7⟩, ⟨PyData.keyHash w.params (Str.ofString "modifiers"), .str (Str.ofString "modifiers") v8, .int m2 v9⟩] 5) :: news) (ValR fun _ => .bool (sameB ⟨k, bt, r, c, md⟩ ⟨j, b2, r2, c2, m2⟩)) := by
  unfold Con
  intro p loose mean mg mb dp un gd cn cs a ccd cl outer A₀ base h₀ L m s Q E B F X N T' hk hd hu hret
  obtain ⟨sh, sg, sd, st', so⟩ := s
  refine wpAny_call ?_
  k_dflt cell_enter
  k_steps
  all_goals refine hret _ [] _ _ (by assumption) (by first | assumption | exact cb_drop (by assumption) (by first | exact fun _ h => .tail _ (h) | exact fun _ h => .tail _ (.tail _ (h)) | exact fun _ h => .tail _ (.tail _ (.tail _ (h))) | exact fun _ h => .tail _ (.tail _ (.tail _ (.tail _ (h)))) | exact fun _ h => .tail _ (.tail _ (.tail _ (.tail _ (.tail _ (h))))) | exact fun _ h => .tail _ (.tail _ (.tail _ (.tail _ (.tail _ (.tail _ (h)))))) | exact fun _ h => .tail _ (.tail _ (.tail _ (.tail _ (.tail _ (.tail _ (.tail _ (h))))))) | exact fun _ h => .tail _ (.tail _ (.tail _ (.tail _ (.tail _ (.tail _ (.tail _ (.tail _ (h)))))))))) (ValR.mk (t := 0) ?_)
  all_goals first
    | (rw [same_a (by assumption)])
    | (rw [same_b (by assumption) (by assumption)])
    | (rw [same_c (by assumption) (by assumption) (by assumption)])
    | (rw [same_d (by assumption) (by assumption) (by assumption) (by assumption)])
    | (rw [same_e (by assumption) (by assumption) (by assumption) (by assumption)])


-- LG
theorem rows_LG : True := by
  w_top off
  k_with_none
  trivial
section
variable {prog : Program} {w : World} {A : Around} {E : Value → Shared → Prop} {env : Env} {h₀ : Heap} {x : Str} {body : List Stmt} {Q : Flow → Shared → Prop}
-- a loop over an iterator made for it, the invariant one's own: the ledger may grow
theorem loop_G {I : Addr} {n : Nat} {P : Nat → Value → Prop} {St : Nat → Heap → Prop} {m₀ : Str → Option Value} {news : List (Addr × Obj)} {s₀ : Shared} (J : Nat → (Str → Option Value) → List (Addr × Obj) → Prop)
    (W : Walks prog w A I [I] [I] n P St) (hob : ∀ i h, St i h → ∃ o, h.get? I = some o) (hL : env.locals ≠ I) (hI : h₀.get? I = none) (hnw : ∀ p ∈ news, p.1 ≠ I) (hst : St 0 s₀.heap) (F : Fr h₀ env.locals s₀.heap m₀) (N : News h₀ env.locals s₀.heap news) (hj : J 0 m₀ news)
    (turn : ∀ i v m₁ news₁ h tk o, i < n → P i v → (∀ p ∈ news₁, p.1 ≠ I) → J i m₁ news₁ → Fr h₀ env.locals h (fun y => if y = x then some v else m₁ y) → News h₀ env.locals h ((I, o) :: news₁) →
      wpAny (model prog w) A (execs body env) (InvPostG h₀ env.locals (J (i + 1)) [(I, o)] { s₀ with heap := h, toks := tk } Q) E { s₀ with heap := h, toks := tk })
    (done : ∀ m₁ news₁ h tk, J n m₁ news₁ → Fr h₀ env.locals h m₁ → News h₀ env.locals h news₁ → Q .next { s₀ with heap := h, toks := tk }) :
    LoopAtV prog w A h₀ env x body Q E (.ref I) s₀ := by
  refine ⟨I, [I], [I], n, P, St, m₀, news, J, rfl, W, fun h => hL (List.mem_singleton.mp h), fun b hb => by rw [List.mem_singleton.mp hb]; exact hI, fun p hp h => hnw p hp (List.mem_singleton.mp h), hst, F, N, hj, ?_, ?_⟩
  · rintro i v m₁ news₁ s₁ own ⟨h, tk, rfl⟩ hin hP hJ hoff hown hget hall hst₁ F₁ N₁
    obtain ⟨o, ho⟩ := hob _ _ hst₁
    have hmem : (I, o) ∈ own := hall I (List.mem_singleton.mpr rfl) hI o ho
    have hown' : ∀ p ∈ own, p = (I, o) := fun p hp => by
      have h1 : p.1 = I := List.mem_singleton.mp (hown p hp)
      have h2 := hget p hp
      rw [h1] at h2
      exact Prod.ext h1 (Option.some.inj (h2.symm.trans ho))
    have N₂ : News h₀ env.locals h ((I, o) :: news₁) := fun p hp => (List.mem_cons.mp hp).elim (fun e => e ▸ N₁ _ (List.mem_append_left _ hmem)) fun hp => N₁ _ (List.mem_append_right _ hp)
    refine wpAny_mono (turn i v m₁ news₁ h tk o hin hP (fun p hp e => hoff p hp (List.mem_singleton.mpr e)) hJ F₁ N₂) (fun f s₂ q => ?_) fun _ _ e => e
    have fin : InvEndG h₀ env.locals (J (i + 1)) [(I, o)] { s₀ with heap := h, toks := tk } s₂ → LoopStepU h₀ env.locals [I] own (J (i + 1)) { s₀ with heap := h, toks := tk } .next s₂ := by
      rintro ⟨h', tk', m', news', nx, e, F', N', hn, ho', ha, hm⟩
      refine ⟨rfl, h', tk', m', nx, e, F', fun p hp => N' p ((List.mem_append.mp hp).elim (fun hq => ho' p (List.mem_singleton.mpr (hown' p hq))) (hn p)), fun p hp hq => ?_, hm⟩
      exact ha _ (List.mem_singleton.mpr rfl) p.1 (List.mem_map.mpr ⟨p, hp, rfl⟩) (List.mem_singleton.mp hq).symm
    cases f with
    | ret v => exact .ret q
    | brk => exact .brk q
    | next => exact .next (fin q)
    | cont => exact .cont (fin q)
  · rintro h' tk m' news' F' N' _ hJ
    exact done m' news' h' tk hJ F' N'

theorem iter_bytesG {s : Shared} {b : Array UInt8} {tb : Tok} {ks : List Int} {m₀ : Str → Option Value} {news : List (Addr × Obj)} (J : Nat → (Str → Option Value) → List (Addr × Obj) → Prop)
    (hk : KBw.bInts b = ks) (hh : A.handled = none) (F : Fr h₀ env.locals s.heap m₀) (N : News h₀ env.locals s.heap news) (hj : J 0 m₀ news)
    (turn : ∀ I i k t m₁ news₁ h tk o, ks[i]? = some k → 0 ≤ k → k < 256 → (∀ p ∈ news₁, p.1 ≠ I) → J i m₁ news₁ → Fr h₀ env.locals h (fun y => if y = x then some (.int k t) else m₁ y) → News h₀ env.locals h ((I, o) :: news₁) →
      wpAny (model prog w) A (execs body env) (InvPostG h₀ env.locals (J (i + 1)) [(I, o)] { s with heap := h, toks := tk } Q) E { s with heap := h, toks := tk })
    (done : ∀ m₁ news₁ h tk, J ks.length m₁ news₁ → Fr h₀ env.locals h m₁ → News h₀ env.locals h news₁ → Q .next { s with heap := h, toks := tk }) :
    wpAny (model prog w) A (pyIter (.bytes b tb)) (fun it s₂ => LoopAtV prog w A h₀ env x body Q E it s₂) E s := by
  subst hk
  refine KBw.pyIter_bytes ?_
  refine loop_G J (KBw.walks hh s.heap.objs.size b tb) (fun i h st => ⟨_, st.choose_spec.1⟩) (Nat.ne_of_lt F.ns.lt) (next_is_new F) (fun p hp => Nat.ne_of_lt (Heap.lt_size (N p hp).1)) ⟨_, Heap.get?_push_size _ rfl, rfl, rfl⟩ (F.push _) (fun p hp => ⟨Heap.get?_push_of_some _ (N p hp).1, (N p hp).2⟩) hj ?_ ?_
  · rintro i v m₁ news₁ h tk o hi ⟨c, u, hc, rfl⟩ hoff hJ F₁ N₁
    have e := KBw.ints_get hc
    have hb := KBw.ints_in (b := b) (List.mem_of_getElem? e)
    exact turn _ i _ u m₁ news₁ h tk o e hb.1 hb.2 hoff hJ F₁ N₁
  · intro m₁ news₁ h tk hJ F₁ N₁
    rw [← KBw.ints_length b] at hJ
    exact done m₁ news₁ h tk hJ F₁ N₁

theorem iter_rangeG {s : Shared} {r : Addr} {a c z : Int} {t₀ u₀ v₀ : Tok} {n : Nat} {m₀ : Str → Option Value} {news : List (Addr × Obj)} (J : Nat → (Str → Option Value) → List (Addr × Obj) → Prop)
    (hr : IsRange s.heap r a c z t₀ u₀ v₀) (hsmall : Builtin.Range.small a c z = true) (hn : Builtin.Range.rangeSize a c z = (n : Int)) (hh : A.handled = none) (F : Fr h₀ env.locals s.heap m₀) (N : News h₀ env.locals s.heap news) (hj : J 0 m₀ news)
    (turn : ∀ I i t m₁ news₁ h tk o, i < n → (∀ p ∈ news₁, p.1 ≠ I) → J i m₁ news₁ → Fr h₀ env.locals h (fun y => if y = x then some (.int (a + i * z) t) else m₁ y) → News h₀ env.locals h ((I, o) :: news₁) →
      wpAny (model prog w) A (execs body env) (InvPostG h₀ env.locals (J (i + 1)) [(I, o)] { s with heap := h, toks := tk } Q) E { s with heap := h, toks := tk })
    (done : ∀ m₁ news₁ h tk, J n m₁ news₁ → Fr h₀ env.locals h m₁ → News h₀ env.locals h news₁ → Q .next { s with heap := h, toks := tk }) :
    wpAny (model prog w) A (pyIter (.ref r)) (fun it s₂ => LoopAtV prog w A h₀ env x body Q E it s₂) E s := by
  refine wpAny_pyIter_range hr hsmall ?_
  refine loop_G J (Walks.range hh s.heap.objs.size a z n) (fun i h st => ⟨_, st⟩) (Nat.ne_of_lt F.ns.lt) (next_is_new F) (fun p hp => Nat.ne_of_lt (Heap.lt_size (N p hp).1)) (by show IsRangeIter _ _ _ _ _; rw [hn]; simpa using Heap.get?_push_size _ rfl) (F.push _) (fun p hp => ⟨Heap.get?_push_of_some _ (N p hp).1, (N p hp).2⟩) hj ?_ ?_
  · rintro i v m₁ news₁ h tk o hi ⟨t, rfl⟩ hoff hJ F₁ N₁
    exact turn _ i t m₁ news₁ h tk o hi hoff hJ F₁ N₁
  · intro m₁ news₁ h tk hJ F₁ N₁
    exact done m₁ news₁ h tk hJ F₁ N₁
end


-- pack
theorem rows_pack : True := by
  w_top off
  k_with_none
  k_with "kba_ints2" => first | kba_ints | (apply ints_lit; (simp only [List.map_cons, List.map_nil, UInt8.reduceToNat, Int.cast_ofNat_Int]); (try exact rfl))
  k_with "compareOp Eq bytes bytes" => (k_here; (with_reducible show wpAny _ _ (compareOp CmpOp.Eq (Value.bytes _ _) (Value.bytes _ _)) _ _ _); (first | refine eq_ints_T (by kba_ints2) (by kba_ints2) (by assumption) ?_ | refine eq_ints_F (by kba_ints2) (by kba_ints2) (by assumption) ?_ | refine eq_ints (by kba_ints2) (by kba_ints2) ?_))
  k_with "compareOp NotEq bytes bytes" => (k_here; (with_reducible show wpAny _ _ (compareOp CmpOp.NotEq (Value.bytes _ _) (Value.bytes _ _)) _ _ _); (refine ne_ints (by kba_ints2) (by kba_ints2) ?_))
  k_with "compareOp NotIn bytes ref" => (k_here; (with_reducible show wpAny _ _ (compareOp CmpOp.NotIn (Value.bytes _ _) (Value.ref _)) _ _ _); (refine notIn_two (by k_asm) (by k_mem) (by kba_ints2) (by kba_ints2) (by kba_ints2) ?_))
  k_with "subscriptTail" => (k_here; (with_reducible show wpAny _ _ (subscriptTail _ (Expr.Slice _ _ none _) (Value.bytes _ _) (Value.ref _)) _ _ _); (with_reducible rename Fr _ _ _ _ => F'); (with_reducible rename News _ _ _ _ => N'); (refine slice_C (s := ⟨_, _, _, _, _⟩) F' N' (by kba_ints2) (by constructor) (by constructor) (by kba_size) (by intro i hi; simp at hi; try (subst hi; omega)) (by intro i hi; simp at hi; try (subst hi; omega)) (by first | exact cut_z3 | exact cut_z2 | exact cut_z | exact cut_mid3 (by omega) | exact cut_mid2 (by omega) | exact cut_lit3 | exact cut_lit2 | exact cut_lit3' | exact cut_lit2' | exact cut_two | exact cut_tail | exact cut_head') ?_); intro _ _ _ _ _ _ kbcK; (try simp only [Int.toNat_zero, Int.toNat_ofNat, List.drop_zero] at kbcK))
  k_with "ktr_room" => first | exact room9 (by assumption) rfl | exact Nat.lt_of_le_of_lt (Nat.le_add_right _ _) (by assumption)
  k_with "ktr_units" => exact units9 (by assumption) rfl
  k_with "getMethod bytes" => (k_here; first | refine meth_starts ?_ | refine meth_split ?_ | refine meth_join ?_)
  k_with "call builtin:bytes.startswith" => (k_here; first | refine call_starts_T (by kba_ints2) (by kba_ints2) (by assumption) ?_ | refine call_starts_F (by kba_ints2) (by kba_ints2) (by assumption) ?_ | refine call_starts_I (by kba_ints2) (by kba_ints2) ?_)
  k_with "CompEnd" => (refine LCg.CompEnd.intro (by assumption) (by assumption) _ (fun _ h => h) (by assumption) (by exact Or.inr ⟨_, by k_mem, rfl, _, rfl⟩) ?_)
  k_with "call type:bytes" => (k_here; (with_reducible show wpAny _ _ (call (Value.type "bytes") [Value.ref _]) _ _ _); (refine' KBa.make_K ?kbaF ?kbaN ?kbah ?kbal ?kbai ?kbar ?kban ?_; (case kbaF => k_asm); (case kbaN => k_asm); (case kbah => rfl); (case kbal => kba_isList); (case kbai => kba_listInts); (case kbar => (repeat' (first | exact List.forall_mem_nil _ | (refine List.forall_mem_cons.mpr ⟨⟨?_, ?_⟩, ?_⟩) | omega | (simp only [fd10, fm10]; omega)))); (case kban => kba_size)); intro _ _ _ F' N' kbaIn; (have kbaM := KBa.ints_make kbaIn))
  k_with "cell_enter" => (refine' code_defC ?k1 ?k2 ?k3 ?k4 ?k5 ?kA ?kF ?kK ?k6 ?k7 ?k8 ?k9 ?kB ?kD ?_ ?c2 ?c3 ?c4; (case kA => exact rfl); (case kF => exact rfl); (case kK => first | exact rfl | assumption); (case k1 => k_asm); (case k2 => k_asm); (case k3 => k_asm); (case k4 => k_asm); (case k5 => k_asm); (case k6 => k_is); (case k7 => k_is); (case k8 => ktr_room); (case k9 => first | exact BindsTo.of_eq rfl | exact binds_K (by k_in) rfl (by k_is) rfl rfl rfl); (case kB => exact rfl); (case kD => decide +kernel); (case c2 => exact rfl); (case c3 => exact rfl); (case c4 => exact rfl); k_whole; intro g' L' h' tk' cells' FG' F' N' Y' B' X' T' l1; (try k_lt l1); k_cells Y'; (try simp only [List.cons_append, List.nil_append] at N'); (try dsimp only); (try k_lift B'); (try k_fold))
  k_with "call builtin:bytes.join" => (k_here; refine call_join_I (by k_asm) (by k_mem) rfl rfl (by kba_ints2) (by kba_ints2) (by kba_ints2) (by kba_ints2) (by first | assumption | decide) (by first | assumption | decide) (by first | assumption | decide) (by first | assumption | decide) ?_; intro _ _ _ kbJ; (try simp only [List.append_nil] at kbJ))
  k_with "units_room" => exact room_deep (by omega)
  k_with "cell_enter" => (refine' code_def ?k1 ?k2 ?k3 ?k4 ?k5 ?kA ?kF ?kK ?k6 ?k7 ?k8 ?k9 ?kB ?_ ?c2 ?c3 ?c4 ?c5; (case kA => exact rfl); (case kF => exact rfl); (case kK => first | exact rfl | assumption); (case k1 => k_asm); (case k2 => k_asm); (case k3 => k_asm); (case k4 => k_asm); (case k5 => k_asm); (case k6 => k_is); (case k7 => k_is); (case k8 => ktr_room); (case k9 => exact binds_K (by k_in) rfl (by k_is) rfl rfl rfl); (case c5 => decide); (case kB => exact locs rfl); (case c2 => exact rfl); (case c3 => exact rfl); (case c4 => exact rfl); k_whole; intro g' L' h' FG' F' N' B' X' T'; (try dsimp only); (try k_fold))
  k_with "con" => (k_here; (with_reducible show wpAny _ _ (call (Value.ref 59) [Value.ref _, Value.str _ _]) _ _ _); k_dflt (
    refine' Con.useV ?cC ?cB ?cF ?cX ?cN ?cT ?cK ?cD ?cU ?_
    (case cB => k_asm); (case cF => k_asm); (case cX => k_asm); (case cN => k_asm); (case cT => k_asm); (case cK => first | exact rfl | assumption | with_unfolding_all rfl)
    (case cC => (refine' Con.dup (os := [_, _, _]) (mem3 ?m1 ?m2 ?m3) (con_is_on _ _ _ _ _ _ _ _ _ _ _ _ ?s1 ?s2 ?s3 _); (case m1 => k_mem); (case m2 => k_mem); (case m3 => k_mem); (case s1 => assumption); (case s2 => assumption); (case s3 => assumption)))
    (case cD => ktr_room); (case cU => ktr_units)
    (intro t9 h' tk' F' N'; (try dsimp only); (try k_fold))))
  k_with "con" => (k_here; (with_reducible show wpAny _ _ (call (Value.ref 105) [Value.str _ _, Value.int _ _, Value.int _ _, Value.int _ _, Value.int _ _]) _ _ _); k_dflt (
    refine Con.useE (con_ev _ _ _ _ _ _ _ _ _ _ _ _) (by k_asm) (by k_asm) (by k_asm) (by k_asm) (by k_asm) (by first | exact rfl | assumption) (by ktr_room) (by ktr_units) (fun e9 => nomatch e9) ?_
    (intro k9 bt9 r9 c9 md9 x9 d9 t0 t1 t2 t3 t4 t5 t6 t7 t8 t9 h' tk' hO9 l9 l8 F' N'; cases hO9; (try k_lt l9); (try k_lt2 l8); (try dsimp only); (try k_fold))))
  k_with "con" => (k_here; (with_reducible show wpAny _ _ (call (Value.ref 238) [Value.ref _]) _ _ _); k_dflt (
    refine' Con.useE ?cC ?cB ?cF ?cX ?cN ?cT ?cK ?cD ?cU ?cZ ?_
    (case cB => k_asm); (case cF => k_asm); (case cX => k_asm); (case cN => k_asm); (case cT => k_asm); (case cK => first | exact rfl | assumption | with_unfolding_all rfl)
    (case cC => (refine' Con.dupE (os := [_]) (mem1 ?m1) (con_lev _ _ _ _ _ _ _ _ _ _ _ _ _); (case m1 => k_mem); skip))
    (case cD => ktr_room); (case cU => ktr_units)
    (case cZ => exact fun e9 => nomatch e9)
    (intro k9 bt9 r9 c9 md9 x9 d9 t0 t1 t2 t3 t4 t5 t6 t7 t8 t9 h' tk' hO9 l9 l8 F' N'; cases hO9; (try k_lt l9); (try k_lt2 l8); (try dsimp only); (try k_fold))))
  k_with "con" => (k_here; (with_reducible show wpAny _ _ (call (Value.ref 245) [Value.ref _]) _ _ _); k_dflt (
    refine' Con.useT ?cC ?cB ?cF ?cX ?cN ?cT ?cK ?cD ?cU ?_
    (case cB => k_asm); (case cF => k_asm); (case cX => k_asm); (case cN => k_asm); (case cT => k_asm); (case cK => first | exact rfl | assumption | with_unfolding_all rfl)
    (case cC => (refine' Con.dupT (os := [_, _]) (mem2 ?m1 ?m2) (con_ltold _ _ _ _ _ _ _ _ _ _ _ _ _ _ _ _ _ _  _); (case m1 => k_mem); (case m2 => k_mem); skip))
    (case cD => ktr_room); (case cU => ktr_units)
    (intro T9 t0 t1 t2 t3 t4 h' tk' l9 F' N'; (try k_lt l9); (try dsimp only); (try k_fold))))
  k_with "con" => (k_here; (with_reducible show wpAny _ _ (call (Value.ref 116) [Value.ref _, Value.ref _]) _ _ _); k_dflt (
    refine' Con.useV ?cC ?cB ?cF ?cX ?cN ?cT ?cK ?cD ?cU ?_
    (case cB => k_asm); (case cF => k_asm); (case cX => k_asm); (case cN => k_asm); (case cT => k_asm); (case cK => first | exact rfl | assumption | with_unfolding_all rfl)
    (case cC => (refine' Con.dup (os := [_, _, _, _]) (mem4 ?m1 ?m2 ?m3 ?m4) (con_same _ _ _ _ _ _ _ _ _ _ _ _ _ _ _ _ _ _ _ _ _ _ _ _ _  _ _ _ _ _ _ _ _ _ _  _); (case m1 => k_mem); (case m2 => k_mem); (case m3 => k_mem); (case m4 => k_mem); skip))
    (case cD => ktr_room); (case cU => ktr_units)
    (intro t9 h' tk' F' N'; (try dsimp only); (try k_fold))))
  trivial
-- an event as two objects, closed
noncomputable def EvPack (w : World) (e : Ev) (x : Addr) (p1 p2 : Addr × Obj) : Prop := ∃ d t0 t1 t2 t3 t4 t5 t6 t7 t8 t9, p1 = (x, instObj 105 d) ∧ p2 = (d, dictOf [⟨PyData.keyHash w.params (Str.ofString "kind"), .str (Str.ofString "kind") t0, .str e.k t1⟩, ⟨PyData.keyHash w.params (Str.ofString "button"), .str (Str.ofString "button") t2, .int e.bt t3⟩, ⟨PyData.keyHash w.params (Str.ofString "row"), .str (Str.ofString "row") t4, .int e.r t5⟩, ⟨PyData.keyHash w.params (Str.ofString "column"), .str (Str.ofString "column") t6, .int e.c t7⟩, ⟨PyData.keyHash w.params (Str.ofString "modifiers"), .str (Str.ofString "modifiers") t8, .int e.md t9⟩] 5)
section
variable {need : Nat} {f : Addr} {vs : List Value} {news : List (Addr × Obj)}
    {w : World} {p : Program} {loose : List Str} {mean : ExcName → Option Value} {mg mb : Str → Option Value} {dp un : Nat} {gd : Option (List Code)} {cn : Str} {cs : Scope} {a : Addr} {ccd : Value} {cl : List (Str × Addr)} {outer : List Env} {A₀ : Around} {base h₀ : Heap} {L : Addr} {m : Str → Option Value} {s : Shared}
    {Q E : Value → Shared → Prop}
theorem Con.useEo {e : Ev} (C : Con w need f vs news (EvR w (some e) news))
    (B : Below A₀ base outer h₀) (F : Fr h₀ L s.heap m) (X : (hd.heap_1 w.params).In h₀) (N : News h₀ L s.heap news) (T : Top p loose mean mg mb h₀) (hk : cs.kind = .function) (hd : dp + need < recursionLimit) (hu : un + 8 * need < cLine)
    (hs : ∀ x p1 p2 h' tk', EvPack w e x p1 p2 → (∀ p ∈ news, p.1 < p2.1) → @LT.lt Nat _ p2.1 p1.1 → Fr h₀ L h' m → News h₀ L h' (p1 :: p2 :: news) → Q (.ref x) { s with heap := h', toks := tk' }) :
    wpAny (model P0 w) (ktrTop dp un gd cn cs L a ccd cl outer) (call (.ref f) vs) Q E s := by
  refine Con.use C B F X N T hk hd hu fun r tl h' tk' F' N' hR => ?_
  obtain ⟨x, d, t0, t1, t2, t3, t4, t5, t6, t7, t8, t9, rfl, rfl, l1, l2⟩ := hR
  exact hs x _ _ h' tk' ⟨d, t0, t1, t2, t3, t4, t5, t6, t7, t8, t9, rfl, rfl⟩ l1 l2 F' N'
theorem Con.useFsP {k : Str} {bt r c md n : Int} {o : Option (Ev × Int)} (C : Con w need f vs news (EPairR w o news)) (ho : o = some (⟨k, bt, r, c, md⟩, n))
    (B : Below A₀ base outer h₀) (F : Fr h₀ L s.heap m) (X : (hd.heap_1 w.params).In h₀) (N : News h₀ L s.heap news) (T : Top p loose mean mg mb h₀) (hk : cs.kind = .function) (hd : dp + need < recursionLimit) (hu : un + 8 * need < cLine)
    (hs : ∀ D x p1 p2 t h' tk', EvPack w ⟨k, bt, r, c, md⟩ x p1 p2 → (∀ p ∈ news, p.1 < p2.1) → @LT.lt Nat _ p2.1 p1.1 → @LT.lt Nat _ p1.1 D → Fr h₀ L h' m → News h₀ L h' ((D, { cls := .type "tuple", data := .seq #[.ref x, .int n t] }) :: p1 :: p2 :: news) → Q (.ref D) { s with heap := h', toks := tk' }) :
    wpAny (model P0 w) (ktrTop dp un gd cn cs L a ccd cl outer) (call (.ref f) vs) Q E s := by
  subst ho
  refine Con.use C B F X N T hk hd hu fun r tl h' tk' F' N' hR => ?_
  obtain ⟨D, x, d, t, t0, t1, t2, t3, t4, t5, t6, t7, t8, t9, rfl, rfl, l1, l2, l3⟩ := hR
  exact hs D x _ _ t h' tk' ⟨d, t0, t1, t2, t3, t4, t5, t6, t7, t8, t9, rfl, rfl⟩ l1 l2 l3 F' N'
end
theorem con_sameP (w : World) (e g : Ev) (x y : Addr) (p1 p2 q1 q2 : Addr × Obj) (hp : EvPack w e x p1 p2) (hq : EvPack w g y q1 q2) (news) : Con w 4 116 [.ref x, .ref y] (p1 :: p2 :: q1 :: q2 :: news) (ValR fun _ => .bool (sameB e g)) := by
  obtain ⟨d, t0, t1, t2, t3, t4, t5, t6, t7, t8, t9, rfl, rfl⟩ := hp
  obtain ⟨f, u0, u1, u2, u3, u4, u5, u6, u7, u8, u9, rfl, rfl⟩ := hq
  exact con_same w x d y f e.k g.k e.bt e.r e.c e.md g.bt g.r g.c g.md t0 t1 t2 t3 t4 t5 t6 t7 t8 t9 u0 u1 u2 u3 u4 u5 u6 u7 u8 u9 news
theorem con_ltoldP (w : World) (e : Ev) (x : Addr) (p1 p2 : Addr × Obj) (hp : EvPack w e x p1 p2) (news) : Con w 3 245 [.ref x] (p1 :: p2 :: news) (PartsR e (p1 :: p2 :: news)) := by
  obtain ⟨d, t0, t1, t2, t3, t4, t5, t6, t7, t8, t9, rfl, rfl⟩ := hp
  exact con_ltold w x d e.k e.bt e.r e.c e.md t0 t1 t2 t3 t4 t5 t6 t7 t8 t9 news
set_option maxRecDepth 100000 in
set_option maxHeartbeats 8000000 in
theorem con_levL (w : World) (T : Addr) (k : Str) (bt r c md : Int) (t0 t1 t2 t3 t4 : Tok) (kk : Nat) (news) :
   Con w 6 238 [.ref T] ((T, listOf #[.str k t0, .int bt t1, .int r t2, .int c t3, .int md t4] kk) :: news) (EvR w (some ⟨k, bt, r, c, md⟩) ((T, listOf #[.str k t0, .int bt t1, .int r t2, .int c t3, .int md t4] kk) :: news)) := by
  unfold Con
  intro p loose mean mg mb dp un gd cn cs a ccd cl outer A₀ base h₀ L m s Q E B F X N T' hk hd hu hret
  obtain ⟨sh, sg, sd, st', so⟩ := s
  refine wpAny_call ?_
  k_dflt cell_enter
  k_steps
  all_goals refine hret _ [_, _] _ _ (by assumption) (by first | assumption | exact cb_drop (by assumption) (by first | exact fun _ h => .tail _ (h) | exact fun _ h => .tail _ (.tail _ (h)) | exact fun _ h => .tail _ (.tail _ (.tail _ (h))) | exact fun _ h => .tail _ (.tail _ (.tail _ (.tail _ (h)))) | exact fun _ h => .tail _ (.tail _ (.tail _ (.tail _ (.tail _ (h))))) | exact fun _ h => .tail _ (.tail _ (.tail _ (.tail _ (.tail _ (.tail _ (h)))))) | exact fun _ h => .tail _ (.tail _ (.tail _ (.tail _ (.tail _ (.tail _ (.tail _ (h))))))) | exact fun _ h => .tail _ (.tail _ (.tail _ (.tail _ (.tail _ (.tail _ (.tail _ (.tail _ (h)))))))))) (EvR.some rfl (by first | assumption | exact ltAll (by assumption) | exact ltAll (And.right (by assumption))) (by first | assumption | exact And.left (by assumption)))


-- listed
theorem rows_listed : True := by
  w_top off
  k_with_none
  k_with "kba_ints2" => first | kba_ints | (apply ints_lit; (simp only [List.map_cons, List.map_nil, UInt8.reduceToNat, Int.cast_ofNat_Int]); (try exact rfl))
  k_with "compareOp Eq bytes bytes" => (k_here; (with_reducible show wpAny _ _ (compareOp CmpOp.Eq (Value.bytes _ _) (Value.bytes _ _)) _ _ _); (first | refine eq_ints_T (by kba_ints2) (by kba_ints2) (by assumption) ?_ | refine eq_ints_F (by kba_ints2) (by kba_ints2) (by assumption) ?_ | refine eq_ints (by kba_ints2) (by kba_ints2) ?_))
  k_with "compareOp NotEq bytes bytes" => (k_here; (with_reducible show wpAny _ _ (compareOp CmpOp.NotEq (Value.bytes _ _) (Value.bytes _ _)) _ _ _); (refine ne_ints (by kba_ints2) (by kba_ints2) ?_))
  k_with "compareOp NotIn bytes ref" => (k_here; (with_reducible show wpAny _ _ (compareOp CmpOp.NotIn (Value.bytes _ _) (Value.ref _)) _ _ _); (refine notIn_two (by k_asm) (by k_mem) (by kba_ints2) (by kba_ints2) (by kba_ints2) ?_))
  k_with "subscriptTail" => (k_here; (with_reducible show wpAny _ _ (subscriptTail _ (Expr.Slice _ _ none _) (Value.bytes _ _) (Value.ref _)) _ _ _); (with_reducible rename Fr _ _ _ _ => F'); (with_reducible rename News _ _ _ _ => N'); (refine slice_C (s := ⟨_, _, _, _, _⟩) F' N' (by kba_ints2) (by constructor) (by constructor) (by kba_size) (by intro i hi; simp at hi; try (subst hi; omega)) (by intro i hi; simp at hi; try (subst hi; omega)) (by first | exact cut_z3 | exact cut_z2 | exact cut_z | exact cut_mid3 (by omega) | exact cut_mid2 (by omega) | exact cut_lit3 | exact cut_lit2 | exact cut_lit3' | exact cut_lit2' | exact cut_two | exact cut_tail | exact cut_head') ?_); intro _ _ _ _ _ _ kbcK; (try simp only [Int.toNat_zero, Int.toNat_ofNat, List.drop_zero] at kbcK))
  k_with "ktr_room" => first | exact room9 (by assumption) rfl | exact Nat.lt_of_le_of_lt (Nat.le_add_right _ _) (by assumption)
  k_with "ktr_units" => exact units9 (by assumption) rfl
  k_with "getMethod bytes" => (k_here; first | refine meth_starts ?_ | refine meth_split ?_ | refine meth_join ?_)
  k_with "call builtin:bytes.startswith" => (k_here; first | refine call_starts_T (by kba_ints2) (by kba_ints2) (by assumption) ?_ | refine call_starts_F (by kba_ints2) (by kba_ints2) (by assumption) ?_ | refine call_starts_I (by kba_ints2) (by kba_ints2) ?_)
  k_with "CompEnd" => (refine LCg.CompEnd.intro (by assumption) (by assumption) _ (fun _ h => h) (by assumption) (by exact Or.inr ⟨_, by k_mem, rfl, _, rfl⟩) ?_)
  k_with "call type:bytes" => (k_here; (with_reducible show wpAny _ _ (call (Value.type "bytes") [Value.ref _]) _ _ _); (refine' KBa.make_K ?kbaF ?kbaN ?kbah ?kbal ?kbai ?kbar ?kban ?_; (case kbaF => k_asm); (case kbaN => k_asm); (case kbah => rfl); (case kbal => kba_isList); (case kbai => kba_listInts); (case kbar => (repeat' (first | exact List.forall_mem_nil _ | (refine List.forall_mem_cons.mpr ⟨⟨?_, ?_⟩, ?_⟩) | omega | (simp only [fd10, fm10]; omega)))); (case kban => kba_size)); intro _ _ _ F' N' kbaIn; (have kbaM := KBa.ints_make kbaIn))
  k_with "cell_enter" => (refine' code_defC ?k1 ?k2 ?k3 ?k4 ?k5 ?kA ?kF ?kK ?k6 ?k7 ?k8 ?k9 ?kB ?kD ?_ ?c2 ?c3 ?c4; (case kA => exact rfl); (case kF => exact rfl); (case kK => first | exact rfl | assumption); (case k1 => k_asm); (case k2 => k_asm); (case k3 => k_asm); (case k4 => k_asm); (case k5 => k_asm); (case k6 => k_is); (case k7 => k_is); (case k8 => ktr_room); (case k9 => first | exact BindsTo.of_eq rfl | exact binds_K (by k_in) rfl (by k_is) rfl rfl rfl); (case kB => exact rfl); (case kD => decide +kernel); (case c2 => exact rfl); (case c3 => exact rfl); (case c4 => exact rfl); k_whole; intro g' L' h' tk' cells' FG' F' N' Y' B' X' T' l1; (try k_lt l1); k_cells Y'; (try simp only [List.cons_append, List.nil_append] at N'); (try dsimp only); (try k_lift B'); (try k_fold))
  k_with "call builtin:bytes.join" => (k_here; refine call_join_I (by k_asm) (by k_mem) rfl rfl (by kba_ints2) (by kba_ints2) (by kba_ints2) (by kba_ints2) (by first | assumption | decide) (by first | assumption | decide) (by first | assumption | decide) (by first | assumption | decide) ?_; intro _ _ _ kbJ; (try simp only [List.append_nil] at kbJ))
  k_with "units_room" => exact room_deep (by omega)
  k_with "cell_enter" => (refine' code_def ?k1 ?k2 ?k3 ?k4 ?k5 ?kA ?kF ?kK ?k6 ?k7 ?k8 ?k9 ?kB ?_ ?c2 ?c3 ?c4 ?c5; (case kA => exact rfl); (case kF => exact rfl); (case kK => first | exact rfl | assumption); (case k1 => k_asm); (case k2 => k_asm); (case k3 => k_asm); (case k4 => k_asm); (case k5 => k_asm); (case k6 => k_is); (case k7 => k_is); (case k8 => ktr_room); (case k9 => exact binds_K (by k_in) rfl (by k_is) rfl rfl rfl); (case c5 => decide); (case kB => exact locs rfl); (case c2 => exact rfl); (case c3 => exact rfl); (case c4 => exact rfl); k_whole; intro g' L' h' FG' F' N' B' X' T'; (try dsimp only); (try k_fold))
  k_with "con" => (k_here; (with_reducible show wpAny _ _ (call (Value.ref 183) [Value.bytes _ _, Value.int _ _, Value.bool _]) _ _ _); k_dflt (
    refine Con.useP (con_code_at _ _ _ _ _ _ _ (by kba_ints2) (by first | assumption | omega | (simp; omega)) (by first | assumption | omega | (simp; omega)) _) (by k_asm) (by k_asm) (by k_asm) (by k_asm) (by k_asm) (by first | exact rfl | assumption) (by ktr_room) (by ktr_units) ?_ ?_
    (rotate_left; (intro v9 n9 D9 t9 t8 h' tk' hO9 l9 F' N'; (try k_lt l9); (try have f9 := code8_bd (by assumption) (by first | assumption | omega) hO9); (try dsimp only); (try k_fold)); rotate_left; (intro hO9 h' tk' F' N'; (try dsimp only); (try k_fold)))))
  k_with "con" => (k_here; (with_reducible show wpAny _ _ (call (Value.ref 137) [Value.int _ _]) _ _ _); k_dflt (
    refine Con.useI (con_button _ _ _ (by first | assumption | omega | (simp; omega)) (by first | assumption | omega | (simp; omega)) _) (by k_asm) (by k_asm) (by k_asm) (by k_asm) (by k_asm) (by first | exact rfl | assumption) (by ktr_room) (by ktr_units) ?_ ?_
    (rotate_left; (intro v9 t9 h' tk' hO9 F' N'; (try dsimp only); (try k_fold)); rotate_left; (intro hO9 h' tk' F' N'; (try dsimp only); (try k_fold)))))
  k_with "con" => (k_here; (with_reducible show wpAny _ _ (call (Value.ref 105) [Value.str _ _, Value.int _ _, Value.int _ _, Value.int _ _, Value.int _ _]) _ _ _); k_dflt (
    refine Con.useE (con_ev _ _ _ _ _ _ _ _ _ _ _ _) (by k_asm) (by k_asm) (by k_asm) (by k_asm) (by k_asm) (by first | exact rfl | assumption) (by ktr_room) (by ktr_units) (fun e9 => nomatch e9) ?_
    (intro k9 bt9 r9 c9 md9 x9 d9 t0 t1 t2 t3 t4 t5 t6 t7 t8 t9 h' tk' hO9 l9 l8 F' N'; cases hO9; (try k_lt l9); (try k_lt2 l8); (try dsimp only); (try k_fold))))
  k_with "con" => (k_here; (with_reducible show wpAny _ _ (call (Value.ref 176) [Value.int _ _, Value.int _ _, Value.int _ _, Value.none, Value.int _ _, Value.int _ _]) _ _ _); k_dflt (
    refine Con.useE (con_event_of _ _ _ (by first | assumption | omega | (simp; omega)) (by first | assumption | omega | (simp; omega)) _ _ _ _ _ _ _) (by k_asm) (by k_asm) (by k_asm) (by k_asm) (by k_asm) (by first | exact rfl | assumption) (by ktr_room) (by ktr_units) ?_ ?_
    (rotate_left; (intro k9 bt9 r9 c9 md9 x9 d9 t0 t1 t2 t3 t4 t5 t6 t7 t8 t9 h' tk' hO9 l9 l8 F' N'; (try k_lt l9); (try k_lt2 l8); (try dsimp only); (try k_fold)); rotate_left; (intro hO9 h' tk' F' N'; (try dsimp only); (try k_fold)))))
  k_with "con" => (k_here; (with_reducible show wpAny _ _ (call (Value.ref 176) [Value.int _ _, Value.int _ _, Value.int _ _, Value.bool _, Value.int _ _, Value.int _ _]) _ _ _); k_dflt (
    refine Con.useE (con_event_ofB _ _ _ (by first | assumption | omega | (simp; omega)) (by first | assumption | omega | (simp; omega)) _ _ _ _ _ _ _ _) (by k_asm) (by k_asm) (by k_asm) (by k_asm) (by k_asm) (by first | exact rfl | assumption) (by ktr_room) (by ktr_units) ?_ ?_
    (rotate_left; (intro k9 bt9 r9 c9 md9 x9 d9 t0 t1 t2 t3 t4 t5 t6 t7 t8 t9 h' tk' hO9 l9 l8 F' N'; (try k_lt l9); (try k_lt2 l8); (try dsimp only); (try k_fold)); rotate_left; (intro hO9 h' tk' F' N'; (try dsimp only); (try k_fold)))))
  k_with "con" => (k_here; (with_reducible show wpAny _ _ (call (Value.ref 190) [Value.bytes _ _, Value.int _ _, Value.bool _]) _ _ _); k_dflt (
    refine Con.useF (con_read_plain _ _ _ _ _ _ _ (by kba_ints2) (by first | assumption | omega | (simp; omega)) (by first | assumption | omega | (simp; omega)) _) (by k_asm) (by k_asm) (by k_asm) (by k_asm) (by k_asm) (by first | exact rfl | assumption) (by ktr_room) (by ktr_units) ?_ ?_
    (rotate_left; (intro k9 bt9 r9 c9 md9 n9 D9 x9 d9 t9 t0 t1 t2 t3 t4 t5 t6 t7 t8 t9 h' tk' hO9 l9 l8 l7 F' N'; (try k_lt l9); (try k_lt2 l8); (try k_lt2 l7); (try dsimp only); (try k_fold)); rotate_left; (intro hO9 h' tk' F' N'; (try dsimp only); (try k_fold)))))
  k_with "con" => (k_here; (with_reducible show wpAny _ _ (call (Value.ref 28) [Value.bytes _ _]) _ _ _); k_dflt (
    refine Con.useI (con_number_of _ _ _ _ (by kba_ints2) (by first | assumption | omega | (simp; omega)) _) (by k_asm) (by k_asm) (by k_asm) (by k_asm) (by k_asm) (by first | exact rfl | assumption) (by ktr_room) (by ktr_units) ?_ ?_
    (rotate_left; (intro v9 t9 h' tk' hO9 F' N'; (try dsimp only); (try k_fold)); rotate_left; (intro hO9 h' tk' F' N'; (try dsimp only); (try k_fold)))))
  k_with "con" => (k_here; (with_reducible show wpAny _ _ (call (Value.ref 28) [Value.bytes _ _]) _ _ _); k_dflt (
    refine Con.useIs (con_number_of _ _ _ _ (by kba_ints2) (by first | assumption | omega | (simp; omega)) _) (by assumption) (by k_asm) (by k_asm) (by k_asm) (by k_asm) (by k_asm) (by first | exact rfl | assumption) (by ktr_room) (by ktr_units) ?_
    (intro t9 h' tk' F' N'; (try dsimp only); (try k_fold))))
  k_with "con" => (k_here; (with_reducible show wpAny _ _ (call (Value.ref 216) [Value.bytes _ _]) _ _ _); k_dflt (
    refine Con.useV (con_are_dec _ _ _ _ (by kba_ints2) (by first | assumption | omega | (simp; omega)) _) (by k_asm) (by k_asm) (by k_asm) (by k_asm) (by k_asm) (by first | exact rfl | assumption) (by ktr_room) (by ktr_units) ?_
    (intro t9 h' tk' F' N'; (try dsimp only); (try k_fold))))
  k_with "con" => (k_here; (with_reducible show wpAny _ _ (call (Value.ref 195) [Value.bytes _ _, Value.int _ _]) _ _ _); k_dflt (
    refine Con.useD (con_dec_at _ _ _ _ _ _ (by kba_ints2) (by first | assumption | omega | (simp; omega)) (by first | assumption | omega | (simp; omega)) (by first | assumption | omega | (simp; omega)) (by assumption) _) (by k_asm) (by k_asm) (by k_asm) (by k_asm) (by k_asm) (by first | exact rfl | assumption) (by ktr_room) (by ktr_units) ?_ ?_
    (rotate_left; (intro a9 b9 c9 t9 n9 T9 D9 t0 t1 t2 t3 t4 k9 h' tk' hO9 l9 l8 F' N'; (try k_lt l9); (try k_lt2 l8); (try have f9 := decAt_bd (by assumption) hO9); (try dsimp only); (try k_fold)); rotate_left; (intro hO9 h' tk' F' N'; (try dsimp only); (try k_fold)))))
  k_with "con" => (k_here; (with_reducible show wpAny _ _ (call (Value.ref 203) [Value.bytes _ _, Value.int _ _, Value.bool _]) _ _ _); k_dflt (
    refine Con.useFs (con_read_mouse _ _ _ _ _ _ (by kba_ints2) (by assumption) _) (by assumption) (by k_asm) (by k_asm) (by k_asm) (by k_asm) (by k_asm) (by first | exact rfl | assumption) (by ktr_room) (by ktr_units) ?_
    (intro D9 x9 d9 t9 t0 t1 t2 t3 t4 t5 t6 t7 t8 t8' h' tk' l9 l8 l7 F' N'; (try k_lt l9); (try k_lt2 l8); (try k_lt2 l7); (try dsimp only); (try k_fold))))
  k_with "con" => (k_here; (with_reducible show wpAny _ _ (call (Value.ref 203) [Value.bytes _ _, Value.int _ _, Value.bool _]) _ _ _); k_dflt (
    refine Con.useFn (con_read_mouse _ _ _ _ _ _ (by kba_ints2) (by assumption) _) (by assumption) (by k_asm) (by k_asm) (by k_asm) (by k_asm) (by k_asm) (by first | exact rfl | assumption) (by ktr_room) (by ktr_units) ?_
    (intro h' tk' F' N'; (try dsimp only); (try k_fold))))
  k_with "con" => (k_here; (with_reducible show wpAny _ _ (call (Value.ref 224) [Value.bytes _ _]) _ _ _); k_dflt (
    refine Con.useKs (con_read_focus _ _ _ _ (by kba_ints2) (by first | assumption | omega | (simp; omega)) _) (by assumption) (by k_asm) (by k_asm) (by k_asm) (by k_asm) (by k_asm) (by first | exact rfl | assumption) (by ktr_room) (by ktr_units) ?_
    (intro D9 t9 h' tk' l9 F' N'; (try k_lt l9); (try dsimp only); (try k_fold))))
  k_with "con" => (k_here; (with_reducible show wpAny _ _ (call (Value.ref 224) [Value.bytes _ _]) _ _ _); k_dflt (
    refine Con.useKn (con_read_focus _ _ _ _ (by kba_ints2) (by first | assumption | omega | (simp; omega)) _) (by assumption) (by k_asm) (by k_asm) (by k_asm) (by k_asm) (by k_asm) (by first | exact rfl | assumption) (by ktr_room) (by ktr_units) ?_
    (intro h' tk' F' N'; (try dsimp only); (try k_fold))))
  k_with "con" => (k_here; (with_reducible show wpAny _ _ (call (Value.ref 224) [Value.bytes _ _, Value.int _ _]) _ _ _); k_dflt (
    refine Con.useKs (con_read_focusAt _ _ _ _ _ _ (by kba_ints2) (by first | assumption | omega | (simp; omega)) (by first | assumption | omega | (simp; omega)) (by first | assumption | omega | (simp; omega)) _) (by assumption) (by k_asm) (by k_asm) (by k_asm) (by k_asm) (by k_asm) (by first | exact rfl | assumption) (by ktr_room) (by ktr_units) ?_
    (intro D9 t9 h' tk' l9 F' N'; (try k_lt l9); (try dsimp only); (try k_fold))))
  k_with "con" => (k_here; (with_reducible show wpAny _ _ (call (Value.ref 224) [Value.bytes _ _, Value.int _ _]) _ _ _); k_dflt (
    refine Con.useKn (con_read_focusAt _ _ _ _ _ _ (by kba_ints2) (by first | assumption | omega | (simp; omega)) (by first | assumption | omega | (simp; omega)) (by first | assumption | omega | (simp; omega)) _) (by assumption) (by k_asm) (by k_asm) (by k_asm) (by k_asm) (by k_asm) (by first | exact rfl | assumption) (by ktr_room) (by ktr_units) ?_
    (intro h' tk' F' N'; (try dsimp only); (try k_fold))))
  k_with "con" => (k_here; (with_reducible show wpAny _ _ (call (Value.ref 211) [Value.bytes _ _, Value.int _ _, Value.bool _]) _ _ _); k_dflt (
    refine Con.useVb (con_is_begun _ _ _ _ _ _ _ (by kba_ints2) (by first | assumption | omega | (simp; omega)) (by first | assumption | omega | (simp; omega)) _) (by assumption) (by k_asm) (by k_asm) (by k_asm) (by k_asm) (by k_asm) (by first | exact rfl | assumption) (by ktr_room) (by ktr_units) ?_
    (intro h' tk' F' N'; (try dsimp only); (try k_fold))))
  k_with "con" => (k_here; (with_reducible show wpAny _ _ (call (Value.ref 211) [Value.bytes _ _]) _ _ _); k_dflt (
    refine Con.useVb (con_is_begun0 _ _ _ _ (by kba_ints2) (by first | assumption | omega | (simp; omega)) _) (by assumption) (by k_asm) (by k_asm) (by k_asm) (by k_asm) (by k_asm) (by first | exact rfl | assumption) (by ktr_room) (by ktr_units) ?_
    (intro h' tk' F' N'; (try dsimp only); (try k_fold))))
  k_with "con" => (k_here; (with_reducible show wpAny _ _ (call (Value.ref 59) [Value.ref _, Value.str _ _]) _ _ _); k_dflt (
    refine' Con.useV ?cC ?cB ?cF ?cX ?cN ?cT ?cK ?cD ?cU ?_
    (case cB => k_asm); (case cF => k_asm); (case cX => k_asm); (case cN => k_asm); (case cT => k_asm); (case cK => first | exact rfl | assumption | with_unfolding_all rfl)
    (case cC => (refine' Con.dup (os := [_, _, _]) (mem3 ?m1 ?m2 ?m3) (con_is_on _ _ _ _ _ _ _ _ _ _ _ _ ?s1 ?s2 ?s3 _); (case m1 => k_mem); (case m2 => k_mem); (case m3 => k_mem); (case s1 => assumption); (case s2 => assumption); (case s3 => assumption)))
    (case cD => ktr_room); (case cU => ktr_units)
    (intro t9 h' tk' F' N'; (try dsimp only); (try k_fold))))
  k_with "con" => (k_here; (with_reducible show wpAny _ _ (call (Value.ref 238) [Value.ref _]) _ _ _); k_dflt (
    refine' Con.useE ?cC ?cB ?cF ?cX ?cN ?cT ?cK ?cD ?cU ?cZ ?_
    (case cB => k_asm); (case cF => k_asm); (case cX => k_asm); (case cN => k_asm); (case cT => k_asm); (case cK => first | exact rfl | assumption | with_unfolding_all rfl)
    (case cC => (refine' Con.dupE (os := [_]) (mem1 ?m1) (con_lev _ _ _ _ _ _ _ _ _ _ _ _ _); (case m1 => k_mem); skip))
    (case cD => ktr_room); (case cU => ktr_units)
    (case cZ => exact fun e9 => nomatch e9)
    (intro k9 bt9 r9 c9 md9 x9 d9 t0 t1 t2 t3 t4 t5 t6 t7 t8 t9 h' tk' hO9 l9 l8 F' N'; cases hO9; (try k_lt l9); (try k_lt2 l8); (try dsimp only); (try k_fold))))
  k_with "con" => (k_here; (with_reducible show wpAny _ _ (call (Value.ref 245) [Value.ref _]) _ _ _); k_dflt (
    refine' Con.useT ?cC ?cB ?cF ?cX ?cN ?cT ?cK ?cD ?cU ?_
    (case cB => k_asm); (case cF => k_asm); (case cX => k_asm); (case cN => k_asm); (case cT => k_asm); (case cK => first | exact rfl | assumption | with_unfolding_all rfl)
    (case cC => (refine' Con.dupT (os := [_, _]) (mem2 ?m1 ?m2) (con_ltold _ _ _ _ _ _ _ _ _ _ _ _ _ _ _ _ _ _  _); (case m1 => k_mem); (case m2 => k_mem); skip))
    (case cD => ktr_room); (case cU => ktr_units)
    (intro T9 t0 t1 t2 t3 t4 h' tk' l9 F' N'; (try k_lt l9); (try dsimp only); (try k_fold))))
  k_with "con" => (k_here; (with_reducible show wpAny _ _ (call (Value.ref 116) [Value.ref _, Value.ref _]) _ _ _); k_dflt (
    refine' Con.useV ?cC ?cB ?cF ?cX ?cN ?cT ?cK ?cD ?cU ?_
    (case cB => k_asm); (case cF => k_asm); (case cX => k_asm); (case cN => k_asm); (case cT => k_asm); (case cK => first | exact rfl | assumption | with_unfolding_all rfl)
    (case cC => (refine' Con.dup (os := [_, _, _, _]) (mem4 ?m1 ?m2 ?m3 ?m4) (con_same _ _ _ _ _ _ _ _ _ _ _ _ _ _ _ _ _ _ _ _ _ _ _ _ _  _ _ _ _ _ _ _ _ _ _  _); (case m1 => k_mem); (case m2 => k_mem); (case m3 => k_mem); (case m4 => k_mem); skip))
    (case cD => ktr_room); (case cU => ktr_units)
    (intro t9 h' tk' F' N'; (try dsimp only); (try k_fold))))
  k_with "con" => (k_here; (with_reducible show wpAny _ _ (call (Value.ref 238) [Value.ref _]) _ _ _); k_dflt (
    refine' Con.useEo ?cC ?cB ?cF ?cX ?cN ?cT ?cK ?cD ?cU ?_
    (case cB => k_asm); (case cF => k_asm); (case cX => k_asm); (case cN => k_asm); (case cT => k_asm); (case cK => first | exact rfl | assumption | with_unfolding_all rfl)
    (case cC => (refine' Con.dupE (os := [_]) (mem1 ?m1) (con_levL _ _ _ _ _ _ _ _ _ _ _ _ _ _); (case m1 => k_mem)))
    (case cD => ktr_room); (case cU => ktr_units)
    (intro x9 p91 p92 h' tk' hP9 l9 l8 F' N'; (try k_lt l9); (try dsimp only); (try k_fold))))
  k_with "con" => (k_here; (with_reducible show wpAny _ _ (call (Value.ref 238) [Value.ref _]) _ _ _); k_dflt (
    refine' Con.useEo ?cC ?cB ?cF ?cX ?cN ?cT ?cK ?cD ?cU ?_
    (case cB => k_asm); (case cF => k_asm); (case cX => k_asm); (case cN => k_asm); (case cT => k_asm); (case cK => first | exact rfl | assumption | with_unfolding_all rfl)
    (case cC => (refine' Con.dupE (os := [_]) (mem1 ?m1) (con_lev _ _ _ _ _ _ _ _ _ _ _ _ _); (case m1 => k_mem)))
    (case cD => ktr_room); (case cU => ktr_units)
    (intro x9 p91 p92 h' tk' hP9 l9 l8 F' N'; (try k_lt l9); (try dsimp only); (try k_fold))))
  k_with "con" => (k_here; (with_reducible show wpAny _ _ (call (Value.ref 116) [Value.ref _, Value.ref _]) _ _ _); k_dflt (
    refine' Con.useVb ?cC ?hv ?cB ?cF ?cX ?cN ?cT ?cK ?cD ?cU ?_
    (case cB => k_asm); (case cF => k_asm); (case cX => k_asm); (case cN => k_asm); (case cT => k_asm); (case cK => first | exact rfl | assumption | with_unfolding_all rfl)
    (case cC => (refine' Con.dup (os := [_, _, _, _]) (mem4 ?m1 ?m2 ?m3 ?m4) (con_sameP _ _ _ _ _ _ _ _ _ ?p1 ?p2 _); (case p1 => assumption); (case p2 => assumption); (case m1 => k_mem); (case m2 => k_mem); (case m3 => k_mem); (case m4 => k_mem)))
    (case hv => assumption); (case cD => ktr_room); (case cU => ktr_units)
    (intro h' tk' F' N'; (try dsimp only); (try k_fold))))
  k_with "con" => (k_here; (with_reducible show wpAny _ _ (call (Value.ref 245) [Value.ref _]) _ _ _); k_dflt (
    refine' Con.useT ?cC ?cB ?cF ?cX ?cN ?cT ?cK ?cD ?cU ?_
    (case cB => k_asm); (case cF => k_asm); (case cX => k_asm); (case cN => k_asm); (case cT => k_asm); (case cK => first | exact rfl | assumption | with_unfolding_all rfl)
    (case cC => (refine' Con.dupT (os := [_, _]) (mem2 ?m1 ?m2) (con_ltoldP _ _ _ _ _ ?p1 _); (case p1 => assumption); (case m1 => k_mem); (case m2 => k_mem)))
    (case cD => ktr_room); (case cU => ktr_units)
    (intro T9 t0 t1 t2 t3 t4 h' tk' l9 F' N'; (try k_lt l9); (try dsimp only); (try k_fold))))
  k_with "con" => (k_here; (with_reducible show wpAny _ _ (call (Value.ref 203) [Value.bytes _ _, Value.int _ _, Value.bool _]) _ _ _); k_dflt (
    refine Con.useFsP (con_read_mouse _ _ _ _ _ _ (by kba_ints2) (by assumption) _) (by assumption) (by k_asm) (by k_asm) (by k_asm) (by k_asm) (by k_asm) (by first | exact rfl | assumption) (by ktr_room) (by ktr_units) ?_
    (intro D9 x9 p91 p92 t9 h' tk' hP9 l9 l8 l7 F' N'; (try k_lt l9); (try dsimp only); (try k_fold))))
  k_with "walk1" => ((first | with_reducible show wpAny _ _ (exec _ _) _ _ _ | with_reducible show wpAny _ _ (isTrue _ _ _) _ _ _); k_fold)
  trivial
-- what a listing holds: an event, or a focus
inductive LD
  | ev (e : Ev)
  | fo (b : Bool)
-- the tuples at hand and a value: what it stands for
noncomputable def Rep (tups : List (Addr × Obj)) (v : Value) : LD → Prop
  | .ev e => ∃ T t0 t1 t2 t3 t4, v = .ref T ∧ (T, { cls := .type "tuple", data := .seq #[.str e.k t0, .int e.bt t1, .int e.r t2, .int e.c t3, .int e.md t4] }) ∈ tups
  | .fo b => v = .bool b
noncomputable def Reps (tups : List (Addr × Obj)) : List Value → List LD → Prop
  | [], [] => True
  | v :: vs, d :: ds => Rep tups v d ∧ Reps tups vs ds
  | _, _ => False
theorem Rep.mono {tups tups' : List (Addr × Obj)} (h : ∀ p ∈ tups, p ∈ tups') {v : Value} : ∀ {d : LD}, Rep tups v d → Rep tups' v d := by
  intro d x
  cases d with
  | ev e => obtain ⟨T, t0, t1, t2, t3, t4, a, b⟩ := x; exact ⟨T, t0, t1, t2, t3, t4, a, h _ b⟩
  | fo b => exact x
theorem Reps.mono {tups tups' : List (Addr × Obj)} (h : ∀ p ∈ tups, p ∈ tups') : ∀ {vs : List Value} {ds : List LD}, Reps tups vs ds → Reps tups' vs ds
  | [], [], _ => trivial
  | _ :: _, _ :: _, x => ⟨Rep.mono h x.1, Reps.mono h x.2⟩
  | [], _ :: _, x => x.elim
  | _ :: _, [], x => x.elim
theorem Reps.snoc {tups : List (Addr × Obj)} {v : Value} {d : LD} : ∀ {vs : List Value} {ds : List LD}, Reps tups vs ds → Rep tups v d → Reps tups (vs ++ [v]) (ds ++ [d])
  | [], [], _, h => ⟨h, trivial⟩
  | _ :: _, _ :: _, x, h => ⟨x.1, Reps.snoc x.2 h⟩
  | [], _ :: _, x, _ => x.elim
  | _ :: _, [], x, _ => x.elim
theorem or_pull {β : Type} {A P R : Prop} {Q : β → Prop} (h : A ∨ (∃ b, P ∧ Q b) ∨ (P ∧ R)) : A ∨ (P ∧ ((∃ b, Q b) ∨ R)) :=
  h.imp_right fun x => x.elim (fun ⟨b, h1, h2⟩ => ⟨h1, .inl ⟨b, h2⟩⟩) fun h2 => ⟨h2.1, .inr h2.2⟩
-- one octet more: what is read whole, or that it is begun
noncomputable def LStep (u : Bool) (f : List LD) (l : List Int) (n : Int) (f' : List LD) (l' : List Int) : Prop :=
  Good (l ++ [n]) ∧ (l ++ [n]).length ≤ 900 ∧
  ((∃ e, rdMouse (l ++ [n]) u = some (e, ((l ++ [n]).length : Int)) ∧ rdFocus (l ++ [n]) = none ∧ f' = f ++ [.ev e] ∧ l' = []) ∨
   (∃ b, rdMouse (l ++ [n]) u = none ∧ rdFocus (l ++ [n]) = some (b, ((l ++ [n]).length : Int)) ∧ f' = f ++ [.fo b] ∧ l' = []) ∨
   (rdMouse (l ++ [n]) u = none ∧ rdFocus (l ++ [n]) = none ∧ begun (l ++ [n]) u = true ∧ f' = f ∧ l' = l ++ [n]))
noncomputable def ListR (due : List LD) (r : Value) (tl : List (Addr × Obj)) : Prop := ∃ f vals kk tups, r = .ref f ∧ tl = (f, listOf vals.toArray kk) :: tups ∧ Reps tups vals due
section
variable {need : Nat} {f : Addr} {vs : List Value} {news : List (Addr × Obj)}
    {w : World} {p : Program} {loose : List Str} {mean : ExcName → Option Value} {mg mb : Str → Option Value} {dp un : Nat} {gd : Option (List Code)} {cn : Str} {cs : Scope} {a : Addr} {ccd : Value} {cl : List (Str × Addr)} {outer : List Env} {A₀ : Around} {base h₀ : Heap} {L : Addr} {m : Str → Option Value} {s : Shared}
    {Q E : Value → Shared → Prop}

theorem Con.useFs {k : Str} {bt r c md n : Int} {o : Option (Ev × Int)} (C : Con w need f vs news (EPairR w o news)) (ho : o = some (⟨k, bt, r, c, md⟩, n))
    (B : Below A₀ base outer h₀) (F : Fr h₀ L s.heap m) (X : (hd.heap_1 w.params).In h₀) (N : News h₀ L s.heap news) (T : Top p loose mean mg mb h₀) (hk : cs.kind = .function) (hd : dp + need < recursionLimit) (hu : un + 8 * need < cLine)
    (hs : ∀ D x d t t0 t1 t2 t3 t4 t5 t6 t7 t8 t9 h' tk', (∀ p ∈ news, p.1 < d) → d < x → x < D → Fr h₀ L h' m → News h₀ L h' ((D, { cls := .type "tuple", data := .seq #[.ref x, .int n t] }) :: (x, instObj 105 d) :: (d, dictOf [⟨PyData.keyHash w.params (Str.ofString "kind"), .str (Str.ofString "kind") t0, .str k t1⟩, ⟨PyData.keyHash w.params (Str.ofString "button"), .str (Str.ofString "button") t2, .int bt t3⟩, ⟨PyData.keyHash w.params (Str.ofString "row"), .str (Str.ofString "row") t4, .int r t5⟩, ⟨PyData.keyHash w.params (Str.ofString "column"), .str (Str.ofString "column") t6, .int c t7⟩, ⟨PyData.keyHash w.params (Str.ofString "modifiers"), .str (Str.ofString "modifiers") t8, .int md t9⟩] 5) :: news) → Q (.ref D) { s with heap := h', toks := tk' }) :
    wpAny (model P0 w) (ktrTop dp un gd cn cs L a ccd cl outer) (call (.ref f) vs) Q E s := by
  subst ho
  exact Con.useF C B F X N T hk hd hu (fun e => nomatch e) (fun k bt r c md n D x d t t0 t1 t2 t3 t4 t5 t6 t7 t8 t9 h' tk' e l1 l2 l3 F' N' => by
    cases e
    exact hs D x d t t0 t1 t2 t3 t4 t5 t6 t7 t8 t9 h' tk' l1 l2 l3 F' N')
theorem Con.useFn {o : Option (Ev × Int)} (C : Con w need f vs news (EPairR w o news)) (ho : o = none)
    (B : Below A₀ base outer h₀) (F : Fr h₀ L s.heap m) (X : (hd.heap_1 w.params).In h₀) (N : News h₀ L s.heap news) (T : Top p loose mean mg mb h₀) (hk : cs.kind = .function) (hd : dp + need < recursionLimit) (hu : un + 8 * need < cLine)
    (hs : ∀ h' tk', Fr h₀ L h' m → News h₀ L h' news → Q .none { s with heap := h', toks := tk' }) :
    wpAny (model P0 w) (ktrTop dp un gd cn cs L a ccd cl outer) (call (.ref f) vs) Q E s := by
  subst ho
  refine Con.use C B F X N T hk hd hu fun r tl h' tk' F' N' hR => ?_
  obtain ⟨rfl, rfl⟩ := hR; exact hs h' tk' F' N'
end
-- between the turns
noncomputable def LJ (st : Nat → List LD × List Int) (f : Addr) (news : List (Addr × Obj)) (v0 : Option Value) (mb : Str → Option Value) (i : Nat) (m : Str → Option Value) (nx : List (Addr × Obj)) : Prop :=
  ∃ vals kk tups b t, ∃ vf vt vo : Option Value,
    m = (fun y => if y = Str.ofString "left" then some (.bytes b t) else if y = Str.ofString "focus" then vf else if y = Str.ofString "told" then vt else if y = Str.ofString "octet" then vo else if y = Str.ofString "found" then v0 else mb y) ∧
    nx = (f, listOf vals.toArray kk) :: (tups ++ news) ∧ Reps tups vals (st i).1 ∧ KBw.bInts b = (st i).2 ∧ (∀ p ∈ tups ++ news, p.1 ≠ f) ∧ vals.length ≤ i
theorem LJ.zero {st : Nat → List LD × List Int} {f : Addr} {news : List (Addr × Obj)} {v0 : Option Value} {mb : Str → Option Value} {b : Array UInt8} {t : Tok} (h0 : st 0 = ([], [])) (hb : KBw.bInts b = []) (hn : ∀ p ∈ news, p.1 ≠ f) :
    LJ st f news v0 mb 0 (fun y => if y = Str.ofString "found" then v0 else if y = Str.ofString "left" then some (.bytes b t) else mb y) ((f, listOf #[] 0) :: news) := by
  refine ⟨[], 0, [], b, t, mb (Str.ofString "focus"), mb (Str.ofString "told"), mb (Str.ofString "octet"), ?_, rfl, by rw [h0]; trivial, by rw [h0]; exact hb, hn, Nat.le_refl _⟩
  funext y
  by_cases h1 : y = Str.ofString "left"
  · have h5 : ¬ y = Str.ofString "found" := by rw [h1]; decide
    simp only [h1, if_true, if_neg (h1 ▸ h5)]
  · by_cases h2 : y = Str.ofString "focus"
    · have h5 : ¬ y = Str.ofString "found" := by rw [h2]; decide
      subst h2; simp only [if_neg h1, if_true, if_neg h5]
    · by_cases h3 : y = Str.ofString "told"
      · have h5 : ¬ y = Str.ofString "found" := by rw [h3]; decide
        subst h3; simp only [if_neg h1, if_neg h2, if_true, if_neg h5]
      · by_cases h4 : y = Str.ofString "octet"
        · have h5 : ¬ y = Str.ofString "found" := by rw [h4]; decide
          subst h4; simp only [if_neg h1, if_neg h2, if_neg h3, if_true, if_neg h5]
        · simp only [if_neg h1, if_neg h2, if_neg h3, if_neg h4]
theorem LJ.mk {st : Nat → List LD × List Int} {f : Addr} {news : List (Addr × Obj)} {v0 : Option Value} {mb : Str → Option Value} {i : Nat} {m : Str → Option Value} {nx : List (Addr × Obj)} {vals : List Value} {kk : Nat} {tups : List (Addr × Obj)} {b : Array UInt8} {t : Tok}
    (h1 : m (Str.ofString "left") = some (.bytes b t)) (h5 : m (Str.ofString "found") = v0)
    (h2 : ∀ y, ¬ y = Str.ofString "left" → ¬ y = Str.ofString "focus" → ¬ y = Str.ofString "told" → ¬ y = Str.ofString "octet" → ¬ y = Str.ofString "found" → m y = mb y)
    (hnx : nx = (f, listOf vals.toArray kk) :: (tups ++ news)) (hrep : Reps tups vals (st i).1) (hb : KBw.bInts b = (st i).2) (hne : ∀ p ∈ tups ++ news, p.1 ≠ f) (hl : vals.length ≤ i) : LJ st f news v0 mb i m nx := by
  refine ⟨vals, kk, tups, b, t, m (Str.ofString "focus"), m (Str.ofString "told"), m (Str.ofString "octet"), ?_, hnx, hrep, hb, hne, hl⟩
  funext y
  by_cases c1 : y = Str.ofString "left"
  · rw [if_pos c1, c1, h1]
  · rw [if_neg c1]
    by_cases c2 : y = Str.ofString "focus"
    · rw [if_pos c2, c2]
    · rw [if_neg c2]
      by_cases c3 : y = Str.ofString "told"
      · rw [if_pos c3, c3]
      · rw [if_neg c3]
        by_cases c4 : y = Str.ofString "octet"
        · rw [if_pos c4, c4]
        · rw [if_neg c4]
          by_cases c5 : y = Str.ofString "found"
          · rw [if_pos c5, c5, h5]
          · rw [if_neg c5, h2 y c1 c2 c3 c4 c5]
theorem ints_one9 {k : Int} (h0 : 0 ≤ k) (h1 : k < 256) : KBw.bInts #[k.toNat.toUInt8] = [k] := by
  show [((k.toNat.toUInt8).toNat : Int)] = [k]
  have : (k.toNat.toUInt8).toNat = k.toNat := by
    show (UInt8.ofNat k.toNat).toNat = _
    rw [UInt8.toNat_ofNat']
    omega
  rw [this]
  congr 1
  omega
theorem own_listed_1 : True := by
  k_with "k_all" => assumption
  k_with "call builtin:list.append" => (k_here; (with_reducible show wpAny _ _ (call (Value.builtin _) [Value.ref _, _]) _ _ _); k_dflt (refine' append_K ?k1 ?k2 ?k3 ?_ ?z; (case k1 => k_asm); (case k2 => k_asm); (case k3 => k_upd); (case z => assumption); k_whole); intro h' F' N'; (try k_sweep))
  trivial
set_option maxRecDepth 100000 in
set_option maxHeartbeats 8000000 in
theorem con_listed (w : World) (b : Array UInt8) (tb : Tok) (u : Bool) (ks : List Int) (due : List LD) (st : Nat → List LD × List Int) (hb : KBw.bInts b = ks) (hkl : ks.length ≤ 9000) (h0 : st 0 = ([], []))
    (hs : ∀ i n, ks[i]? = some n → LStep u (st i).1 (st i).2 n (st (i + 1)).1 (st (i + 1)).2) (he : st ks.length = (due, [])) (news) :
   Con w 30 252 [.bytes b tb, .bool u] news (ListR due) := by
  unfold Con
  intro p loose mean mg mb dp un gd cn cs a ccd cl outer A₀ base h₀ L m s Q E B F X N T hk hd hu hret
  obtain ⟨sh, sg, sd, st', so⟩ := s
  refine wpAny_call ?_
  k_dflt cell_enter
  k_steps
  k_dflt (refine iter_bytesG (LJ st _ news _ _) hb (by rfl) (by assumption) (cb_drop (by assumption) fun _ h => .tail _ h) (LJ.zero h0 rfl ?_) ?_ ?_)
  · exact fun p hp => Nat.ne_of_lt ((by assumption : ∀ p ∈ news, p.1 < _) p hp)
  · intro I i k t m₁ news₁ h tk o hk0 hk1 hk2 hoff hJ F1 N1
    obtain ⟨vals, kk, tups, bl, tl, vf, vt, vo, rfl, rfl, hrep, hbl, hne, hvl⟩ := hJ
    obtain ⟨hg, hlen, hS⟩ := hs i k hk0
    generalize hl0 : (st i).2 = l0 at *
    generalize hf0 : (st i).1 = f0 at *
    have hlen' : (l0 ++ [k]).length ≤ 1000 := by omega
    have hIf := neN (hoff _ (.head _))
    dsimp only at hIf
    have hi9 : i < ks.length := by
      obtain ⟨h, _⟩ := List.getElem?_eq_some_iff.mp hk0
      exact h
    have hz9 : vals.toArray.size ≤ sizeLine := by rw [sizeLine_eq, List.size_toArray]; omega
    have hqT : ((l0.length + [k].length : Nat) : Int) = ((l0.length + [k].length : Nat) : Int) := rfl
    have hl9 : l0.length ≤ 900 := by rw [List.length_append] at hlen; omega
    have hk9 : KBw.bInts #[k.toNat.toUInt8] = [k] := ints_one9 hk1 hk2
    replace hS := or_pull hS
    k_with "con" => (k_here; (with_reducible show wpAny _ _ (call (Value.ref 203) [Value.bytes _ _, Value.int _ _, Value.bool _]) _ _ _); rcases hS with ⟨⟨k9, bt9, r9, c9, md9⟩, hM, hF, hf', hl'⟩ | ⟨hM, hS'⟩)
    k_with "con" => (k_here; (with_reducible show wpAny _ _ (call (Value.ref 224) [Value.bytes _ _]) _ _ _); rcases hS' with ⟨b9, hF, hf', hl'⟩ | ⟨hF, hB, hf', hl'⟩)
    k_steps
    all_goals try exact absurd rfl (by assumption)
    · refine' InvEndG.intro (by assumption) (by assumption) (LJ.mk (vals := vals ++ [Value.ref T9]) (kk := kk + 1) (tups := (T9, { cls := .type "tuple", data := .seq #[.str k9 t0, .int bt9 t1, .int r9 t2, .int c9 t3, .int md9 t4] }) :: tups) ?h1 ?h5 ?h2 rfl ?hr ?hb ?hv ?hl) ?ha ?hn ?ho
      case h1 => first | exact if_pos rfl | rfl
      case h5 => rfl
      case h2 => intro y a b c d e; simp only [if_neg a, if_neg b, if_neg c, if_neg d, if_neg e]; try rfl
      case hr => rw [hf']; exact (Reps.mono (fun p h => .tail _ h) hrep).snoc ⟨T9, _, _, _, _, _, rfl, .head _⟩
      case hb => rw [hl']; rfl
      case hv =>
        intro p hp
        rcases List.mem_cons.mp hp with rfl | hp
        · dsimp only; exact Nat.ne_of_gt (by omega)
        · exact hne p hp
      case hl => rw [List.length_append]; exact Nat.succ_le_succ hvl
      case ha =>
        intro p hp q hq
        rw [List.mem_singleton.mp hp]
        obtain ⟨z, hz, rfl⟩ := List.mem_map.mp hq
        rcases List.mem_cons.mp hz with rfl | hz
        · exact fun e => hIf e.symm
        · rcases List.mem_cons.mp hz with rfl | hz
          · dsimp only; exact Nat.ne_of_lt (by omega)
          · exact fun e => hoff z (.tail _ hz) e.symm
      case hn =>
        intro p hp
        rcases List.mem_cons.mp hp with rfl | hp
        · rw [← List.push_toArray]; k_mem
        · rcases List.mem_cons.mp hp with rfl | hp
          · exact .head _
          · repeat' (first | exact hp | refine List.Mem.tail _ ?_)
      case ho =>
        intro p hp
        rw [List.mem_singleton.mp hp]
        k_mem
    · refine' InvEndG.intro (by assumption) (by assumption) (LJ.mk (vals := vals ++ [Value.bool b9]) (kk := kk + 1) (tups := tups) ?h1 ?h5 ?h2 rfl ?hr ?hb ?hv ?hl) ?ha ?hn ?ho
      case h1 => first | exact if_pos rfl | rfl
      case h5 => rfl
      case h2 => intro y a b c d e; simp only [if_neg a, if_neg b, if_neg c, if_neg d, if_neg e]; try rfl
      case hr => rw [hf']; exact hrep.snoc rfl
      case hb => rw [hl']; rfl
      case hv => exact hne
      case hl => rw [List.length_append]; exact Nat.succ_le_succ hvl
      case ha =>
        intro p hp q hq
        rw [List.mem_singleton.mp hp]
        obtain ⟨z, hz, rfl⟩ := List.mem_map.mp hq
        rcases List.mem_cons.mp hz with rfl | hz
        · exact fun e => hIf e.symm
        · exact fun e => hoff z (.tail _ hz) e.symm
      case hn =>
        intro p hp
        rcases List.mem_cons.mp hp with rfl | hp
        · rw [← List.push_toArray]; k_mem
        · repeat' (first | exact hp | refine List.Mem.tail _ ?_)
      case ho =>
        intro p hp
        rw [List.mem_singleton.mp hp]
        k_mem
    · refine' InvEndG.intro (by assumption) (by assumption) (LJ.mk (vals := vals) (kk := kk) (tups := tups) ?h1 ?h5 ?h2 rfl ?hr ?hb ?hv ?hl) ?ha ?hn ?ho
      case h1 => first | exact if_pos rfl | rfl
      case h5 => rfl
      case h2 => intro y a b c d e; simp only [if_neg a, if_neg b, if_neg c, if_neg d, if_neg e]; try rfl
      case hr => rw [hf']; exact hrep
      case hb => rw [hl']; assumption
      case hv => exact hne
      case hl => exact Nat.le_succ_of_le hvl
      case ha =>
        intro p hp q hq
        rw [List.mem_singleton.mp hp]
        obtain ⟨z, hz, rfl⟩ := List.mem_map.mp hq
        exact fun e => hoff z hz e.symm
      case hn =>
        intro p hp
        repeat' (first | exact hp | refine List.Mem.tail _ ?_)
      case ho =>
        intro p hp
        rw [List.mem_singleton.mp hp]
        k_mem
  · intro m₁ news₁ h tk hJ F1 N1
    obtain ⟨vals, kk, tups, bl, tl, vf, vt, vo, rfl, rfl, hrep, hbl, hne, hvl⟩ := hJ
    rw [he] at hrep hbl
    have hnil : ([] : List Int) = [] := rfl
    dsimp only
    k_steps
    all_goals exact hret _ (_ :: tups) _ _ (by assumption) (by assumption) ⟨_, vals, kk, tups, rfl, rfl, hrep⟩


-- group
theorem rows_group : True := by
  w_top off
  k_with_none
  k_with "kba_ints2" => first | kba_ints | (apply ints_lit; (simp only [List.map_cons, List.map_nil, UInt8.reduceToNat, Int.cast_ofNat_Int]); (try exact rfl))
  k_with "compareOp Eq bytes bytes" => (k_here; (with_reducible show wpAny _ _ (compareOp CmpOp.Eq (Value.bytes _ _) (Value.bytes _ _)) _ _ _); (first | refine eq_ints_T (by kba_ints2) (by kba_ints2) (by assumption) ?_ | refine eq_ints_F (by kba_ints2) (by kba_ints2) (by assumption) ?_ | refine eq_ints (by kba_ints2) (by kba_ints2) ?_))
  k_with "compareOp NotEq bytes bytes" => (k_here; (with_reducible show wpAny _ _ (compareOp CmpOp.NotEq (Value.bytes _ _) (Value.bytes _ _)) _ _ _); (refine ne_ints (by kba_ints2) (by kba_ints2) ?_))
  k_with "compareOp NotIn bytes ref" => (k_here; (with_reducible show wpAny _ _ (compareOp CmpOp.NotIn (Value.bytes _ _) (Value.ref _)) _ _ _); (refine notIn_two (by k_asm) (by k_mem) (by kba_ints2) (by kba_ints2) (by kba_ints2) ?_))
  k_with "subscriptTail" => (k_here; (with_reducible show wpAny _ _ (subscriptTail _ (Expr.Slice _ _ none _) (Value.bytes _ _) (Value.ref _)) _ _ _); (with_reducible rename Fr _ _ _ _ => F'); (with_reducible rename News _ _ _ _ => N'); (refine slice_C (s := ⟨_, _, _, _, _⟩) F' N' (by kba_ints2) (by constructor) (by constructor) (by kba_size) (by intro i hi; simp at hi; try (subst hi; omega)) (by intro i hi; simp at hi; try (subst hi; omega)) (by first | exact cut_z3 | exact cut_z2 | exact cut_z | exact cut_mid3 (by omega) | exact cut_mid2 (by omega) | exact cut_lit3 | exact cut_lit2 | exact cut_lit3' | exact cut_lit2' | exact cut_two | exact cut_tail | exact cut_head') ?_); intro _ _ _ _ _ _ kbcK; (try simp only [Int.toNat_zero, Int.toNat_ofNat, List.drop_zero] at kbcK))
  k_with "ktr_room" => first | exact room9 (by assumption) rfl | exact Nat.lt_of_le_of_lt (Nat.le_add_right _ _) (by assumption)
  k_with "ktr_units" => exact units9 (by assumption) rfl
  k_with "getMethod bytes" => (k_here; first | refine meth_starts ?_ | refine meth_split ?_ | refine meth_join ?_)
  k_with "call builtin:bytes.startswith" => (k_here; first | refine call_starts_T (by kba_ints2) (by kba_ints2) (by assumption) ?_ | refine call_starts_F (by kba_ints2) (by kba_ints2) (by assumption) ?_ | refine call_starts_I (by kba_ints2) (by kba_ints2) ?_)
  k_with "CompEnd" => (refine LCg.CompEnd.intro (by assumption) (by assumption) _ (fun _ h => h) (by assumption) (by exact Or.inr ⟨_, by k_mem, rfl, _, rfl⟩) ?_)
  k_with "call type:bytes" => (k_here; (with_reducible show wpAny _ _ (call (Value.type "bytes") [Value.ref _]) _ _ _); (refine' KBa.make_K ?kbaF ?kbaN ?kbah ?kbal ?kbai ?kbar ?kban ?_; (case kbaF => k_asm); (case kbaN => k_asm); (case kbah => rfl); (case kbal => kba_isList); (case kbai => kba_listInts); (case kbar => (repeat' (first | exact List.forall_mem_nil _ | (refine List.forall_mem_cons.mpr ⟨⟨?_, ?_⟩, ?_⟩) | omega | (simp only [fd10, fm10]; omega)))); (case kban => kba_size)); intro _ _ _ F' N' kbaIn; (have kbaM := KBa.ints_make kbaIn))
  k_with "cell_enter" => (refine' code_defC ?k1 ?k2 ?k3 ?k4 ?k5 ?kA ?kF ?kK ?k6 ?k7 ?k8 ?k9 ?kB ?kD ?_ ?c2 ?c3 ?c4; (case kA => exact rfl); (case kF => exact rfl); (case kK => first | exact rfl | assumption); (case k1 => k_asm); (case k2 => k_asm); (case k3 => k_asm); (case k4 => k_asm); (case k5 => k_asm); (case k6 => k_is); (case k7 => k_is); (case k8 => ktr_room); (case k9 => first | exact BindsTo.of_eq rfl | exact binds_K (by k_in) rfl (by k_is) rfl rfl rfl); (case kB => exact rfl); (case kD => decide +kernel); (case c2 => exact rfl); (case c3 => exact rfl); (case c4 => exact rfl); k_whole; intro g' L' h' tk' cells' FG' F' N' Y' B' X' T' l1; (try k_lt l1); k_cells Y'; (try simp only [List.cons_append, List.nil_append] at N'); (try dsimp only); (try k_lift B'); (try k_fold))
  k_with "call builtin:bytes.join" => (k_here; refine call_join_I (by k_asm) (by k_mem) rfl rfl (by kba_ints2) (by kba_ints2) (by kba_ints2) (by kba_ints2) (by first | assumption | decide) (by first | assumption | decide) (by first | assumption | decide) (by first | assumption | decide) ?_; intro _ _ _ kbJ; (try simp only [List.append_nil] at kbJ))
  k_with "units_room" => exact room_deep (by omega)
  k_with "cell_enter" => (refine' code_def ?k1 ?k2 ?k3 ?k4 ?k5 ?kA ?kF ?kK ?k6 ?k7 ?k8 ?k9 ?kB ?_ ?c2 ?c3 ?c4 ?c5; (case kA => exact rfl); (case kF => exact rfl); (case kK => first | exact rfl | assumption); (case k1 => k_asm); (case k2 => k_asm); (case k3 => k_asm); (case k4 => k_asm); (case k5 => k_asm); (case k6 => k_is); (case k7 => k_is); (case k8 => ktr_room); (case k9 => exact binds_K (by k_in) rfl (by k_is) rfl rfl rfl); (case c5 => decide); (case kB => exact locs rfl); (case c2 => exact rfl); (case c3 => exact rfl); (case c4 => exact rfl); k_whole; intro g' L' h' FG' F' N' B' X' T'; (try dsimp only); (try k_fold))
  k_with "con" => (k_here; (with_reducible show wpAny _ _ (call (Value.ref 59) [Value.ref _, Value.str _ _]) _ _ _); k_dflt (
    refine' Con.useV ?cC ?cB ?cF ?cX ?cN ?cT ?cK ?cD ?cU ?_
    (case cB => k_asm); (case cF => k_asm); (case cX => k_asm); (case cN => k_asm); (case cT => k_asm); (case cK => first | exact rfl | assumption | with_unfolding_all rfl)
    (case cC => (refine' Con.dup (os := [_, _, _]) (mem3 ?m1 ?m2 ?m3) (con_is_on _ _ _ _ _ _ _ _ _ _ _ _ ?s1 ?s2 ?s3 _); (case m1 => k_mem); (case m2 => k_mem); (case m3 => k_mem); (case s1 => assumption); (case s2 => assumption); (case s3 => assumption)))
    (case cD => ktr_room); (case cU => ktr_units)
    (intro t9 h' tk' F' N'; (try dsimp only); (try k_fold))))
  trivial
theorem tupIn {h₀ : Heap} {L : Addr} {s : Shared} {m : Str → Option Value} {K : Frag} {a : Addr} {lo : Obj} {items : Array Value} {n : Nat} (F : Fr h₀ L s.heap m) (X : K.In h₀) (hk : K.lookup a = some lo) (hc : lo.cls = .type "tuple") (hd : lo.data = .seq items n) : IsTup s.heap a items :=
  ⟨lo, F.keep _ _ (X _ _ hk), hc, n, hd⟩
theorem in_tup {prog : Program} {w : World} {A : Around} {E : Value → Shared → Prop} {s : Shared} {t : Addr} {items : Array Value} {ys : List Str} {x : Str} {u : Tok} {b : Bool} {Q : Value → Shared → Prop} (ht : IsTup s.heap t items) (hi : StrsAre items.toList ys) (hb : (ys.any (· == x)) = b)
    (h : Q (.bool b) s) : wpAny (model prog w) A (compareOp .In (.str x u) (.ref t)) Q E s := in_tuple_strs ht hi (by rw [hb]; exact h)
-- a way's own word
noncomputable def IsWay (k : Str) : Prop := k = Str.ofString "mouse_utf8" ∨ k = Str.ofString "mouse_sgr" ∨ k = Str.ofString "mouse_urxvt"
noncomputable def modeWords : List Str := [Str.ofString "mouse_x10", Str.ofString "mouse_click", Str.ofString "mouse_drag", Str.ofString "mouse_all"]
noncomputable def wayWords : List Str := [Str.ofString "mouse_utf8", Str.ofString "mouse_sgr", Str.ofString "mouse_urxvt", Str.ofString "mouse_pixels"]
theorem way_not {k : Str} (h : IsWay k) : (modeWords.any (· == k)) = false := by rcases h with rfl | rfl | rfl <;> decide
theorem way_in {k : Str} (h : IsWay k) : (wayWords.any (· == k)) = true := by rcases h with rfl | rfl | rfl <;> decide
theorem all_in : (modeWords.any (· == Str.ofString "mouse_all")) = true := by decide
theorem own_group_1 : True := by
  k_with "compareOp In str ref" => (k_here; (with_reducible show wpAny _ _ (compareOp CmpOp.In (Value.str _ _) (Value.ref _)) _ _ _); k_dflt (refine' in_tup (tupIn ?k1 ?k2 ?k3 ?k4 ?k5) ?k6 ?k7 ?_; (case k1 => k_asm); (case k2 => k_asm); (case k3 => k_is); (case k4 => exact rfl); (case k5 => exact rfl); (case k6 => kde_strs); (case k7 => first | exact all_in | exact way_not (by assumption) | exact way_in (by assumption))))
  trivial
set_option maxRecDepth 100000 in
set_option maxHeartbeats 8000000 in
theorem con_group_all (w : World) (t : Tok) (news) : Con w 2 38 [.str (Str.ofString "mouse_all") t] news (ValR fun _ => .ref 29) := by
  unfold Con
  intro p loose mean mg mb dp un gd cn cs a ccd cl outer A₀ base h₀ L m s Q E B F X N T hk hd hu hret
  obtain ⟨sh, sg, sd, st, so⟩ := s
  refine wpAny_call ?_
  k_dflt cell_enter
  k_steps
  all_goals refine hret _ [] _ _ (by assumption) (by first | assumption | exact cb_drop (by assumption) (by first | exact fun _ h => .tail _ (h) | exact fun _ h => .tail _ (.tail _ (h)) | exact fun _ h => .tail _ (.tail _ (.tail _ (h))) | exact fun _ h => .tail _ (.tail _ (.tail _ (.tail _ (h)))) | exact fun _ h => .tail _ (.tail _ (.tail _ (.tail _ (.tail _ (h))))) | exact fun _ h => .tail _ (.tail _ (.tail _ (.tail _ (.tail _ (.tail _ (h)))))) | exact fun _ h => .tail _ (.tail _ (.tail _ (.tail _ (.tail _ (.tail _ (.tail _ (h))))))) | exact fun _ h => .tail _ (.tail _ (.tail _ (.tail _ (.tail _ (.tail _ (.tail _ (.tail _ (h)))))))))) (ValR.mk (t := 0) rfl)
set_option maxRecDepth 100000 in
set_option maxHeartbeats 8000000 in
theorem con_group_way (w : World) (k : Str) (hw : IsWay k) (t : Tok) (news) : Con w 2 38 [.str k t] news (ValR fun _ => .ref 30) := by
  unfold Con
  intro p loose mean mg mb dp un gd cn cs a ccd cl outer A₀ base h₀ L m s Q E B F X N T hk hd hu hret
  obtain ⟨sh, sg, sd, st, so⟩ := s
  refine wpAny_call ?_
  k_dflt cell_enter
  k_steps
  all_goals refine hret _ [] _ _ (by assumption) (by first | assumption | exact cb_drop (by assumption) (by first | exact fun _ h => .tail _ (h) | exact fun _ h => .tail _ (.tail _ (h)) | exact fun _ h => .tail _ (.tail _ (.tail _ (h))) | exact fun _ h => .tail _ (.tail _ (.tail _ (.tail _ (h)))) | exact fun _ h => .tail _ (.tail _ (.tail _ (.tail _ (.tail _ (h))))) | exact fun _ h => .tail _ (.tail _ (.tail _ (.tail _ (.tail _ (.tail _ (h)))))) | exact fun _ h => .tail _ (.tail _ (.tail _ (.tail _ (.tail _ (.tail _ (.tail _ (h))))))) | exact fun _ h => .tail _ (.tail _ (.tail _ (.tail _ (.tail _ (.tail _ (.tail _ (.tail _ (h)))))))))) (ValR.mk (t := 0) rfl)


-- set
theorem rows_set : True := by
  w_top off
  k_with_none
  k_with "kba_ints2" => first | kba_ints | (apply ints_lit; (simp only [List.map_cons, List.map_nil, UInt8.reduceToNat, Int.cast_ofNat_Int]); (try exact rfl))
  k_with "compareOp Eq bytes bytes" => (k_here; (with_reducible show wpAny _ _ (compareOp CmpOp.Eq (Value.bytes _ _) (Value.bytes _ _)) _ _ _); (first | refine eq_ints_T (by kba_ints2) (by kba_ints2) (by assumption) ?_ | refine eq_ints_F (by kba_ints2) (by kba_ints2) (by assumption) ?_ | refine eq_ints (by kba_ints2) (by kba_ints2) ?_))
  k_with "compareOp NotEq bytes bytes" => (k_here; (with_reducible show wpAny _ _ (compareOp CmpOp.NotEq (Value.bytes _ _) (Value.bytes _ _)) _ _ _); (refine ne_ints (by kba_ints2) (by kba_ints2) ?_))
  k_with "compareOp NotIn bytes ref" => (k_here; (with_reducible show wpAny _ _ (compareOp CmpOp.NotIn (Value.bytes _ _) (Value.ref _)) _ _ _); (refine notIn_two (by k_asm) (by k_mem) (by kba_ints2) (by kba_ints2) (by kba_ints2) ?_))
  k_with "subscriptTail" => (k_here; (with_reducible show wpAny _ _ (subscriptTail _ (Expr.Slice _ _ none _) (Value.bytes _ _) (Value.ref _)) _ _ _); (with_reducible rename Fr _ _ _ _ => F'); (with_reducible rename News _ _ _ _ => N'); (refine slice_C (s := ⟨_, _, _, _, _⟩) F' N' (by kba_ints2) (by constructor) (by constructor) (by kba_size) (by intro i hi; simp at hi; try (subst hi; omega)) (by intro i hi; simp at hi; try (subst hi; omega)) (by first | exact cut_z3 | exact cut_z2 | exact cut_z | exact cut_mid3 (by omega) | exact cut_mid2 (by omega) | exact cut_lit3 | exact cut_lit2 | exact cut_lit3' | exact cut_lit2' | exact cut_two | exact cut_tail | exact cut_head') ?_); intro _ _ _ _ _ _ kbcK; (try simp only [Int.toNat_zero, Int.toNat_ofNat, List.drop_zero] at kbcK))
  k_with "ktr_room" => first | exact room9 (by assumption) rfl | exact Nat.lt_of_le_of_lt (Nat.le_add_right _ _) (by assumption)
  k_with "ktr_units" => exact units9 (by assumption) rfl
  k_with "getMethod bytes" => (k_here; first | refine meth_starts ?_ | refine meth_split ?_ | refine meth_join ?_)
  k_with "call builtin:bytes.startswith" => (k_here; first | refine call_starts_T (by kba_ints2) (by kba_ints2) (by assumption) ?_ | refine call_starts_F (by kba_ints2) (by kba_ints2) (by assumption) ?_ | refine call_starts_I (by kba_ints2) (by kba_ints2) ?_)
  k_with "CompEnd" => (refine LCg.CompEnd.intro (by assumption) (by assumption) _ (fun _ h => h) (by assumption) (by exact Or.inr ⟨_, by k_mem, rfl, _, rfl⟩) ?_)
  k_with "call type:bytes" => (k_here; (with_reducible show wpAny _ _ (call (Value.type "bytes") [Value.ref _]) _ _ _); (refine' KBa.make_K ?kbaF ?kbaN ?kbah ?kbal ?kbai ?kbar ?kban ?_; (case kbaF => k_asm); (case kbaN => k_asm); (case kbah => rfl); (case kbal => kba_isList); (case kbai => kba_listInts); (case kbar => (repeat' (first | exact List.forall_mem_nil _ | (refine List.forall_mem_cons.mpr ⟨⟨?_, ?_⟩, ?_⟩) | omega | (simp only [fd10, fm10]; omega)))); (case kban => kba_size)); intro _ _ _ F' N' kbaIn; (have kbaM := KBa.ints_make kbaIn))
  k_with "cell_enter" => (refine' code_defC ?k1 ?k2 ?k3 ?k4 ?k5 ?kA ?kF ?kK ?k6 ?k7 ?k8 ?k9 ?kB ?kD ?_ ?c2 ?c3 ?c4; (case kA => exact rfl); (case kF => exact rfl); (case kK => first | exact rfl | assumption); (case k1 => k_asm); (case k2 => k_asm); (case k3 => k_asm); (case k4 => k_asm); (case k5 => k_asm); (case k6 => k_is); (case k7 => k_is); (case k8 => ktr_room); (case k9 => first | exact BindsTo.of_eq rfl | exact binds_K (by k_in) rfl (by k_is) rfl rfl rfl); (case kB => exact rfl); (case kD => decide +kernel); (case c2 => exact rfl); (case c3 => exact rfl); (case c4 => exact rfl); k_whole; intro g' L' h' tk' cells' FG' F' N' Y' B' X' T' l1; (try k_lt l1); k_cells Y'; (try simp only [List.cons_append, List.nil_append] at N'); (try dsimp only); (try k_lift B'); (try k_fold))
  k_with "call builtin:bytes.join" => (k_here; refine call_join_I (by k_asm) (by k_mem) rfl rfl (by kba_ints2) (by kba_ints2) (by kba_ints2) (by kba_ints2) (by first | assumption | decide) (by first | assumption | decide) (by first | assumption | decide) (by first | assumption | decide) ?_; intro _ _ _ kbJ; (try simp only [List.append_nil] at kbJ))
  k_with "units_room" => exact room_deep (by omega)
  k_with "cell_enter" => (refine' code_def ?k1 ?k2 ?k3 ?k4 ?k5 ?kA ?kF ?kK ?k6 ?k7 ?k8 ?k9 ?kB ?_ ?c2 ?c3 ?c4 ?c5; (case kA => exact rfl); (case kF => exact rfl); (case kK => first | exact rfl | assumption); (case k1 => k_asm); (case k2 => k_asm); (case k3 => k_asm); (case k4 => k_asm); (case k5 => k_asm); (case k6 => k_is); (case k7 => k_is); (case k8 => ktr_room); (case k9 => exact binds_K (by k_in) rfl (by k_is) rfl rfl rfl); (case c5 => decide); (case kB => exact locs rfl); (case c2 => exact rfl); (case c3 => exact rfl); (case c4 => exact rfl); k_whole; intro g' L' h' FG' F' N' B' X' T'; (try dsimp only); (try k_fold))
  k_with "con" => (k_here; (with_reducible show wpAny _ _ (call (Value.ref 59) [Value.ref _, Value.str _ _]) _ _ _); k_dflt (
    refine' Con.useV ?cC ?cB ?cF ?cX ?cN ?cT ?cK ?cD ?cU ?_
    (case cB => k_asm); (case cF => k_asm); (case cX => k_asm); (case cN => k_asm); (case cT => k_asm); (case cK => first | exact rfl | assumption | with_unfolding_all rfl)
    (case cC => (refine' Con.dup (os := [_, _, _]) (mem3 ?m1 ?m2 ?m3) (con_is_on _ _ _ _ _ _ _ _ _ _ _ _ ?s1 ?s2 ?s3 _); (case m1 => k_mem); (case m2 => k_mem); (case m3 => k_mem); (case s1 => assumption); (case s2 => assumption); (case s3 => assumption)))
    (case cD => ktr_room); (case cU => ktr_units)
    (intro t9 h' tk' F' N'; (try dsimp only); (try k_fold))))
  k_with "con" => (k_here; (with_reducible show wpAny _ _ (call (Value.ref 38) [Value.str (Str.ofString "mouse_all") _]) _ _ _); k_dflt (
    refine Con.useV (con_group_all _ _ _) (by k_asm) (by k_asm) (by k_asm) (by k_asm) (by k_asm) (by first | exact rfl | assumption) (by ktr_room) (by ktr_units) ?_
    (intro t9 h' tk' F' N'; (try dsimp only); (try k_fold))))
  k_with "con" => (k_here; (with_reducible show wpAny _ _ (call (Value.ref 38) [Value.str _ _]) _ _ _); k_dflt (
    refine Con.useV (con_group_way _ _ (by assumption) _ _) (by k_asm) (by k_asm) (by k_asm) (by k_asm) (by k_asm) (by first | exact rfl | assumption) (by ktr_room) (by ktr_units) ?_
    (intro t9 h' tk' F' N'; (try dsimp only); (try k_fold))))
  k_with "con" => (k_here; (with_reducible show wpAny _ _ (call (Value.ref 80) [Value.ref _]) _ _ _); k_dflt (
    refine' Con.useV ?cC ?cB ?cF ?cX ?cN ?cT ?cK ?cD ?cU ?_
    (case cB => k_asm); (case cF => k_asm); (case cX => k_asm); (case cN => k_asm); (case cT => k_asm); (case cK => first | exact rfl | assumption | with_unfolding_all rfl)
    (case cC => (refine' Con.dup (os := [_, _, _]) (mem3 ?m1 ?m2 ?m3) (con_modeW _ _ _ _ _ _ _ _ _ ?s1 _); (case m1 => k_mem); (case m2 => k_mem); (case m3 => k_mem); (case s1 => assumption)))
    (case cD => ktr_room); (case cU => ktr_units)
    (intro t9 h' tk' F' N'; (try dsimp only); (try k_fold))))
  k_with "con" => (k_here; (with_reducible show wpAny _ _ (call (Value.ref 87) [Value.ref _]) _ _ _); k_dflt (
    refine' Con.useV ?cC ?cB ?cF ?cX ?cN ?cT ?cK ?cD ?cU ?_
    (case cB => k_asm); (case cF => k_asm); (case cX => k_asm); (case cN => k_asm); (case cT => k_asm); (case cK => first | exact rfl | assumption | with_unfolding_all rfl)
    (case cC => (refine' Con.dup (os := [_, _, _]) (mem3 ?m1 ?m2 ?m3) (con_encW _ _ _ _ _ _ _ _ _ ?s1 _); (case m1 => k_mem); (case m2 => k_mem); (case m3 => k_mem); (case s1 => assumption)))
    (case cD => ktr_room); (case cU => ktr_units)
    (intro t9 h' tk' F' N'; (try dsimp only [wayV0, wayV1, wayV2, wayV3]); (try k_fold))))
  k_with "walk1" => ((first | with_reducible show wpAny _ _ (exec _ _) _ _ _ | with_reducible show wpAny _ _ (isTrue _ _ _) _ _ _); k_fold)
  trivial
-- a call that may change its ledger
noncomputable def Con2 (w : World) (need : Nat) (f : Addr) (vs : List Value) (news : List (Addr × Obj)) (R : Value → List (Addr × Obj) → Prop) : Prop :=
  ∀ (p : Program) (loose : List Str) (mean : ExcName → Option Value) (mg mb : Str → Option Value) (dp un : Nat) (gd : Option (List Code)) (cn : Str) (cs : Scope) (a : Addr) (ccd : Value) (cl : List (Str × Addr)) (outer : List Env) (A₀ : Around) (base h₀ : Heap) (L : Addr) (m : Str → Option Value) (s : Shared)
    (Q E : Value → Shared → Prop),
    Below A₀ base outer h₀ → Fr h₀ L s.heap m → (hd.heap_1 w.params).In h₀ → News h₀ L s.heap news → Top p loose mean mg mb h₀ → cs.kind = .function → dp + need < recursionLimit → un + 8 * need < cLine →
    (∀ r nl h' tk', Fr h₀ L h' m → News h₀ L h' nl → R r nl → Q r { s with heap := h', toks := tk' }) →
    wpAny (model P0 w) (ktrTop dp un gd cn cs L a ccd cl outer) (call (.ref f) vs) Q E s
noncomputable def setW (kvs : List (Str × Value)) (a b c d k : Str) : List (Str × Value) := stored (stored (stored (stored (stored kvs a (.bool false)) b (.bool false)) c (.bool false)) d (.bool false)) k (.bool true)
noncomputable def SetR (nD : Nat) (w : World) (mo me st kp : Addr) (v20 v21 : Tok) (kvs : List (Str × Value)) (news : List (Addr × Obj)) (r : Value) (nl : List (Addr × Obj)) : Prop :=
  r = .none ∧ ∃ o D, nl = (mo, instObj 69 me) :: (me, dictOf [⟨PyData.keyHash w.params (Str.ofString "states"), .str (Str.ofString "states") v20, .ref st⟩, ⟨PyData.keyHash w.params (Str.ofString "kept"), .str (Str.ofString "kept") v21, .ref kp⟩] 2) :: (st, o) :: news ∧ o.IsDictOf (PySem.strKind P0 w) kvs ∧ PyProof.V.FlatPairs PyData.str kvs D ∧ PyProof.V.LenLe D (nD + 5)
theorem own_set_1 : True := by
  k_with "k_all" => assumption
  k_with "exec For Name Call cons nil" => (k_here; (rename Fr _ _ _ _ => lF'); (with_unfolding_all refine' For_turns lF' ?_ ?hs; (case hs => (intro _; rfl)); k_whole))
  k_with "setItem ref str" => (k_here; k_dflt (refine' setItem_K PyProof.V.same_str (strKind_is _ _ _ _) ?v ?F ?N ?U ?d ?f ?_ ?z; (case F => k_asm); (case N => k_asm); (case U => k_updF); (case d => k_asm); (case f => k_asm); (case z => first | exact line_of_lenLe (by assumption) (by omega) | exact line_of_lenLe (PyProof.V.LenLe.put (by assumption) _ _) (by omega) | exact line_of_lenLe (PyProof.V.LenLe.put (PyProof.V.LenLe.put (by assumption) _ _) _ _) (by omega) | exact line_of_lenLe (PyProof.V.LenLe.put (PyProof.V.LenLe.put (PyProof.V.LenLe.put (by assumption) _ _) _ _) _ _) (by omega) | exact line_of_lenLe (PyProof.V.LenLe.put (PyProof.V.LenLe.put (PyProof.V.LenLe.put (PyProof.V.LenLe.put (by assumption) _ _) _ _) _ _) _ _) (by omega) | exact line_of_lenLe (PyProof.V.LenLe.put (PyProof.V.LenLe.put (PyProof.V.LenLe.put (PyProof.V.LenLe.put (PyProof.V.LenLe.put (by assumption) _ _) _ _) _ _) _ _) _ _) (by omega)); (case v => k_flat)); intro h' o' F' N' hd' hf'; (try dsimp only at N'); (try k_sweep))
  k_with "UnrEndW" => (refine unrEndW_head (by assumption) (by assumption) (by assumption) ⟨by k_subL, ?_⟩)
  trivial
set_option maxRecDepth 100000 in
set_option maxHeartbeats 8000000 in
theorem con_set_all (w : World) (mo me st kp : Addr) (v20 v21 : Tok) (o : Obj) (kvs : List (Str × Value)) (D : List (PyData × PyData)) (t : Tok) (lo : (st == sysModules) = false) (h1 : @LT.lt Nat _ mo st) (h2 : @LT.lt Nat _ me st) (hd' : o.IsDictOf (PySem.strKind P0 w) kvs) (hf : PyProof.V.FlatPairs PyData.str kvs D) (nD : Nat) (hnD : nD ≤ 100) (hD : PyProof.V.LenLe D nD) (news) (hne : ∀ p ∈ news, p.1 ≠ st) :
   Con2 w 6 66 [.ref mo, .str (Str.ofString "mouse_all") t, .bool true] ((mo, instObj 69 me) :: (me, dictOf [⟨PyData.keyHash w.params (Str.ofString "states"), .str (Str.ofString "states") v20, .ref st⟩, ⟨PyData.keyHash w.params (Str.ofString "kept"), .str (Str.ofString "kept") v21, .ref kp⟩] 2) :: (st, o) :: news) (SetR nD w mo me st kp v20 v21 (setW kvs (Str.ofString "mouse_x10") (Str.ofString "mouse_click") (Str.ofString "mouse_drag") (Str.ofString "mouse_all") (Str.ofString "mouse_all")) news) := by
  unfold Con2
  intro p loose mean mg mb dp un gd cn cs a ccd cl outer A₀ base h₀ L m s Q E B F X N T hk hd hu hret
  obtain ⟨sh, sg, sd, st', so⟩ := s
  refine wpAny_call ?_
  k_dflt cell_enter
  k_steps
  all_goals refine hret _ ((mo, _) :: (me, _) :: (st, _) :: news) _ _ (by assumption) (by first | assumption | exact cb_drop (by assumption) (by first | exact fun _ h => .tail _ (h) | exact fun _ h => .tail _ (.tail _ (h)) | exact fun _ h => .tail _ (.tail _ (.tail _ (h))) | exact fun _ h => .tail _ (.tail _ (.tail _ (.tail _ (h)))) | exact fun _ h => .tail _ (.tail _ (.tail _ (.tail _ (.tail _ (h))))) | exact fun _ h => .tail _ (.tail _ (.tail _ (.tail _ (.tail _ (.tail _ (h)))))) | exact fun _ h => .tail _ (.tail _ (.tail _ (.tail _ (.tail _ (.tail _ (.tail _ (h))))))) | exact fun _ h => .tail _ (.tail _ (.tail _ (.tail _ (.tail _ (.tail _ (.tail _ (.tail _ (h)))))))))) ⟨rfl, _, _, rfl, by assumption, by assumption, ?_⟩
  all_goals exact .put (.put (.put (.put (.put hD _ _) _ _) _ _) _ _) _ _
set_option maxRecDepth 100000 in
set_option maxHeartbeats 8000000 in
theorem con_set_way (w : World) (mo me st kp : Addr) (v20 v21 : Tok) (o : Obj) (kvs : List (Str × Value)) (D : List (PyData × PyData)) (k : Str) (hw : IsWay k) (t : Tok) (lo : (st == sysModules) = false) (h1 : @LT.lt Nat _ mo st) (h2 : @LT.lt Nat _ me st) (hd' : o.IsDictOf (PySem.strKind P0 w) kvs) (hf : PyProof.V.FlatPairs PyData.str kvs D) (nD : Nat) (hnD : nD ≤ 100) (hD : PyProof.V.LenLe D nD) (news) (hne : ∀ p ∈ news, p.1 ≠ st) :
   Con2 w 6 66 [.ref mo, .str k t, .bool true] ((mo, instObj 69 me) :: (me, dictOf [⟨PyData.keyHash w.params (Str.ofString "states"), .str (Str.ofString "states") v20, .ref st⟩, ⟨PyData.keyHash w.params (Str.ofString "kept"), .str (Str.ofString "kept") v21, .ref kp⟩] 2) :: (st, o) :: news) (SetR nD w mo me st kp v20 v21 (setW kvs (Str.ofString "mouse_utf8") (Str.ofString "mouse_sgr") (Str.ofString "mouse_urxvt") (Str.ofString "mouse_pixels") k) news) := by
  unfold Con2
  intro p loose mean mg mb dp un gd cn cs a ccd cl outer A₀ base h₀ L m s Q E B F X N T hk hd hu hret
  obtain ⟨sh, sg, sd, st', so⟩ := s
  refine wpAny_call ?_
  k_dflt cell_enter
  k_steps
  all_goals refine hret _ ((mo, _) :: (me, _) :: (st, _) :: news) _ _ (by assumption) (by first | assumption | exact cb_drop (by assumption) (by first | exact fun _ h => .tail _ (h) | exact fun _ h => .tail _ (.tail _ (h)) | exact fun _ h => .tail _ (.tail _ (.tail _ (h))) | exact fun _ h => .tail _ (.tail _ (.tail _ (.tail _ (h)))) | exact fun _ h => .tail _ (.tail _ (.tail _ (.tail _ (.tail _ (h))))) | exact fun _ h => .tail _ (.tail _ (.tail _ (.tail _ (.tail _ (.tail _ (h)))))) | exact fun _ h => .tail _ (.tail _ (.tail _ (.tail _ (.tail _ (.tail _ (.tail _ (h))))))) | exact fun _ h => .tail _ (.tail _ (.tail _ (.tail _ (.tail _ (.tail _ (.tail _ (.tail _ (h)))))))))) ⟨rfl, _, _, rfl, by assumption, by assumption, ?_⟩
  all_goals exact .put (.put (.put (.put (.put hD _ _) _ _) _ _) _ _) _ _


-- modes
theorem rows_modes : True := by
  w_top off
  k_with_none
  k_with "kba_ints2" => first | kba_ints | (apply ints_lit; (simp only [List.map_cons, List.map_nil, UInt8.reduceToNat, Int.cast_ofNat_Int]); (try exact rfl))
  k_with "compareOp Eq bytes bytes" => (k_here; (with_reducible show wpAny _ _ (compareOp CmpOp.Eq (Value.bytes _ _) (Value.bytes _ _)) _ _ _); (first | refine eq_ints_T (by kba_ints2) (by kba_ints2) (by assumption) ?_ | refine eq_ints_F (by kba_ints2) (by kba_ints2) (by assumption) ?_ | refine eq_ints (by kba_ints2) (by kba_ints2) ?_))
  k_with "compareOp NotEq bytes bytes" => (k_here; (with_reducible show wpAny _ _ (compareOp CmpOp.NotEq (Value.bytes _ _) (Value.bytes _ _)) _ _ _); (refine ne_ints (by kba_ints2) (by kba_ints2) ?_))
  k_with "compareOp NotIn bytes ref" => (k_here; (with_reducible show wpAny _ _ (compareOp CmpOp.NotIn (Value.bytes _ _) (Value.ref _)) _ _ _); (refine notIn_two (by k_asm) (by k_mem) (by kba_ints2) (by kba_ints2) (by kba_ints2) ?_))
  k_with "subscriptTail" => (k_here; (with_reducible show wpAny _ _ (subscriptTail _ (Expr.Slice _ _ none _) (Value.bytes _ _) (Value.ref _)) _ _ _); (with_reducible rename Fr _ _ _ _ => F'); (with_reducible rename News _ _ _ _ => N'); (refine slice_C (s := ⟨_, _, _, _, _⟩) F' N' (by kba_ints2) (by constructor) (by constructor) (by kba_size) (by intro i hi; simp at hi; try (subst hi; omega)) (by intro i hi; simp at hi; try (subst hi; omega)) (by first | exact cut_z3 | exact cut_z2 | exact cut_z | exact cut_mid3 (by omega) | exact cut_mid2 (by omega) | exact cut_lit3 | exact cut_lit2 | exact cut_lit3' | exact cut_lit2' | exact cut_two | exact cut_tail | exact cut_head') ?_); intro _ _ _ _ _ _ kbcK; (try simp only [Int.toNat_zero, Int.toNat_ofNat, List.drop_zero] at kbcK))
  k_with "ktr_room" => first | exact room9 (by assumption) rfl | exact Nat.lt_of_le_of_lt (Nat.le_add_right _ _) (by assumption)
  k_with "ktr_units" => exact units9 (by assumption) rfl
  k_with "getMethod bytes" => (k_here; first | refine meth_starts ?_ | refine meth_split ?_ | refine meth_join ?_)
  k_with "call builtin:bytes.startswith" => (k_here; first | refine call_starts_T (by kba_ints2) (by kba_ints2) (by assumption) ?_ | refine call_starts_F (by kba_ints2) (by kba_ints2) (by assumption) ?_ | refine call_starts_I (by kba_ints2) (by kba_ints2) ?_)
  k_with "CompEnd" => (refine LCg.CompEnd.intro (by assumption) (by assumption) _ (fun _ h => h) (by assumption) (by exact Or.inr ⟨_, by k_mem, rfl, _, rfl⟩) ?_)
  k_with "call type:bytes" => (k_here; (with_reducible show wpAny _ _ (call (Value.type "bytes") [Value.ref _]) _ _ _); (refine' KBa.make_K ?kbaF ?kbaN ?kbah ?kbal ?kbai ?kbar ?kban ?_; (case kbaF => k_asm); (case kbaN => k_asm); (case kbah => rfl); (case kbal => kba_isList); (case kbai => kba_listInts); (case kbar => (repeat' (first | exact List.forall_mem_nil _ | (refine List.forall_mem_cons.mpr ⟨⟨?_, ?_⟩, ?_⟩) | omega | (simp only [fd10, fm10]; omega)))); (case kban => kba_size)); intro _ _ _ F' N' kbaIn; (have kbaM := KBa.ints_make kbaIn))
  k_with "cell_enter" => (refine' code_defC ?k1 ?k2 ?k3 ?k4 ?k5 ?kA ?kF ?kK ?k6 ?k7 ?k8 ?k9 ?kB ?kD ?_ ?c2 ?c3 ?c4; (case kA => exact rfl); (case kF => exact rfl); (case kK => first | exact rfl | assumption); (case k1 => k_asm); (case k2 => k_asm); (case k3 => k_asm); (case k4 => k_asm); (case k5 => k_asm); (case k6 => k_is); (case k7 => k_is); (case k8 => ktr_room); (case k9 => first | exact BindsTo.of_eq rfl | exact binds_K (by k_in) rfl (by k_is) rfl rfl rfl); (case kB => exact rfl); (case kD => decide +kernel); (case c2 => exact rfl); (case c3 => exact rfl); (case c4 => exact rfl); k_whole; intro g' L' h' tk' cells' FG' F' N' Y' B' X' T' l1; (try k_lt l1); k_cells Y'; (try simp only [List.cons_append, List.nil_append] at N'); (try dsimp only); (try k_lift B'); (try k_fold))
  k_with "call builtin:bytes.join" => (k_here; refine call_join_I (by k_asm) (by k_mem) rfl rfl (by kba_ints2) (by kba_ints2) (by kba_ints2) (by kba_ints2) (by first | assumption | decide) (by first | assumption | decide) (by first | assumption | decide) (by first | assumption | decide) ?_; intro _ _ _ kbJ; (try simp only [List.append_nil] at kbJ))
  k_with "units_room" => exact room_deep (by omega)
  k_with "cell_enter" => (refine' code_def ?k1 ?k2 ?k3 ?k4 ?k5 ?kA ?kF ?kK ?k6 ?k7 ?k8 ?k9 ?kB ?_ ?c2 ?c3 ?c4 ?c5; (case kA => exact rfl); (case kF => exact rfl); (case kK => first | exact rfl | assumption); (case k1 => k_asm); (case k2 => k_asm); (case k3 => k_asm); (case k4 => k_asm); (case k5 => k_asm); (case k6 => k_is); (case k7 => k_is); (case k8 => ktr_room); (case k9 => exact binds_K (by k_in) rfl (by k_is) rfl rfl rfl); (case c5 => decide); (case kB => exact locs rfl); (case c2 => exact rfl); (case c3 => exact rfl); (case c4 => exact rfl); k_whole; intro g' L' h' FG' F' N' B' X' T'; (try dsimp only); (try k_fold))
  k_with "con" => (k_here; (with_reducible show wpAny _ _ (call (Value.ref 59) [Value.ref _, Value.str _ _]) _ _ _); k_dflt (
    refine' Con.useV ?cC ?cB ?cF ?cX ?cN ?cT ?cK ?cD ?cU ?_
    (case cB => k_asm); (case cF => k_asm); (case cX => k_asm); (case cN => k_asm); (case cT => k_asm); (case cK => first | exact rfl | assumption | with_unfolding_all rfl)
    (case cC => (refine' Con.dup (os := [_, _, _]) (mem3 ?m1 ?m2 ?m3) (con_is_on _ _ _ _ _ _ _ _ _ _ _ _ ?s1 ?s2 ?s3 _); (case m1 => k_mem); (case m2 => k_mem); (case m3 => k_mem); (case s1 => assumption); (case s2 => assumption); (case s3 => assumption)))
    (case cD => ktr_room); (case cU => ktr_units)
    (intro t9 h' tk' F' N'; (try dsimp only); (try k_fold))))
  k_with "con" => (k_here; (with_reducible show wpAny _ _ (call (Value.ref 38) [Value.str (Str.ofString "mouse_all") _]) _ _ _); k_dflt (
    refine Con.useV (con_group_all _ _ _) (by k_asm) (by k_asm) (by k_asm) (by k_asm) (by k_asm) (by first | exact rfl | assumption) (by ktr_room) (by ktr_units) ?_
    (intro t9 h' tk' F' N'; (try dsimp only); (try k_fold))))
  k_with "con" => (k_here; (with_reducible show wpAny _ _ (call (Value.ref 38) [Value.str _ _]) _ _ _); k_dflt (
    refine Con.useV (con_group_way _ _ (by assumption) _ _) (by k_asm) (by k_asm) (by k_asm) (by k_asm) (by k_asm) (by first | exact rfl | assumption) (by ktr_room) (by ktr_units) ?_
    (intro t9 h' tk' F' N'; (try dsimp only); (try k_fold))))
  k_with "con" => (k_here; (with_reducible show wpAny _ _ (call (Value.ref 80) [Value.ref _]) _ _ _); k_dflt (
    refine' Con.useV ?cC ?cB ?cF ?cX ?cN ?cT ?cK ?cD ?cU ?_
    (case cB => k_asm); (case cF => k_asm); (case cX => k_asm); (case cN => k_asm); (case cT => k_asm); (case cK => first | exact rfl | assumption | with_unfolding_all rfl)
    (case cC => (refine' Con.dup (os := [_, _, _]) (mem3 ?m1 ?m2 ?m3) (con_modeW _ _ _ _ _ _ _ _ _ ?s1 _); (case m1 => k_mem); (case m2 => k_mem); (case m3 => k_mem); (case s1 => assumption)))
    (case cD => ktr_room); (case cU => ktr_units)
    (intro t9 h' tk' F' N'; (try dsimp only); (try k_fold))))
  k_with "con" => (k_here; (with_reducible show wpAny _ _ (call (Value.ref 87) [Value.ref _]) _ _ _); k_dflt (
    refine' Con.useV ?cC ?cB ?cF ?cX ?cN ?cT ?cK ?cD ?cU ?_
    (case cB => k_asm); (case cF => k_asm); (case cX => k_asm); (case cN => k_asm); (case cT => k_asm); (case cK => first | exact rfl | assumption | with_unfolding_all rfl)
    (case cC => (refine' Con.dup (os := [_, _, _]) (mem3 ?m1 ?m2 ?m3) (con_encW _ _ _ _ _ _ _ _ _ ?s1 _); (case m1 => k_mem); (case m2 => k_mem); (case m3 => k_mem); (case s1 => assumption)))
    (case cD => ktr_room); (case cU => ktr_units)
    (intro t9 h' tk' F' N'; (try dsimp only [wayV0, wayV1, wayV2, wayV3]); (try k_fold))))
  trivial
noncomputable def kvs0 : List (Str × Value) := (stored (stored (stored (stored (stored [] (Str.ofString "send_receive") (.bool true)) (Str.ofString "autowrap") (.bool true)) (Str.ofString "autorepeat") (.bool true)) (Str.ofString "show_cursor") (.bool true)) (Str.ofString "num_lock") (.bool true))
-- a Modes object made anew
noncomputable def ModesR (w : World) (news : List (Addr × Obj)) (r : Value) (tl : List (Addr × Obj)) : Prop :=
  ∃ mo me st kp v20 v21 o D, r = .ref mo ∧ tl = (mo, instObj 69 me) :: (me, dictOf [⟨PyData.keyHash w.params (Str.ofString "states"), .str (Str.ofString "states") v20, .ref st⟩, ⟨PyData.keyHash w.params (Str.ofString "kept"), .str (Str.ofString "kept") v21, .ref kp⟩] 2) :: (st, o) :: [] ∧ (st == sysModules) = false ∧ @LT.lt Nat _ mo st ∧ @LT.lt Nat _ me st ∧ (∀ p ∈ news, p.1 < mo) ∧ (∀ p ∈ news, p.1 < me) ∧ o.IsDictOf (PySem.strKind P0 w) kvs0 ∧ PyProof.V.FlatPairs PyData.str kvs0 D ∧ PyProof.V.LenLe D 9
theorem own_modes_1 : True := by
  k_with "UnrEndW" => (refine unrEndW_head (by assumption) (by assumption) (by assumption) ⟨by k_subL, ?_⟩)
  k_with "exec For Name Name" => (k_here; (rename Fr _ _ _ _ => lF'); (with_unfolding_all refine' For_turnsG lF' ?g ?_; (case g => exact rfl); k_whole))
  k_with "setItem ref str" => (k_here; k_dflt (refine' setItem_K PyProof.V.same_str (strKind_is _ _ _ _) ?v ?F ?N ?U ?d ?f ?_ ?z; (case F => k_asm); (case N => k_asm); (case U => k_updF); (case d => k_asm); (case f => k_asm); (case z => first | exact line_of_lenLe (by assumption) (by omega) | exact line_of_lenLe (PyProof.V.LenLe.put (by assumption) _ _) (by omega) | exact line_of_lenLe (PyProof.V.LenLe.put (PyProof.V.LenLe.put (by assumption) _ _) _ _) (by omega) | exact line_of_lenLe (PyProof.V.LenLe.put (PyProof.V.LenLe.put (PyProof.V.LenLe.put (by assumption) _ _) _ _) _ _) (by omega) | exact line_of_lenLe (PyProof.V.LenLe.put (PyProof.V.LenLe.put (PyProof.V.LenLe.put (PyProof.V.LenLe.put (by assumption) _ _) _ _) _ _) _ _) (by omega) | exact line_of_lenLe (PyProof.V.LenLe.put (PyProof.V.LenLe.put (PyProof.V.LenLe.put (PyProof.V.LenLe.put (PyProof.V.LenLe.put (by assumption) _ _) _ _) _ _) _ _) _ _) (by omega)); (case v => k_flat)); intro h' o' F' N' hd' hf'; (try dsimp only at N'); (try k_sweep))
  trivial
theorem cb_modes {a b c d : Addr × Obj} {news : List (Addr × Obj)} : ∀ p ∈ [c, d, b] ++ news, p ∈ a :: b :: c :: d :: news := fun p hp => by
  rcases List.mem_cons.mp hp with rfl | hp
  · exact .tail _ (.tail _ (.head _))
  rcases List.mem_cons.mp hp with rfl | hp
  · exact .tail _ (.tail _ (.tail _ (.head _)))
  rcases List.mem_cons.mp hp with rfl | hp
  · exact .tail _ (.head _)
  · exact .tail _ (.tail _ (.tail _ (.tail _ hp)))
set_option maxRecDepth 100000 in
set_option maxHeartbeats 8000000 in
theorem con_modes (w : World) (news) : Con w 3 69 [] news (ModesR w news) := by
  unfold Con
  intro p loose mean mg mb dp un gd cn cs a ccd cl outer A₀ base h₀ L m s Q E B F X N T hk hd hu hret
  obtain ⟨sh, sg, sd, st', so⟩ := s
  k_dflt (refine' call_cls ?k1 ?k2 ?k3 ?k4 ?k5 ?k6 ?_; (case k1 => k_asm); (case k2 => k_asm); (case k3 => k_asm); (case k4 => k_is); (case k5 => k_is); (case k6 => k_is); k_whole; intro x' d' h' F' N' l1 l2; (try k_lt l1); (try k_lt2 l2); (try k_sweep))
  k_dflt (refine' code_def ?k1 ?k2 ?k3 ?k4 ?k5 ?kA ?kF ?kK ?k6 ?k7 ?k8 ?k9 ?kB ?_ ?c2 ?c3 ?c4 ?c5; (case kA => exact rfl); (case kF => exact rfl); (case kK => first | exact rfl | assumption); (case k1 => k_asm); (case k2 => k_asm); (case k3 => k_asm); (case k4 => k_asm); (case k5 => k_asm); (case k6 => k_is); (case k7 => k_is); (case k8 => ktr_room); (case k9 => first | exact BindsTo.of_eq rfl | exact binds_K (by k_in) rfl (by k_is) rfl rfl rfl); (case c5 => decide); (case kB => exact locs rfl); (case c2 => exact rfl); (case c3 => exact rfl); (case c4 => exact rfl); k_whole; intro g' L' h' FG' F' N' B' X' T'; (try dsimp only); (try k_fold))
  have h9 : PyProof.V.LenLe [] 9 := Nat.zero_le _
  k_steps
  refine hret _ [_, _, _] _ _ (by assumption) (cb_drop (by assumption) cb_modes) ⟨x', d', _, _, _, _, _, _, rfl, rfl, by assumption, ?_, ?_, ?_, l1, by assumption, by assumption, ?_⟩
  · omega
  · omega
  · exact fun p hp => Nat.lt_trans (l1 p hp) l2
  · exact .put (.put (.put (.put (.put (show PyProof.V.LenLe [] 4 from Nat.zero_le 4) _ _) _ _) _ _) _ _) _ _


-- rowdef
theorem rows_rowdef : True := by
  w_top off
  k_with_none
  k_with "kba_ints2" => first | kba_ints | (apply ints_lit; (simp only [List.map_cons, List.map_nil, UInt8.reduceToNat, Int.cast_ofNat_Int]); (try exact rfl))
  k_with "compareOp Eq bytes bytes" => (k_here; (with_reducible show wpAny _ _ (compareOp CmpOp.Eq (Value.bytes _ _) (Value.bytes _ _)) _ _ _); (first | refine eq_ints_T (by kba_ints2) (by kba_ints2) (by assumption) ?_ | refine eq_ints_F (by kba_ints2) (by kba_ints2) (by assumption) ?_ | refine eq_ints (by kba_ints2) (by kba_ints2) ?_))
  k_with "compareOp NotEq bytes bytes" => (k_here; (with_reducible show wpAny _ _ (compareOp CmpOp.NotEq (Value.bytes _ _) (Value.bytes _ _)) _ _ _); (refine ne_ints (by kba_ints2) (by kba_ints2) ?_))
  k_with "compareOp NotIn bytes ref" => (k_here; (with_reducible show wpAny _ _ (compareOp CmpOp.NotIn (Value.bytes _ _) (Value.ref _)) _ _ _); (refine notIn_two (by k_asm) (by k_mem) (by kba_ints2) (by kba_ints2) (by kba_ints2) ?_))
  k_with "subscriptTail" => (k_here; (with_reducible show wpAny _ _ (subscriptTail _ (Expr.Slice _ _ none _) (Value.bytes _ _) (Value.ref _)) _ _ _); (with_reducible rename Fr _ _ _ _ => F'); (with_reducible rename News _ _ _ _ => N'); (refine slice_C (s := ⟨_, _, _, _, _⟩) F' N' (by kba_ints2) (by constructor) (by constructor) (by kba_size) (by intro i hi; simp at hi; try (subst hi; omega)) (by intro i hi; simp at hi; try (subst hi; omega)) (by first | exact cut_z3 | exact cut_z2 | exact cut_z | exact cut_mid3 (by omega) | exact cut_mid2 (by omega) | exact cut_lit3 | exact cut_lit2 | exact cut_lit3' | exact cut_lit2' | exact cut_two | exact cut_tail | exact cut_head') ?_); intro _ _ _ _ _ _ kbcK; (try simp only [Int.toNat_zero, Int.toNat_ofNat, List.drop_zero] at kbcK))
  k_with "ktr_room" => first | exact room9 (by assumption) rfl | exact Nat.lt_of_le_of_lt (Nat.le_add_right _ _) (by assumption)
  k_with "ktr_units" => exact units9 (by assumption) rfl
  k_with "getMethod bytes" => (k_here; first | refine meth_starts ?_ | refine meth_split ?_ | refine meth_join ?_)
  k_with "call builtin:bytes.startswith" => (k_here; first | refine call_starts_T (by kba_ints2) (by kba_ints2) (by assumption) ?_ | refine call_starts_F (by kba_ints2) (by kba_ints2) (by assumption) ?_ | refine call_starts_I (by kba_ints2) (by kba_ints2) ?_)
  k_with "CompEnd" => (refine LCg.CompEnd.intro (by assumption) (by assumption) _ (fun _ h => h) (by assumption) (by exact Or.inr ⟨_, by k_mem, rfl, _, rfl⟩) ?_)
  k_with "call type:bytes" => (k_here; (with_reducible show wpAny _ _ (call (Value.type "bytes") [Value.ref _]) _ _ _); (refine' KBa.make_K ?kbaF ?kbaN ?kbah ?kbal ?kbai ?kbar ?kban ?_; (case kbaF => k_asm); (case kbaN => k_asm); (case kbah => rfl); (case kbal => kba_isList); (case kbai => kba_listInts); (case kbar => (repeat' (first | exact List.forall_mem_nil _ | (refine List.forall_mem_cons.mpr ⟨⟨?_, ?_⟩, ?_⟩) | omega | (simp only [fd10, fm10]; omega)))); (case kban => kba_size)); intro _ _ _ F' N' kbaIn; (have kbaM := KBa.ints_make kbaIn))
  k_with "cell_enter" => (refine' code_defC ?k1 ?k2 ?k3 ?k4 ?k5 ?kA ?kF ?kK ?k6 ?k7 ?k8 ?k9 ?kB ?kD ?_ ?c2 ?c3 ?c4; (case kA => exact rfl); (case kF => exact rfl); (case kK => first | exact rfl | assumption); (case k1 => k_asm); (case k2 => k_asm); (case k3 => k_asm); (case k4 => k_asm); (case k5 => k_asm); (case k6 => k_is); (case k7 => k_is); (case k8 => ktr_room); (case k9 => first | exact BindsTo.of_eq rfl | exact binds_K (by k_in) rfl (by k_is) rfl rfl rfl); (case kB => exact rfl); (case kD => decide +kernel); (case c2 => exact rfl); (case c3 => exact rfl); (case c4 => exact rfl); k_whole; intro g' L' h' tk' cells' FG' F' N' Y' B' X' T' l1; (try k_lt l1); k_cells Y'; (try simp only [List.cons_append, List.nil_append] at N'); (try dsimp only); (try k_lift B'); (try k_fold))
  k_with "call builtin:bytes.join" => (k_here; refine call_join_I (by k_asm) (by k_mem) rfl rfl (by kba_ints2) (by kba_ints2) (by kba_ints2) (by kba_ints2) (by first | assumption | decide) (by first | assumption | decide) (by first | assumption | decide) (by first | assumption | decide) ?_; intro _ _ _ kbJ; (try simp only [List.append_nil] at kbJ))
  k_with "units_room" => exact room_deep (by omega)
  k_with "cell_enter" => (refine' code_def ?k1 ?k2 ?k3 ?k4 ?k5 ?kA ?kF ?kK ?k6 ?k7 ?k8 ?k9 ?kB ?_ ?c2 ?c3 ?c4 ?c5; (case kA => exact rfl); (case kF => exact rfl); (case kK => first | exact rfl | assumption); (case k1 => k_asm); (case k2 => k_asm); (case k3 => k_asm); (case k4 => k_asm); (case k5 => k_asm); (case k6 => k_is); (case k7 => k_is); (case k8 => ktr_room); (case k9 => exact binds_K (by k_in) rfl (by k_is) rfl rfl rfl); (case c5 => decide); (case kB => exact locs rfl); (case c2 => exact rfl); (case c3 => exact rfl); (case c4 => exact rfl); k_whole; intro g' L' h' FG' F' N' B' X' T'; (try dsimp only); (try k_fold))
  k_with "con" => (k_here; (with_reducible show wpAny _ _ (call (Value.ref 59) [Value.ref _, Value.str _ _]) _ _ _); k_dflt (
    refine' Con.useV ?cC ?cB ?cF ?cX ?cN ?cT ?cK ?cD ?cU ?_
    (case cB => k_asm); (case cF => k_asm); (case cX => k_asm); (case cN => k_asm); (case cT => k_asm); (case cK => first | exact rfl | assumption | with_unfolding_all rfl)
    (case cC => (refine' Con.dup (os := [_, _, _]) (mem3 ?m1 ?m2 ?m3) (con_is_on _ _ _ _ _ _ _ _ _ _ _ _ ?s1 ?s2 ?s3 _); (case m1 => k_mem); (case m2 => k_mem); (case m3 => k_mem); (case s1 => assumption); (case s2 => assumption); (case s3 => assumption)))
    (case cD => ktr_room); (case cU => ktr_units)
    (intro t9 h' tk' F' N'; (try dsimp only); (try k_fold))))
  k_with "con" => (k_here; (with_reducible show wpAny _ _ (call (Value.ref 38) [Value.str (Str.ofString "mouse_all") _]) _ _ _); k_dflt (
    refine Con.useV (con_group_all _ _ _) (by k_asm) (by k_asm) (by k_asm) (by k_asm) (by k_asm) (by first | exact rfl | assumption) (by ktr_room) (by ktr_units) ?_
    (intro t9 h' tk' F' N'; (try dsimp only); (try k_fold))))
  k_with "con" => (k_here; (with_reducible show wpAny _ _ (call (Value.ref 38) [Value.str _ _]) _ _ _); k_dflt (
    refine Con.useV (con_group_way _ _ (by assumption) _ _) (by k_asm) (by k_asm) (by k_asm) (by k_asm) (by k_asm) (by first | exact rfl | assumption) (by ktr_room) (by ktr_units) ?_
    (intro t9 h' tk' F' N'; (try dsimp only); (try k_fold))))
  k_with "con" => (k_here; (with_reducible show wpAny _ _ (call (Value.ref 80) [Value.ref _]) _ _ _); k_dflt (
    refine' Con.useV ?cC ?cB ?cF ?cX ?cN ?cT ?cK ?cD ?cU ?_
    (case cB => k_asm); (case cF => k_asm); (case cX => k_asm); (case cN => k_asm); (case cT => k_asm); (case cK => first | exact rfl | assumption | with_unfolding_all rfl)
    (case cC => (refine' Con.dup (os := [_, _, _]) (mem3 ?m1 ?m2 ?m3) (con_modeW _ _ _ _ _ _ _ _ _ ?s1 _); (case m1 => k_mem); (case m2 => k_mem); (case m3 => k_mem); (case s1 => assumption)))
    (case cD => ktr_room); (case cU => ktr_units)
    (intro t9 h' tk' F' N'; (try dsimp only); (try k_fold))))
  k_with "con" => (k_here; (with_reducible show wpAny _ _ (call (Value.ref 87) [Value.ref _]) _ _ _); k_dflt (
    refine' Con.useV ?cC ?cB ?cF ?cX ?cN ?cT ?cK ?cD ?cU ?_
    (case cB => k_asm); (case cF => k_asm); (case cX => k_asm); (case cN => k_asm); (case cT => k_asm); (case cK => first | exact rfl | assumption | with_unfolding_all rfl)
    (case cC => (refine' Con.dup (os := [_, _, _]) (mem3 ?m1 ?m2 ?m3) (con_encW _ _ _ _ _ _ _ _ _ ?s1 _); (case m1 => k_mem); (case m2 => k_mem); (case m3 => k_mem); (case s1 => assumption)))
    (case cD => ktr_room); (case cU => ktr_units)
    (intro t9 h' tk' F' N'; (try dsimp only [wayV0, wayV1, wayV2, wayV3]); (try k_fold))))
  k_with "con" => (k_here; (with_reducible show wpAny _ _ (call (Value.ref 69) ([] ++ [])) _ _ _); k_dflt (
    refine Con.useM (con_modes _ _) (by k_asm) (by k_asm) (by k_asm) (by k_asm) (by k_asm) (by first | exact rfl | assumption) (by ktr_room) (by ktr_units) ?_
    (intro mo9 me9 st9 kp9 v20 v21 o9 D9 h' tk' lo9 g1 g2 l9 l8 hd9 hf9 hD9 F' N'; (try k_lt l9); (try k_lt l8); (try dsimp only); (try k_fold))))
  k_with "con" => (k_here; (with_reducible show wpAny _ _ (call (Value.ref 183) [Value.bytes _ _, Value.int _ _, Value.bool _]) _ _ _); k_dflt (
    refine Con.useP (con_code_at _ _ _ _ _ _ _ (by kba_ints2) (by first | assumption | omega | (simp; omega)) (by first | assumption | omega | (simp; omega)) _) (by k_asm) (by k_asm) (by k_asm) (by k_asm) (by k_asm) (by first | exact rfl | assumption) (by ktr_room) (by ktr_units) ?_ ?_
    (rotate_left; (intro v9 n9 D9 t9 t8 h' tk' hO9 l9 F' N'; (try k_lt l9); (try have f9 := code8_bd (by assumption) (by first | assumption | omega) hO9); (try dsimp only); (try k_fold)); rotate_left; (intro hO9 h' tk' F' N'; (try dsimp only); (try k_fold)))))
  k_with "con" => (k_here; (with_reducible show wpAny _ _ (call (Value.ref 137) [Value.int _ _]) _ _ _); k_dflt (
    refine Con.useI (con_button _ _ _ (by first | assumption | omega | (simp; omega)) (by first | assumption | omega | (simp; omega)) _) (by k_asm) (by k_asm) (by k_asm) (by k_asm) (by k_asm) (by first | exact rfl | assumption) (by ktr_room) (by ktr_units) ?_ ?_
    (rotate_left; (intro v9 t9 h' tk' hO9 F' N'; (try dsimp only); (try k_fold)); rotate_left; (intro hO9 h' tk' F' N'; (try dsimp only); (try k_fold)))))
  k_with "con" => (k_here; (with_reducible show wpAny _ _ (call (Value.ref 105) [Value.str _ _, Value.int _ _, Value.int _ _, Value.int _ _, Value.int _ _]) _ _ _); k_dflt (
    refine Con.useE (con_ev _ _ _ _ _ _ _ _ _ _ _ _) (by k_asm) (by k_asm) (by k_asm) (by k_asm) (by k_asm) (by first | exact rfl | assumption) (by ktr_room) (by ktr_units) (fun e9 => nomatch e9) ?_
    (intro k9 bt9 r9 c9 md9 x9 d9 t0 t1 t2 t3 t4 t5 t6 t7 t8 t9 h' tk' hO9 l9 l8 F' N'; cases hO9; (try k_lt l9); (try k_lt2 l8); (try dsimp only); (try k_fold))))
  k_with "con" => (k_here; (with_reducible show wpAny _ _ (call (Value.ref 176) [Value.int _ _, Value.int _ _, Value.int _ _, Value.none, Value.int _ _, Value.int _ _]) _ _ _); k_dflt (
    refine Con.useE (con_event_of _ _ _ (by first | assumption | omega | (simp; omega)) (by first | assumption | omega | (simp; omega)) _ _ _ _ _ _ _) (by k_asm) (by k_asm) (by k_asm) (by k_asm) (by k_asm) (by first | exact rfl | assumption) (by ktr_room) (by ktr_units) ?_ ?_
    (rotate_left; (intro k9 bt9 r9 c9 md9 x9 d9 t0 t1 t2 t3 t4 t5 t6 t7 t8 t9 h' tk' hO9 l9 l8 F' N'; (try k_lt l9); (try k_lt2 l8); (try dsimp only); (try k_fold)); rotate_left; (intro hO9 h' tk' F' N'; (try dsimp only); (try k_fold)))))
  k_with "con" => (k_here; (with_reducible show wpAny _ _ (call (Value.ref 176) [Value.int _ _, Value.int _ _, Value.int _ _, Value.bool _, Value.int _ _, Value.int _ _]) _ _ _); k_dflt (
    refine Con.useE (con_event_ofB _ _ _ (by first | assumption | omega | (simp; omega)) (by first | assumption | omega | (simp; omega)) _ _ _ _ _ _ _ _) (by k_asm) (by k_asm) (by k_asm) (by k_asm) (by k_asm) (by first | exact rfl | assumption) (by ktr_room) (by ktr_units) ?_ ?_
    (rotate_left; (intro k9 bt9 r9 c9 md9 x9 d9 t0 t1 t2 t3 t4 t5 t6 t7 t8 t9 h' tk' hO9 l9 l8 F' N'; (try k_lt l9); (try k_lt2 l8); (try dsimp only); (try k_fold)); rotate_left; (intro hO9 h' tk' F' N'; (try dsimp only); (try k_fold)))))
  k_with "con" => (k_here; (with_reducible show wpAny _ _ (call (Value.ref 190) [Value.bytes _ _, Value.int _ _, Value.bool _]) _ _ _); k_dflt (
    refine Con.useF (con_read_plain _ _ _ _ _ _ _ (by kba_ints2) (by first | assumption | omega | (simp; omega)) (by first | assumption | omega | (simp; omega)) _) (by k_asm) (by k_asm) (by k_asm) (by k_asm) (by k_asm) (by first | exact rfl | assumption) (by ktr_room) (by ktr_units) ?_ ?_
    (rotate_left; (intro k9 bt9 r9 c9 md9 n9 D9 x9 d9 t9 t0 t1 t2 t3 t4 t5 t6 t7 t8 t9 h' tk' hO9 l9 l8 l7 F' N'; (try k_lt l9); (try k_lt2 l8); (try k_lt2 l7); (try dsimp only); (try k_fold)); rotate_left; (intro hO9 h' tk' F' N'; (try dsimp only); (try k_fold)))))
  k_with "con" => (k_here; (with_reducible show wpAny _ _ (call (Value.ref 28) [Value.bytes _ _]) _ _ _); k_dflt (
    refine Con.useI (con_number_of _ _ _ _ (by kba_ints2) (by first | assumption | omega | (simp; omega)) _) (by k_asm) (by k_asm) (by k_asm) (by k_asm) (by k_asm) (by first | exact rfl | assumption) (by ktr_room) (by ktr_units) ?_ ?_
    (rotate_left; (intro v9 t9 h' tk' hO9 F' N'; (try dsimp only); (try k_fold)); rotate_left; (intro hO9 h' tk' F' N'; (try dsimp only); (try k_fold)))))
  k_with "con" => (k_here; (with_reducible show wpAny _ _ (call (Value.ref 28) [Value.bytes _ _]) _ _ _); k_dflt (
    refine Con.useIs (con_number_of _ _ _ _ (by kba_ints2) (by first | assumption | omega | (simp; omega)) _) (by assumption) (by k_asm) (by k_asm) (by k_asm) (by k_asm) (by k_asm) (by first | exact rfl | assumption) (by ktr_room) (by ktr_units) ?_
    (intro t9 h' tk' F' N'; (try dsimp only); (try k_fold))))
  k_with "con" => (k_here; (with_reducible show wpAny _ _ (call (Value.ref 216) [Value.bytes _ _]) _ _ _); k_dflt (
    refine Con.useV (con_are_dec _ _ _ _ (by kba_ints2) (by first | assumption | omega | (simp; omega)) _) (by k_asm) (by k_asm) (by k_asm) (by k_asm) (by k_asm) (by first | exact rfl | assumption) (by ktr_room) (by ktr_units) ?_
    (intro t9 h' tk' F' N'; (try dsimp only); (try k_fold))))
  k_with "con" => (k_here; (with_reducible show wpAny _ _ (call (Value.ref 195) [Value.bytes _ _, Value.int _ _]) _ _ _); k_dflt (
    refine Con.useD (con_dec_at _ _ _ _ _ _ (by kba_ints2) (by first | assumption | omega | (simp; omega)) (by first | assumption | omega | (simp; omega)) (by first | assumption | omega | (simp; omega)) (by assumption) _) (by k_asm) (by k_asm) (by k_asm) (by k_asm) (by k_asm) (by first | exact rfl | assumption) (by ktr_room) (by ktr_units) ?_ ?_
    (rotate_left; (intro a9 b9 c9 t9 n9 T9 D9 t0 t1 t2 t3 t4 k9 h' tk' hO9 l9 l8 F' N'; (try k_lt l9); (try k_lt2 l8); (try have f9 := decAt_bd (by assumption) hO9); (try dsimp only); (try k_fold)); rotate_left; (intro hO9 h' tk' F' N'; (try dsimp only); (try k_fold)))))
  k_with "con" => (k_here; (with_reducible show wpAny _ _ (call (Value.ref 203) [Value.bytes _ _, Value.int _ _, Value.bool _]) _ _ _); k_dflt (
    refine Con.useFs (con_read_mouse _ _ _ _ _ _ (by kba_ints2) (by assumption) _) (by assumption) (by k_asm) (by k_asm) (by k_asm) (by k_asm) (by k_asm) (by first | exact rfl | assumption) (by ktr_room) (by ktr_units) ?_
    (intro D9 x9 d9 t9 t0 t1 t2 t3 t4 t5 t6 t7 t8 t8' h' tk' l9 l8 l7 F' N'; (try k_lt l9); (try k_lt2 l8); (try k_lt2 l7); (try dsimp only); (try k_fold))))
  k_with "con" => (k_here; (with_reducible show wpAny _ _ (call (Value.ref 203) [Value.bytes _ _, Value.int _ _, Value.bool _]) _ _ _); k_dflt (
    refine Con.useFn (con_read_mouse _ _ _ _ _ _ (by kba_ints2) (by assumption) _) (by assumption) (by k_asm) (by k_asm) (by k_asm) (by k_asm) (by k_asm) (by first | exact rfl | assumption) (by ktr_room) (by ktr_units) ?_
    (intro h' tk' F' N'; (try dsimp only); (try k_fold))))
  k_with "con" => (k_here; (with_reducible show wpAny _ _ (call (Value.ref 224) [Value.bytes _ _]) _ _ _); k_dflt (
    refine Con.useKs (con_read_focus _ _ _ _ (by kba_ints2) (by first | assumption | omega | (simp; omega)) _) (by assumption) (by k_asm) (by k_asm) (by k_asm) (by k_asm) (by k_asm) (by first | exact rfl | assumption) (by ktr_room) (by ktr_units) ?_
    (intro D9 t9 h' tk' l9 F' N'; (try k_lt l9); (try dsimp only); (try k_fold))))
  k_with "con" => (k_here; (with_reducible show wpAny _ _ (call (Value.ref 224) [Value.bytes _ _]) _ _ _); k_dflt (
    refine Con.useKn (con_read_focus _ _ _ _ (by kba_ints2) (by first | assumption | omega | (simp; omega)) _) (by assumption) (by k_asm) (by k_asm) (by k_asm) (by k_asm) (by k_asm) (by first | exact rfl | assumption) (by ktr_room) (by ktr_units) ?_
    (intro h' tk' F' N'; (try dsimp only); (try k_fold))))
  k_with "con" => (k_here; (with_reducible show wpAny _ _ (call (Value.ref 224) [Value.bytes _ _, Value.int _ _]) _ _ _); k_dflt (
    refine Con.useKs (con_read_focusAt _ _ _ _ _ _ (by kba_ints2) (by first | assumption | omega | (simp; omega)) (by first | assumption | omega | (simp; omega)) (by first | assumption | omega | (simp; omega)) _) (by assumption) (by k_asm) (by k_asm) (by k_asm) (by k_asm) (by k_asm) (by first | exact rfl | assumption) (by ktr_room) (by ktr_units) ?_
    (intro D9 t9 h' tk' l9 F' N'; (try k_lt l9); (try dsimp only); (try k_fold))))
  k_with "con" => (k_here; (with_reducible show wpAny _ _ (call (Value.ref 224) [Value.bytes _ _, Value.int _ _]) _ _ _); k_dflt (
    refine Con.useKn (con_read_focusAt _ _ _ _ _ _ (by kba_ints2) (by first | assumption | omega | (simp; omega)) (by first | assumption | omega | (simp; omega)) (by first | assumption | omega | (simp; omega)) _) (by assumption) (by k_asm) (by k_asm) (by k_asm) (by k_asm) (by k_asm) (by first | exact rfl | assumption) (by ktr_room) (by ktr_units) ?_
    (intro h' tk' F' N'; (try dsimp only); (try k_fold))))
  k_with "con" => (k_here; (with_reducible show wpAny _ _ (call (Value.ref 211) [Value.bytes _ _, Value.int _ _, Value.bool _]) _ _ _); k_dflt (
    refine Con.useVb (con_is_begun _ _ _ _ _ _ _ (by kba_ints2) (by first | assumption | omega | (simp; omega)) (by first | assumption | omega | (simp; omega)) _) (by assumption) (by k_asm) (by k_asm) (by k_asm) (by k_asm) (by k_asm) (by first | exact rfl | assumption) (by ktr_room) (by ktr_units) ?_
    (intro h' tk' F' N'; (try dsimp only); (try k_fold))))
  k_with "con" => (k_here; (with_reducible show wpAny _ _ (call (Value.ref 211) [Value.bytes _ _]) _ _ _); k_dflt (
    refine Con.useVb (con_is_begun0 _ _ _ _ (by kba_ints2) (by first | assumption | omega | (simp; omega)) _) (by assumption) (by k_asm) (by k_asm) (by k_asm) (by k_asm) (by k_asm) (by first | exact rfl | assumption) (by ktr_room) (by ktr_units) ?_
    (intro h' tk' F' N'; (try dsimp only); (try k_fold))))
  k_with "con" => (k_here; (with_reducible show wpAny _ _ (call (Value.ref 238) [Value.ref _]) _ _ _); k_dflt (
    refine' Con.useE ?cC ?cB ?cF ?cX ?cN ?cT ?cK ?cD ?cU ?cZ ?_
    (case cB => k_asm); (case cF => k_asm); (case cX => k_asm); (case cN => k_asm); (case cT => k_asm); (case cK => first | exact rfl | assumption | with_unfolding_all rfl)
    (case cC => (refine' Con.dupE (os := [_]) (mem1 ?m1) (con_lev _ _ _ _ _ _ _ _ _ _ _ _ _); (case m1 => k_mem); skip))
    (case cD => ktr_room); (case cU => ktr_units)
    (case cZ => exact fun e9 => nomatch e9)
    (intro k9 bt9 r9 c9 md9 x9 d9 t0 t1 t2 t3 t4 t5 t6 t7 t8 t9 h' tk' hO9 l9 l8 F' N'; cases hO9; (try k_lt l9); (try k_lt2 l8); (try dsimp only); (try k_fold))))
  k_with "con" => (k_here; (with_reducible show wpAny _ _ (call (Value.ref 245) [Value.ref _]) _ _ _); k_dflt (
    refine' Con.useT ?cC ?cB ?cF ?cX ?cN ?cT ?cK ?cD ?cU ?_
    (case cB => k_asm); (case cF => k_asm); (case cX => k_asm); (case cN => k_asm); (case cT => k_asm); (case cK => first | exact rfl | assumption | with_unfolding_all rfl)
    (case cC => (refine' Con.dupT (os := [_, _]) (mem2 ?m1 ?m2) (con_ltold _ _ _ _ _ _ _ _ _ _ _ _ _ _ _ _ _ _  _); (case m1 => k_mem); (case m2 => k_mem); skip))
    (case cD => ktr_room); (case cU => ktr_units)
    (intro T9 t0 t1 t2 t3 t4 h' tk' l9 F' N'; (try k_lt l9); (try dsimp only); (try k_fold))))
  k_with "con" => (k_here; (with_reducible show wpAny _ _ (call (Value.ref 116) [Value.ref _, Value.ref _]) _ _ _); k_dflt (
    refine' Con.useV ?cC ?cB ?cF ?cX ?cN ?cT ?cK ?cD ?cU ?_
    (case cB => k_asm); (case cF => k_asm); (case cX => k_asm); (case cN => k_asm); (case cT => k_asm); (case cK => first | exact rfl | assumption | with_unfolding_all rfl)
    (case cC => (refine' Con.dup (os := [_, _, _, _]) (mem4 ?m1 ?m2 ?m3 ?m4) (con_same _ _ _ _ _ _ _ _ _ _ _ _ _ _ _ _ _ _ _ _ _ _ _ _ _  _ _ _ _ _ _ _ _ _ _  _); (case m1 => k_mem); (case m2 => k_mem); (case m3 => k_mem); (case m4 => k_mem); skip))
    (case cD => ktr_room); (case cU => ktr_units)
    (intro t9 h' tk' F' N'; (try dsimp only); (try k_fold))))
  k_with "con" => (k_here; (with_reducible show wpAny _ _ (call (Value.ref 238) [Value.ref _]) _ _ _); k_dflt (
    refine' Con.useEo ?cC ?cB ?cF ?cX ?cN ?cT ?cK ?cD ?cU ?_
    (case cB => k_asm); (case cF => k_asm); (case cX => k_asm); (case cN => k_asm); (case cT => k_asm); (case cK => first | exact rfl | assumption | with_unfolding_all rfl)
    (case cC => (refine' Con.dupE (os := [_]) (mem1 ?m1) (con_levL _ _ _ _ _ _ _ _ _ _ _ _ _ _); (case m1 => k_mem)))
    (case cD => ktr_room); (case cU => ktr_units)
    (intro x9 p91 p92 h' tk' hP9 l9 l8 F' N'; (try k_lt l9); (try dsimp only); (try k_fold))))
  k_with "con" => (k_here; (with_reducible show wpAny _ _ (call (Value.ref 238) [Value.ref _]) _ _ _); k_dflt (
    refine' Con.useEo ?cC ?cB ?cF ?cX ?cN ?cT ?cK ?cD ?cU ?_
    (case cB => k_asm); (case cF => k_asm); (case cX => k_asm); (case cN => k_asm); (case cT => k_asm); (case cK => first | exact rfl | assumption | with_unfolding_all rfl)
    (case cC => (refine' Con.dupE (os := [_]) (mem1 ?m1) (con_lev _ _ _ _ _ _ _ _ _ _ _ _ _); (case m1 => k_mem)))
    (case cD => ktr_room); (case cU => ktr_units)
    (intro x9 p91 p92 h' tk' hP9 l9 l8 F' N'; (try k_lt l9); (try dsimp only); (try k_fold))))
  k_with "con" => (k_here; (with_reducible show wpAny _ _ (call (Value.ref 116) [Value.ref _, Value.ref _]) _ _ _); k_dflt (
    refine' Con.useVb ?cC ?hv ?cB ?cF ?cX ?cN ?cT ?cK ?cD ?cU ?_
    (case cB => k_asm); (case cF => k_asm); (case cX => k_asm); (case cN => k_asm); (case cT => k_asm); (case cK => first | exact rfl | assumption | with_unfolding_all rfl)
    (case cC => (refine' Con.dup (os := [_, _, _, _]) (mem4 ?m1 ?m2 ?m3 ?m4) (con_sameP _ _ _ _ _ _ _ _ _ ?p1 ?p2 _); (case p1 => assumption); (case p2 => assumption); (case m1 => k_mem); (case m2 => k_mem); (case m3 => k_mem); (case m4 => k_mem)))
    (case hv => assumption); (case cD => ktr_room); (case cU => ktr_units)
    (intro h' tk' F' N'; (try dsimp only); (try k_fold))))
  k_with "con" => (k_here; (with_reducible show wpAny _ _ (call (Value.ref 245) [Value.ref _]) _ _ _); k_dflt (
    refine' Con.useT ?cC ?cB ?cF ?cX ?cN ?cT ?cK ?cD ?cU ?_
    (case cB => k_asm); (case cF => k_asm); (case cX => k_asm); (case cN => k_asm); (case cT => k_asm); (case cK => first | exact rfl | assumption | with_unfolding_all rfl)
    (case cC => (refine' Con.dupT (os := [_, _]) (mem2 ?m1 ?m2) (con_ltoldP _ _ _ _ _ ?p1 _); (case p1 => assumption); (case m1 => k_mem); (case m2 => k_mem)))
    (case cD => ktr_room); (case cU => ktr_units)
    (intro T9 t0 t1 t2 t3 t4 h' tk' l9 F' N'; (try k_lt l9); (try dsimp only); (try k_fold))))
  k_with "con" => (k_here; (with_reducible show wpAny _ _ (call (Value.ref 203) [Value.bytes _ _, Value.int _ _, Value.bool _]) _ _ _); k_dflt (
    refine Con.useFsP (con_read_mouse _ _ _ _ _ _ (by kba_ints2) (by assumption) _) (by assumption) (by k_asm) (by k_asm) (by k_asm) (by k_asm) (by k_asm) (by first | exact rfl | assumption) (by ktr_room) (by ktr_units) ?_
    (intro D9 x9 p91 p92 t9 h' tk' hP9 l9 l8 l7 F' N'; (try k_lt l9); (try dsimp only); (try k_fold))))
  k_with "con" => (k_here; (with_reducible show wpAny _ _ (call (Value.ref 123) [Value.int _ _]) _ _ _); k_dflt (
    refine Con.useV (con_is_wheel _ _ _ _) (by k_asm) (by k_asm) (by k_asm) (by k_asm) (by k_asm) (by first | exact rfl | assumption) (by ktr_room) (by ktr_units) ?_
    (intro t9 h' tk' F' N'; (try dsimp only); (try k_fold))))
  k_with "con" => (k_here; (with_reducible show wpAny _ _ (call (Value.ref 144) [Value.ref _, Value.str _ _]) _ _ _); k_dflt (
    refine' Con.useV ?cC ?cB ?cF ?cX ?cN ?cT ?cK ?cD ?cU ?_
    (case cB => k_asm); (case cF => k_asm); (case cX => k_asm); (case cN => k_asm); (case cT => k_asm); (case cK => first | exact rfl | assumption | with_unfolding_all rfl)
    (case cC => (refine' Con.dup (os := [_, _]) (mem2 ?m1 ?m2) (con_told _ _ _ _ _ _ _ _ _ _ _ _ _ _ _ _ _ _  _ ?s1 _); (case m1 => k_mem); (case m2 => k_mem); (case s1 => assumption)))
    (case cD => ktr_room); (case cU => ktr_units)
    (intro t9 h' tk' F' N'; (try dsimp only); (try k_fold))))
  k_with "con" => (k_here; (with_reducible show wpAny _ _ (call (Value.ref 21) [Value.int _ _]) _ _ _); k_dflt (
    refine Con.useB (con_dec_oct _ _ _ (by first | assumption | omega | (simp; omega)) (by first | assumption | omega | (simp; omega)) _) (by k_asm) (by k_asm) (by k_asm) (by k_asm) (by k_asm) (by first | exact rfl | assumption) (by ktr_room) (by ktr_units) ?_
    (intro b9 t9 h' tk' hO9 F' N'; (try dsimp only); (try k_fold))))
  k_with "con" => (k_here; (with_reducible show wpAny _ _ (call (Value.ref 151) [Value.int _ _]) _ _ _); k_dflt (
    refine Con.useB (con_code_oct _ _ _ (by first | assumption | omega | (simp; omega)) (by first | assumption | omega | (simp; omega)) _) (by k_asm) (by k_asm) (by k_asm) (by k_asm) (by k_asm) (by first | exact rfl | assumption) (by ktr_room) (by ktr_units) ?_
    (intro b9 t9 h' tk' hO9 F' N'; (try dsimp only); (try k_fold))))
  k_with "con" => (k_here; (with_reducible show wpAny _ _ (call (Value.ref 156) [Value.ref _, Value.int _ _, Value.bool false]) _ _ _); k_dflt (
    refine' Con.useB ?cC ?cB ?cF ?cX ?cN ?cT ?cK ?cD ?cU ?_
    (case cB => k_asm); (case cF => k_asm); (case cX => k_asm); (case cN => k_asm); (case cT => k_asm); (case cK => first | exact rfl | assumption | with_unfolding_all rfl)
    (case cC => (refine' Con.dup (os := [_]) (mem1 ?m1) (con_plain_oct _ _ _ _ _ _ _ _ _ _ ?s1 ?s2 ?s3 ?s4 ?s5 ?s6 _); (case m1 => k_mem); (case s1 => first | assumption | omega); (case s2 => first | assumption | omega); (case s3 => first | assumption | omega); (case s4 => first | assumption | omega); (case s5 => first | assumption | omega); (case s6 => first | assumption | omega)))
    (case cD => ktr_room); (case cU => ktr_units)
    (intro b9 t9 h' tk' hO9 F' N'; (try dsimp only); (try k_fold))))
  k_with "con" => (k_here; (with_reducible show wpAny _ _ (call (Value.ref 156) [Value.ref _, Value.int _ _, Value.bool true]) _ _ _); k_dflt (
    refine' Con.useB ?cC ?cB ?cF ?cX ?cN ?cT ?cK ?cD ?cU ?_
    (case cB => k_asm); (case cF => k_asm); (case cX => k_asm); (case cN => k_asm); (case cT => k_asm); (case cK => first | exact rfl | assumption | with_unfolding_all rfl)
    (case cC => (refine' Con.dup (os := [_]) (mem1 ?m1) (con_plain_utf _ _ _ _ _ _ _ _ _ _ ?s1 ?s2 ?s3 ?s4 ?s5 ?s6 _); (case m1 => k_mem); (case s1 => first | assumption | omega); (case s2 => first | assumption | omega); (case s3 => first | assumption | omega); (case s4 => first | assumption | omega); (case s5 => first | assumption | omega); (case s6 => first | assumption | omega)))
    (case cD => ktr_room); (case cU => ktr_units)
    (intro b9 t9 h' tk' hO9 F' N'; (try dsimp only); (try k_fold))))
  k_with "con" => (k_here; (with_reducible show wpAny _ _ (call (Value.ref 161) [Value.ref _]) _ _ _); k_dflt (
    refine' Con.useB ?cC ?cB ?cF ?cX ?cN ?cT ?cK ?cD ?cU ?_
    (case cB => k_asm); (case cF => k_asm); (case cX => k_asm); (case cN => k_asm); (case cT => k_asm); (case cK => first | exact rfl | assumption | with_unfolding_all rfl)
    (case cC => (refine' Con.dup (os := [_]) (mem1 ?m1) (con_decimals _ _ _ _ _ _ _ _ _ ?s1 ?s2 ?s3 ?s4 ?s5 ?s6 _); (case m1 => k_mem); (case s1 => first | assumption | omega); (case s2 => first | assumption | omega); (case s3 => first | assumption | omega); (case s4 => first | assumption | omega); (case s5 => first | assumption | omega); (case s6 => first | assumption | omega)))
    (case cD => ktr_room); (case cU => ktr_units)
    (intro b9 t9 h' tk' hO9 F' N'; (try dsimp only); (try k_fold))))
  k_with "con" => (k_here; (with_reducible show wpAny _ _ (call (Value.ref 130) [Value.ref _, Value.bool _]) _ _ _); k_dflt (
    refine' Con.useV ?cC ?cB ?cF ?cX ?cN ?cT ?cK ?cD ?cU ?_
    (case cB => k_asm); (case cF => k_asm); (case cX => k_asm); (case cN => k_asm); (case cT => k_asm); (case cK => first | exact rfl | assumption | with_unfolding_all rfl)
    (case cC => (refine' Con.dup (os := [_, _]) (mem2 ?m1 ?m2) (con_number _ _ _ _ _ _ _ _ _ _ _ _ _ _ _ _ _ _  0 _ ?s1 ?s2 ?s3 ?s4 ?s5 _); (case m1 => k_mem); (case m2 => k_mem); (case s1 => first | assumption | omega); (case s2 => first | assumption | omega); (case s3 => first | assumption | omega); (case s4 => first | assumption | omega); (case s5 => first | assumption | omega)))
    (case cD => ktr_room); (case cU => ktr_units)
    (intro t9 h' tk' F' N'; (try dsimp only); (try k_fold))))
  trivial
-- the octets of an event, by the way
noncomputable def msgI : Nat → Ev → List Int
  | 0, e => [27, 91, 77, mnum e.k e.bt e.md false + 32, e.c + 1 + 32, e.r + 1 + 32]
  | 1, e => ([27, 91, 77] ++ (codeI (mnum e.k e.bt e.md false + 32) ++ codeI (e.c + 1 + 32) ++ codeI (e.r + 1 + 32)))
  | 2, e => ([27, 91, 60] ++ (decI (mnum e.k e.bt e.md true) ++ [59] ++ decI (e.c + 1) ++ [59] ++ decI (e.r + 1)) ++ [if e.k = Str.ofString "release" then 109 else 77])
  | _, e => ([27, 91] ++ (decI (mnum e.k e.bt e.md false + 32) ++ [59] ++ decI (e.c + 1) ++ [59] ++ decI (e.r + 1)) ++ [77])
theorem con_oct (w : World) (x d mo me st kp : Addr) (k : Str) (bt r c md : Int) (u0 u1 u2 u3 u4 u5 u6 u7 u8 u9 v20 v21 : Tok) (o : Obj) (y : Nat) (hy : y < 4) (hw : WayOk w y st o) (ht : Told k bt) (h0 : 0 ≤ bt) (h1 : bt ≤ 11) (h2 : 0 ≤ md) (h3 : md ≤ 7) (hk3 : k = Str.ofString "press" ∨ k = Str.ofString "release" ∨ k = Str.ofString "move") (hr0 : 0 ≤ r) (hr1 : r ≤ 199) (hc0 : 0 ≤ c) (hc1 : c ≤ 222) (news) :
   Con w 24 169 [.ref x, .ref mo] ((x, instObj 105 d) :: (d, dictOf [⟨PyData.keyHash w.params (Str.ofString "kind"), .str (Str.ofString "kind") u0, .str k u1⟩, ⟨PyData.keyHash w.params (Str.ofString "button"), .str (Str.ofString "button") u2, .int bt u3⟩, ⟨PyData.keyHash w.params (Str.ofString "row"), .str (Str.ofString "row") u4, .int r u5⟩, ⟨PyData.keyHash w.params (Str.ofString "column"), .str (Str.ofString "column") u6, .int c u7⟩, ⟨PyData.keyHash w.params (Str.ofString "modifiers"), .str (Str.ofString "modifiers") u8, .int md u9⟩] 5) :: (mo, instObj 69 me) :: (me, dictOf [⟨PyData.keyHash w.params (Str.ofString "states"), .str (Str.ofString "states") v20, .ref st⟩, ⟨PyData.keyHash w.params (Str.ofString "kept"), .str (Str.ofString "kept") v21, .ref kp⟩] 2) :: (st, o) :: news) (BytesR (msgI y ⟨k, bt, r, c, md⟩)) := by
  have hy' : y = 0 ∨ y = 1 ∨ y = 2 ∨ y = 3 := by omega
  rcases hy' with rfl | rfl | rfl | rfl
  · exact con_oct0 w x d mo me st kp k bt r c md u0 u1 u2 u3 u4 u5 u6 u7 u8 u9 v20 v21 o hw ht h0 h1 h2 h3 hk3 hr0 hr1 hc0 hc1 news
  · exact con_oct1 w x d mo me st kp k bt r c md u0 u1 u2 u3 u4 u5 u6 u7 u8 u9 v20 v21 o hw ht h0 h1 h2 h3 hk3 hr0 hr1 hc0 hc1 news
  · exact con_oct2 w x d mo me st kp k bt r c md u0 u1 u2 u3 u4 u5 u6 u7 u8 u9 v20 v21 o hw ht h0 h1 h2 h3 hk3 hr0 hr1 hc0 hc1 news
  · exact con_oct3 w x d mo me st kp k bt r c md u0 u1 u2 u3 u4 u5 u6 u7 u8 u9 v20 v21 o hw ht h0 h1 h2 h3 hk3 hr0 hr1 hc0 hc1 news
noncomputable def pickOf (a : Int) : Int := (a.fdiv 3).fmod 3
noncomputable def rowOct (y : Nat) (a b c e : Int) : List Int := msgI y (evOfCells a b c e) ++ (if pickOf a = 0 then [27, 91, 73] else if pickOf a = 1 then [27, 91, 79] else [])
-- as the reader names it
noncomputable def namedEv (y : Nat) (e : Ev) : Ev := if e.k = Str.ofString "release" ∧ y ≠ 2 then ⟨e.k, 0, e.r, e.c, e.md⟩ else e
noncomputable def rowDue (y : Nat) (a b c e : Int) : List LD := .ev (namedEv y (evOfCells a b c e)) :: (if pickOf a = 0 then [.fo true] else if pickOf a = 1 then [.fo false] else [])
noncomputable def octN (y : Nat) (cs : List Int) : Nat → List Int
  | 0 => []
  | i + 1 => octN y cs i ++ rowOct y (cs.getD (4 * i) 0) (cs.getD (4 * i + 1) 0) (cs.getD (4 * i + 2) 0) (cs.getD (4 * i + 3) 0)
noncomputable def dueN (y : Nat) (cs : List Int) : Nat → List LD
  | 0 => []
  | i + 1 => dueN y cs i ++ rowDue y (cs.getD (4 * i) 0) (cs.getD (4 * i + 1) 0) (cs.getD (4 * i + 2) 0) (cs.getD (4 * i + 3) 0)


-- rowlem
theorem rows_rowlem : True := by
  w_top off
  k_with_none
  k_with "kba_ints2" => first | kba_ints | (apply ints_lit; (simp only [List.map_cons, List.map_nil, UInt8.reduceToNat, Int.cast_ofNat_Int]); (try exact rfl))
  k_with "compareOp Eq bytes bytes" => (k_here; (with_reducible show wpAny _ _ (compareOp CmpOp.Eq (Value.bytes _ _) (Value.bytes _ _)) _ _ _); (first | refine eq_ints_T (by kba_ints2) (by kba_ints2) (by assumption) ?_ | refine eq_ints_F (by kba_ints2) (by kba_ints2) (by assumption) ?_ | refine eq_ints (by kba_ints2) (by kba_ints2) ?_))
  k_with "compareOp NotEq bytes bytes" => (k_here; (with_reducible show wpAny _ _ (compareOp CmpOp.NotEq (Value.bytes _ _) (Value.bytes _ _)) _ _ _); (refine ne_ints (by kba_ints2) (by kba_ints2) ?_))
  k_with "compareOp NotIn bytes ref" => (k_here; (with_reducible show wpAny _ _ (compareOp CmpOp.NotIn (Value.bytes _ _) (Value.ref _)) _ _ _); (refine notIn_two (by k_asm) (by k_mem) (by kba_ints2) (by kba_ints2) (by kba_ints2) ?_))
  k_with "subscriptTail" => (k_here; (with_reducible show wpAny _ _ (subscriptTail _ (Expr.Slice _ _ none _) (Value.bytes _ _) (Value.ref _)) _ _ _); (with_reducible rename Fr _ _ _ _ => F'); (with_reducible rename News _ _ _ _ => N'); (refine slice_C (s := ⟨_, _, _, _, _⟩) F' N' (by kba_ints2) (by constructor) (by constructor) (by kba_size) (by intro i hi; simp at hi; try (subst hi; omega)) (by intro i hi; simp at hi; try (subst hi; omega)) (by first | exact cut_z3 | exact cut_z2 | exact cut_z | exact cut_mid3 (by omega) | exact cut_mid2 (by omega) | exact cut_lit3 | exact cut_lit2 | exact cut_lit3' | exact cut_lit2' | exact cut_two | exact cut_tail | exact cut_head') ?_); intro _ _ _ _ _ _ kbcK; (try simp only [Int.toNat_zero, Int.toNat_ofNat, List.drop_zero] at kbcK))
  k_with "ktr_room" => first | exact room9 (by assumption) rfl | exact Nat.lt_of_le_of_lt (Nat.le_add_right _ _) (by assumption)
  k_with "ktr_units" => exact units9 (by assumption) rfl
  k_with "getMethod bytes" => (k_here; first | refine meth_starts ?_ | refine meth_split ?_ | refine meth_join ?_)
  k_with "call builtin:bytes.startswith" => (k_here; first | refine call_starts_T (by kba_ints2) (by kba_ints2) (by assumption) ?_ | refine call_starts_F (by kba_ints2) (by kba_ints2) (by assumption) ?_ | refine call_starts_I (by kba_ints2) (by kba_ints2) ?_)
  k_with "CompEnd" => (refine LCg.CompEnd.intro (by assumption) (by assumption) _ (fun _ h => h) (by assumption) (by exact Or.inr ⟨_, by k_mem, rfl, _, rfl⟩) ?_)
  k_with "call type:bytes" => (k_here; (with_reducible show wpAny _ _ (call (Value.type "bytes") [Value.ref _]) _ _ _); (refine' KBa.make_K ?kbaF ?kbaN ?kbah ?kbal ?kbai ?kbar ?kban ?_; (case kbaF => k_asm); (case kbaN => k_asm); (case kbah => rfl); (case kbal => kba_isList); (case kbai => kba_listInts); (case kbar => (repeat' (first | exact List.forall_mem_nil _ | (refine List.forall_mem_cons.mpr ⟨⟨?_, ?_⟩, ?_⟩) | omega | (simp only [fd10, fm10]; omega)))); (case kban => kba_size)); intro _ _ _ F' N' kbaIn; (have kbaM := KBa.ints_make kbaIn))
  k_with "cell_enter" => (refine' code_defC ?k1 ?k2 ?k3 ?k4 ?k5 ?kA ?kF ?kK ?k6 ?k7 ?k8 ?k9 ?kB ?kD ?_ ?c2 ?c3 ?c4; (case kA => exact rfl); (case kF => exact rfl); (case kK => first | exact rfl | assumption); (case k1 => k_asm); (case k2 => k_asm); (case k3 => k_asm); (case k4 => k_asm); (case k5 => k_asm); (case k6 => k_is); (case k7 => k_is); (case k8 => ktr_room); (case k9 => first | exact BindsTo.of_eq rfl | exact binds_K (by k_in) rfl (by k_is) rfl rfl rfl); (case kB => exact rfl); (case kD => decide +kernel); (case c2 => exact rfl); (case c3 => exact rfl); (case c4 => exact rfl); k_whole; intro g' L' h' tk' cells' FG' F' N' Y' B' X' T' l1; (try k_lt l1); k_cells Y'; (try simp only [List.cons_append, List.nil_append] at N'); (try dsimp only); (try k_lift B'); (try k_fold))
  k_with "call builtin:bytes.join" => (k_here; refine call_join_I (by k_asm) (by k_mem) rfl rfl (by kba_ints2) (by kba_ints2) (by kba_ints2) (by kba_ints2) (by first | assumption | decide) (by first | assumption | decide) (by first | assumption | decide) (by first | assumption | decide) ?_; intro _ _ _ kbJ; (try simp only [List.append_nil] at kbJ))
  k_with "units_room" => exact room_deep (by omega)
  k_with "cell_enter" => (refine' code_def ?k1 ?k2 ?k3 ?k4 ?k5 ?kA ?kF ?kK ?k6 ?k7 ?k8 ?k9 ?kB ?_ ?c2 ?c3 ?c4 ?c5; (case kA => exact rfl); (case kF => exact rfl); (case kK => first | exact rfl | assumption); (case k1 => k_asm); (case k2 => k_asm); (case k3 => k_asm); (case k4 => k_asm); (case k5 => k_asm); (case k6 => k_is); (case k7 => k_is); (case k8 => ktr_room); (case k9 => exact binds_K (by k_in) rfl (by k_is) rfl rfl rfl); (case c5 => decide); (case kB => exact locs rfl); (case c2 => exact rfl); (case c3 => exact rfl); (case c4 => exact rfl); k_whole; intro g' L' h' FG' F' N' B' X' T'; (try dsimp only); (try k_fold))
  k_with "con" => (k_here; (with_reducible show wpAny _ _ (call (Value.ref 59) [Value.ref _, Value.str _ _]) _ _ _); k_dflt (
    refine' Con.useV ?cC ?cB ?cF ?cX ?cN ?cT ?cK ?cD ?cU ?_
    (case cB => k_asm); (case cF => k_asm); (case cX => k_asm); (case cN => k_asm); (case cT => k_asm); (case cK => first | exact rfl | assumption | with_unfolding_all rfl)
    (case cC => (refine' Con.dup (os := [_, _, _]) (mem3 ?m1 ?m2 ?m3) (con_is_on _ _ _ _ _ _ _ _ _ _ _ _ ?s1 ?s2 ?s3 _); (case m1 => k_mem); (case m2 => k_mem); (case m3 => k_mem); (case s1 => assumption); (case s2 => assumption); (case s3 => assumption)))
    (case cD => ktr_room); (case cU => ktr_units)
    (intro t9 h' tk' F' N'; (try dsimp only); (try k_fold))))
  k_with "con" => (k_here; (with_reducible show wpAny _ _ (call (Value.ref 38) [Value.str (Str.ofString "mouse_all") _]) _ _ _); k_dflt (
    refine Con.useV (con_group_all _ _ _) (by k_asm) (by k_asm) (by k_asm) (by k_asm) (by k_asm) (by first | exact rfl | assumption) (by ktr_room) (by ktr_units) ?_
    (intro t9 h' tk' F' N'; (try dsimp only); (try k_fold))))
  k_with "con" => (k_here; (with_reducible show wpAny _ _ (call (Value.ref 38) [Value.str _ _]) _ _ _); k_dflt (
    refine Con.useV (con_group_way _ _ (by assumption) _ _) (by k_asm) (by k_asm) (by k_asm) (by k_asm) (by k_asm) (by first | exact rfl | assumption) (by ktr_room) (by ktr_units) ?_
    (intro t9 h' tk' F' N'; (try dsimp only); (try k_fold))))
  k_with "con" => (k_here; (with_reducible show wpAny _ _ (call (Value.ref 80) [Value.ref _]) _ _ _); k_dflt (
    refine' Con.useV ?cC ?cB ?cF ?cX ?cN ?cT ?cK ?cD ?cU ?_
    (case cB => k_asm); (case cF => k_asm); (case cX => k_asm); (case cN => k_asm); (case cT => k_asm); (case cK => first | exact rfl | assumption | with_unfolding_all rfl)
    (case cC => (refine' Con.dup (os := [_, _, _]) (mem3 ?m1 ?m2 ?m3) (con_modeW _ _ _ _ _ _ _ _ _ ?s1 _); (case m1 => k_mem); (case m2 => k_mem); (case m3 => k_mem); (case s1 => assumption)))
    (case cD => ktr_room); (case cU => ktr_units)
    (intro t9 h' tk' F' N'; (try dsimp only); (try k_fold))))
  k_with "con" => (k_here; (with_reducible show wpAny _ _ (call (Value.ref 87) [Value.ref _]) _ _ _); k_dflt (
    refine' Con.useV ?cC ?cB ?cF ?cX ?cN ?cT ?cK ?cD ?cU ?_
    (case cB => k_asm); (case cF => k_asm); (case cX => k_asm); (case cN => k_asm); (case cT => k_asm); (case cK => first | exact rfl | assumption | with_unfolding_all rfl)
    (case cC => (refine' Con.dup (os := [_, _, _]) (mem3 ?m1 ?m2 ?m3) (con_encW _ _ _ _ _ _ _ _ _ ?s1 _); (case m1 => k_mem); (case m2 => k_mem); (case m3 => k_mem); (case s1 => assumption)))
    (case cD => ktr_room); (case cU => ktr_units)
    (intro t9 h' tk' F' N'; (try dsimp only [wayV0, wayV1, wayV2, wayV3]); (try k_fold))))
  k_with "con" => (k_here; (with_reducible show wpAny _ _ (call (Value.ref 69) ([] ++ [])) _ _ _); k_dflt (
    refine Con.useM (con_modes _ _) (by k_asm) (by k_asm) (by k_asm) (by k_asm) (by k_asm) (by first | exact rfl | assumption) (by ktr_room) (by ktr_units) ?_
    (intro mo9 me9 st9 kp9 v20 v21 o9 D9 h' tk' lo9 g1 g2 l9 l8 hd9 hf9 hD9 F' N'; (try k_lt l9); (try k_lt l8); (try dsimp only); (try k_fold))))
  k_with "con" => (k_here; (with_reducible show wpAny _ _ (call (Value.ref 183) [Value.bytes _ _, Value.int _ _, Value.bool _]) _ _ _); k_dflt (
    refine Con.useP (con_code_at _ _ _ _ _ _ _ (by kba_ints2) (by first | assumption | omega | (simp; omega)) (by first | assumption | omega | (simp; omega)) _) (by k_asm) (by k_asm) (by k_asm) (by k_asm) (by k_asm) (by first | exact rfl | assumption) (by ktr_room) (by ktr_units) ?_ ?_
    (rotate_left; (intro v9 n9 D9 t9 t8 h' tk' hO9 l9 F' N'; (try k_lt l9); (try have f9 := code8_bd (by assumption) (by first | assumption | omega) hO9); (try dsimp only); (try k_fold)); rotate_left; (intro hO9 h' tk' F' N'; (try dsimp only); (try k_fold)))))
  k_with "con" => (k_here; (with_reducible show wpAny _ _ (call (Value.ref 137) [Value.int _ _]) _ _ _); k_dflt (
    refine Con.useI (con_button _ _ _ (by first | assumption | omega | (simp; omega)) (by first | assumption | omega | (simp; omega)) _) (by k_asm) (by k_asm) (by k_asm) (by k_asm) (by k_asm) (by first | exact rfl | assumption) (by ktr_room) (by ktr_units) ?_ ?_
    (rotate_left; (intro v9 t9 h' tk' hO9 F' N'; (try dsimp only); (try k_fold)); rotate_left; (intro hO9 h' tk' F' N'; (try dsimp only); (try k_fold)))))
  k_with "con" => (k_here; (with_reducible show wpAny _ _ (call (Value.ref 105) [Value.str _ _, Value.int _ _, Value.int _ _, Value.int _ _, Value.int _ _]) _ _ _); k_dflt (
    refine Con.useE (con_ev _ _ _ _ _ _ _ _ _ _ _ _) (by k_asm) (by k_asm) (by k_asm) (by k_asm) (by k_asm) (by first | exact rfl | assumption) (by ktr_room) (by ktr_units) (fun e9 => nomatch e9) ?_
    (intro k9 bt9 r9 c9 md9 x9 d9 t0 t1 t2 t3 t4 t5 t6 t7 t8 t9 h' tk' hO9 l9 l8 F' N'; cases hO9; (try k_lt l9); (try k_lt2 l8); (try dsimp only); (try k_fold))))
  k_with "con" => (k_here; (with_reducible show wpAny _ _ (call (Value.ref 176) [Value.int _ _, Value.int _ _, Value.int _ _, Value.none, Value.int _ _, Value.int _ _]) _ _ _); k_dflt (
    refine Con.useE (con_event_of _ _ _ (by first | assumption | omega | (simp; omega)) (by first | assumption | omega | (simp; omega)) _ _ _ _ _ _ _) (by k_asm) (by k_asm) (by k_asm) (by k_asm) (by k_asm) (by first | exact rfl | assumption) (by ktr_room) (by ktr_units) ?_ ?_
    (rotate_left; (intro k9 bt9 r9 c9 md9 x9 d9 t0 t1 t2 t3 t4 t5 t6 t7 t8 t9 h' tk' hO9 l9 l8 F' N'; (try k_lt l9); (try k_lt2 l8); (try dsimp only); (try k_fold)); rotate_left; (intro hO9 h' tk' F' N'; (try dsimp only); (try k_fold)))))
  k_with "con" => (k_here; (with_reducible show wpAny _ _ (call (Value.ref 176) [Value.int _ _, Value.int _ _, Value.int _ _, Value.bool _, Value.int _ _, Value.int _ _]) _ _ _); k_dflt (
    refine Con.useE (con_event_ofB _ _ _ (by first | assumption | omega | (simp; omega)) (by first | assumption | omega | (simp; omega)) _ _ _ _ _ _ _ _) (by k_asm) (by k_asm) (by k_asm) (by k_asm) (by k_asm) (by first | exact rfl | assumption) (by ktr_room) (by ktr_units) ?_ ?_
    (rotate_left; (intro k9 bt9 r9 c9 md9 x9 d9 t0 t1 t2 t3 t4 t5 t6 t7 t8 t9 h' tk' hO9 l9 l8 F' N'; (try k_lt l9); (try k_lt2 l8); (try dsimp only); (try k_fold)); rotate_left; (intro hO9 h' tk' F' N'; (try dsimp only); (try k_fold)))))
  k_with "con" => (k_here; (with_reducible show wpAny _ _ (call (Value.ref 190) [Value.bytes _ _, Value.int _ _, Value.bool _]) _ _ _); k_dflt (
    refine Con.useF (con_read_plain _ _ _ _ _ _ _ (by kba_ints2) (by first | assumption | omega | (simp; omega)) (by first | assumption | omega | (simp; omega)) _) (by k_asm) (by k_asm) (by k_asm) (by k_asm) (by k_asm) (by first | exact rfl | assumption) (by ktr_room) (by ktr_units) ?_ ?_
    (rotate_left; (intro k9 bt9 r9 c9 md9 n9 D9 x9 d9 t9 t0 t1 t2 t3 t4 t5 t6 t7 t8 t9 h' tk' hO9 l9 l8 l7 F' N'; (try k_lt l9); (try k_lt2 l8); (try k_lt2 l7); (try dsimp only); (try k_fold)); rotate_left; (intro hO9 h' tk' F' N'; (try dsimp only); (try k_fold)))))
  k_with "con" => (k_here; (with_reducible show wpAny _ _ (call (Value.ref 28) [Value.bytes _ _]) _ _ _); k_dflt (
    refine Con.useI (con_number_of _ _ _ _ (by kba_ints2) (by first | assumption | omega | (simp; omega)) _) (by k_asm) (by k_asm) (by k_asm) (by k_asm) (by k_asm) (by first | exact rfl | assumption) (by ktr_room) (by ktr_units) ?_ ?_
    (rotate_left; (intro v9 t9 h' tk' hO9 F' N'; (try dsimp only); (try k_fold)); rotate_left; (intro hO9 h' tk' F' N'; (try dsimp only); (try k_fold)))))
  k_with "con" => (k_here; (with_reducible show wpAny _ _ (call (Value.ref 28) [Value.bytes _ _]) _ _ _); k_dflt (
    refine Con.useIs (con_number_of _ _ _ _ (by kba_ints2) (by first | assumption | omega | (simp; omega)) _) (by assumption) (by k_asm) (by k_asm) (by k_asm) (by k_asm) (by k_asm) (by first | exact rfl | assumption) (by ktr_room) (by ktr_units) ?_
    (intro t9 h' tk' F' N'; (try dsimp only); (try k_fold))))
  k_with "con" => (k_here; (with_reducible show wpAny _ _ (call (Value.ref 216) [Value.bytes _ _]) _ _ _); k_dflt (
    refine Con.useV (con_are_dec _ _ _ _ (by kba_ints2) (by first | assumption | omega | (simp; omega)) _) (by k_asm) (by k_asm) (by k_asm) (by k_asm) (by k_asm) (by first | exact rfl | assumption) (by ktr_room) (by ktr_units) ?_
    (intro t9 h' tk' F' N'; (try dsimp only); (try k_fold))))
  k_with "con" => (k_here; (with_reducible show wpAny _ _ (call (Value.ref 195) [Value.bytes _ _, Value.int _ _]) _ _ _); k_dflt (
    refine Con.useD (con_dec_at _ _ _ _ _ _ (by kba_ints2) (by first | assumption | omega | (simp; omega)) (by first | assumption | omega | (simp; omega)) (by first | assumption | omega | (simp; omega)) (by assumption) _) (by k_asm) (by k_asm) (by k_asm) (by k_asm) (by k_asm) (by first | exact rfl | assumption) (by ktr_room) (by ktr_units) ?_ ?_
    (rotate_left; (intro a9 b9 c9 t9 n9 T9 D9 t0 t1 t2 t3 t4 k9 h' tk' hO9 l9 l8 F' N'; (try k_lt l9); (try k_lt2 l8); (try have f9 := decAt_bd (by assumption) hO9); (try dsimp only); (try k_fold)); rotate_left; (intro hO9 h' tk' F' N'; (try dsimp only); (try k_fold)))))
  k_with "con" => (k_here; (with_reducible show wpAny _ _ (call (Value.ref 203) [Value.bytes _ _, Value.int _ _, Value.bool _]) _ _ _); k_dflt (
    refine Con.useFs (con_read_mouse _ _ _ _ _ _ (by kba_ints2) (by assumption) _) (by assumption) (by k_asm) (by k_asm) (by k_asm) (by k_asm) (by k_asm) (by first | exact rfl | assumption) (by ktr_room) (by ktr_units) ?_
    (intro D9 x9 d9 t9 t0 t1 t2 t3 t4 t5 t6 t7 t8 t8' h' tk' l9 l8 l7 F' N'; (try k_lt l9); (try k_lt2 l8); (try k_lt2 l7); (try dsimp only); (try k_fold))))
  k_with "con" => (k_here; (with_reducible show wpAny _ _ (call (Value.ref 203) [Value.bytes _ _, Value.int _ _, Value.bool _]) _ _ _); k_dflt (
    refine Con.useFn (con_read_mouse _ _ _ _ _ _ (by kba_ints2) (by assumption) _) (by assumption) (by k_asm) (by k_asm) (by k_asm) (by k_asm) (by k_asm) (by first | exact rfl | assumption) (by ktr_room) (by ktr_units) ?_
    (intro h' tk' F' N'; (try dsimp only); (try k_fold))))
  k_with "con" => (k_here; (with_reducible show wpAny _ _ (call (Value.ref 224) [Value.bytes _ _]) _ _ _); k_dflt (
    refine Con.useKs (con_read_focus _ _ _ _ (by kba_ints2) (by first | assumption | omega | (simp; omega)) _) (by assumption) (by k_asm) (by k_asm) (by k_asm) (by k_asm) (by k_asm) (by first | exact rfl | assumption) (by ktr_room) (by ktr_units) ?_
    (intro D9 t9 h' tk' l9 F' N'; (try k_lt l9); (try dsimp only); (try k_fold))))
  k_with "con" => (k_here; (with_reducible show wpAny _ _ (call (Value.ref 224) [Value.bytes _ _]) _ _ _); k_dflt (
    refine Con.useKn (con_read_focus _ _ _ _ (by kba_ints2) (by first | assumption | omega | (simp; omega)) _) (by assumption) (by k_asm) (by k_asm) (by k_asm) (by k_asm) (by k_asm) (by first | exact rfl | assumption) (by ktr_room) (by ktr_units) ?_
    (intro h' tk' F' N'; (try dsimp only); (try k_fold))))
  k_with "con" => (k_here; (with_reducible show wpAny _ _ (call (Value.ref 224) [Value.bytes _ _, Value.int _ _]) _ _ _); k_dflt (
    refine Con.useKs (con_read_focusAt _ _ _ _ _ _ (by kba_ints2) (by first | assumption | omega | (simp; omega)) (by first | assumption | omega | (simp; omega)) (by first | assumption | omega | (simp; omega)) _) (by assumption) (by k_asm) (by k_asm) (by k_asm) (by k_asm) (by k_asm) (by first | exact rfl | assumption) (by ktr_room) (by ktr_units) ?_
    (intro D9 t9 h' tk' l9 F' N'; (try k_lt l9); (try dsimp only); (try k_fold))))
  k_with "con" => (k_here; (with_reducible show wpAny _ _ (call (Value.ref 224) [Value.bytes _ _, Value.int _ _]) _ _ _); k_dflt (
    refine Con.useKn (con_read_focusAt _ _ _ _ _ _ (by kba_ints2) (by first | assumption | omega | (simp; omega)) (by first | assumption | omega | (simp; omega)) (by first | assumption | omega | (simp; omega)) _) (by assumption) (by k_asm) (by k_asm) (by k_asm) (by k_asm) (by k_asm) (by first | exact rfl | assumption) (by ktr_room) (by ktr_units) ?_
    (intro h' tk' F' N'; (try dsimp only); (try k_fold))))
  k_with "con" => (k_here; (with_reducible show wpAny _ _ (call (Value.ref 211) [Value.bytes _ _, Value.int _ _, Value.bool _]) _ _ _); k_dflt (
    refine Con.useVb (con_is_begun _ _ _ _ _ _ _ (by kba_ints2) (by first | assumption | omega | (simp; omega)) (by first | assumption | omega | (simp; omega)) _) (by assumption) (by k_asm) (by k_asm) (by k_asm) (by k_asm) (by k_asm) (by first | exact rfl | assumption) (by ktr_room) (by ktr_units) ?_
    (intro h' tk' F' N'; (try dsimp only); (try k_fold))))
  k_with "con" => (k_here; (with_reducible show wpAny _ _ (call (Value.ref 211) [Value.bytes _ _]) _ _ _); k_dflt (
    refine Con.useVb (con_is_begun0 _ _ _ _ (by kba_ints2) (by first | assumption | omega | (simp; omega)) _) (by assumption) (by k_asm) (by k_asm) (by k_asm) (by k_asm) (by k_asm) (by first | exact rfl | assumption) (by ktr_room) (by ktr_units) ?_
    (intro h' tk' F' N'; (try dsimp only); (try k_fold))))
  k_with "con" => (k_here; (with_reducible show wpAny _ _ (call (Value.ref 238) [Value.ref _]) _ _ _); k_dflt (
    refine' Con.useE ?cC ?cB ?cF ?cX ?cN ?cT ?cK ?cD ?cU ?cZ ?_
    (case cB => k_asm); (case cF => k_asm); (case cX => k_asm); (case cN => k_asm); (case cT => k_asm); (case cK => first | exact rfl | assumption | with_unfolding_all rfl)
    (case cC => (refine' Con.dupE (os := [_]) (mem1 ?m1) (con_lev _ _ _ _ _ _ _ _ _ _ _ _ _); (case m1 => k_mem); skip))
    (case cD => ktr_room); (case cU => ktr_units)
    (case cZ => exact fun e9 => nomatch e9)
    (intro k9 bt9 r9 c9 md9 x9 d9 t0 t1 t2 t3 t4 t5 t6 t7 t8 t9 h' tk' hO9 l9 l8 F' N'; cases hO9; (try k_lt l9); (try k_lt2 l8); (try dsimp only); (try k_fold))))
  k_with "con" => (k_here; (with_reducible show wpAny _ _ (call (Value.ref 245) [Value.ref _]) _ _ _); k_dflt (
    refine' Con.useT ?cC ?cB ?cF ?cX ?cN ?cT ?cK ?cD ?cU ?_
    (case cB => k_asm); (case cF => k_asm); (case cX => k_asm); (case cN => k_asm); (case cT => k_asm); (case cK => first | exact rfl | assumption | with_unfolding_all rfl)
    (case cC => (refine' Con.dupT (os := [_, _]) (mem2 ?m1 ?m2) (con_ltold _ _ _ _ _ _ _ _ _ _ _ _ _ _ _ _ _ _  _); (case m1 => k_mem); (case m2 => k_mem); skip))
    (case cD => ktr_room); (case cU => ktr_units)
    (intro T9 t0 t1 t2 t3 t4 h' tk' l9 F' N'; (try k_lt l9); (try dsimp only); (try k_fold))))
  k_with "con" => (k_here; (with_reducible show wpAny _ _ (call (Value.ref 116) [Value.ref _, Value.ref _]) _ _ _); k_dflt (
    refine' Con.useV ?cC ?cB ?cF ?cX ?cN ?cT ?cK ?cD ?cU ?_
    (case cB => k_asm); (case cF => k_asm); (case cX => k_asm); (case cN => k_asm); (case cT => k_asm); (case cK => first | exact rfl | assumption | with_unfolding_all rfl)
    (case cC => (refine' Con.dup (os := [_, _, _, _]) (mem4 ?m1 ?m2 ?m3 ?m4) (con_same _ _ _ _ _ _ _ _ _ _ _ _ _ _ _ _ _ _ _ _ _ _ _ _ _  _ _ _ _ _ _ _ _ _ _  _); (case m1 => k_mem); (case m2 => k_mem); (case m3 => k_mem); (case m4 => k_mem); skip))
    (case cD => ktr_room); (case cU => ktr_units)
    (intro t9 h' tk' F' N'; (try dsimp only); (try k_fold))))
  k_with "con" => (k_here; (with_reducible show wpAny _ _ (call (Value.ref 238) [Value.ref _]) _ _ _); k_dflt (
    refine' Con.useEo ?cC ?cB ?cF ?cX ?cN ?cT ?cK ?cD ?cU ?_
    (case cB => k_asm); (case cF => k_asm); (case cX => k_asm); (case cN => k_asm); (case cT => k_asm); (case cK => first | exact rfl | assumption | with_unfolding_all rfl)
    (case cC => (refine' Con.dupE (os := [_]) (mem1 ?m1) (con_levL _ _ _ _ _ _ _ _ _ _ _ _ _ _); (case m1 => k_mem)))
    (case cD => ktr_room); (case cU => ktr_units)
    (intro x9 p91 p92 h' tk' hP9 l9 l8 F' N'; (try k_lt l9); (try dsimp only); (try k_fold))))
  k_with "con" => (k_here; (with_reducible show wpAny _ _ (call (Value.ref 238) [Value.ref _]) _ _ _); k_dflt (
    refine' Con.useEo ?cC ?cB ?cF ?cX ?cN ?cT ?cK ?cD ?cU ?_
    (case cB => k_asm); (case cF => k_asm); (case cX => k_asm); (case cN => k_asm); (case cT => k_asm); (case cK => first | exact rfl | assumption | with_unfolding_all rfl)
    (case cC => (refine' Con.dupE (os := [_]) (mem1 ?m1) (con_lev _ _ _ _ _ _ _ _ _ _ _ _ _); (case m1 => k_mem)))
    (case cD => ktr_room); (case cU => ktr_units)
    (intro x9 p91 p92 h' tk' hP9 l9 l8 F' N'; (try k_lt l9); (try dsimp only); (try k_fold))))
  k_with "con" => (k_here; (with_reducible show wpAny _ _ (call (Value.ref 116) [Value.ref _, Value.ref _]) _ _ _); k_dflt (
    refine' Con.useVb ?cC ?hv ?cB ?cF ?cX ?cN ?cT ?cK ?cD ?cU ?_
    (case cB => k_asm); (case cF => k_asm); (case cX => k_asm); (case cN => k_asm); (case cT => k_asm); (case cK => first | exact rfl | assumption | with_unfolding_all rfl)
    (case cC => (refine' Con.dup (os := [_, _, _, _]) (mem4 ?m1 ?m2 ?m3 ?m4) (con_sameP _ _ _ _ _ _ _ _ _ ?p1 ?p2 _); (case p1 => assumption); (case p2 => assumption); (case m1 => k_mem); (case m2 => k_mem); (case m3 => k_mem); (case m4 => k_mem)))
    (case hv => assumption); (case cD => ktr_room); (case cU => ktr_units)
    (intro h' tk' F' N'; (try dsimp only); (try k_fold))))
  k_with "con" => (k_here; (with_reducible show wpAny _ _ (call (Value.ref 245) [Value.ref _]) _ _ _); k_dflt (
    refine' Con.useT ?cC ?cB ?cF ?cX ?cN ?cT ?cK ?cD ?cU ?_
    (case cB => k_asm); (case cF => k_asm); (case cX => k_asm); (case cN => k_asm); (case cT => k_asm); (case cK => first | exact rfl | assumption | with_unfolding_all rfl)
    (case cC => (refine' Con.dupT (os := [_, _]) (mem2 ?m1 ?m2) (con_ltoldP _ _ _ _ _ ?p1 _); (case p1 => assumption); (case m1 => k_mem); (case m2 => k_mem)))
    (case cD => ktr_room); (case cU => ktr_units)
    (intro T9 t0 t1 t2 t3 t4 h' tk' l9 F' N'; (try k_lt l9); (try dsimp only); (try k_fold))))
  k_with "con" => (k_here; (with_reducible show wpAny _ _ (call (Value.ref 203) [Value.bytes _ _, Value.int _ _, Value.bool _]) _ _ _); k_dflt (
    refine Con.useFsP (con_read_mouse _ _ _ _ _ _ (by kba_ints2) (by assumption) _) (by assumption) (by k_asm) (by k_asm) (by k_asm) (by k_asm) (by k_asm) (by first | exact rfl | assumption) (by ktr_room) (by ktr_units) ?_
    (intro D9 x9 p91 p92 t9 h' tk' hP9 l9 l8 l7 F' N'; (try k_lt l9); (try dsimp only); (try k_fold))))
  k_with "con" => (k_here; (with_reducible show wpAny _ _ (call (Value.ref 123) [Value.int _ _]) _ _ _); k_dflt (
    refine Con.useV (con_is_wheel _ _ _ _) (by k_asm) (by k_asm) (by k_asm) (by k_asm) (by k_asm) (by first | exact rfl | assumption) (by ktr_room) (by ktr_units) ?_
    (intro t9 h' tk' F' N'; (try dsimp only); (try k_fold))))
  k_with "con" => (k_here; (with_reducible show wpAny _ _ (call (Value.ref 144) [Value.ref _, Value.str _ _]) _ _ _); k_dflt (
    refine' Con.useV ?cC ?cB ?cF ?cX ?cN ?cT ?cK ?cD ?cU ?_
    (case cB => k_asm); (case cF => k_asm); (case cX => k_asm); (case cN => k_asm); (case cT => k_asm); (case cK => first | exact rfl | assumption | with_unfolding_all rfl)
    (case cC => (refine' Con.dup (os := [_, _]) (mem2 ?m1 ?m2) (con_told _ _ _ _ _ _ _ _ _ _ _ _ _ _ _ _ _ _  _ ?s1 _); (case m1 => k_mem); (case m2 => k_mem); (case s1 => assumption)))
    (case cD => ktr_room); (case cU => ktr_units)
    (intro t9 h' tk' F' N'; (try dsimp only); (try k_fold))))
  k_with "con" => (k_here; (with_reducible show wpAny _ _ (call (Value.ref 21) [Value.int _ _]) _ _ _); k_dflt (
    refine Con.useB (con_dec_oct _ _ _ (by first | assumption | omega | (simp; omega)) (by first | assumption | omega | (simp; omega)) _) (by k_asm) (by k_asm) (by k_asm) (by k_asm) (by k_asm) (by first | exact rfl | assumption) (by ktr_room) (by ktr_units) ?_
    (intro b9 t9 h' tk' hO9 F' N'; (try dsimp only); (try k_fold))))
  k_with "con" => (k_here; (with_reducible show wpAny _ _ (call (Value.ref 151) [Value.int _ _]) _ _ _); k_dflt (
    refine Con.useB (con_code_oct _ _ _ (by first | assumption | omega | (simp; omega)) (by first | assumption | omega | (simp; omega)) _) (by k_asm) (by k_asm) (by k_asm) (by k_asm) (by k_asm) (by first | exact rfl | assumption) (by ktr_room) (by ktr_units) ?_
    (intro b9 t9 h' tk' hO9 F' N'; (try dsimp only); (try k_fold))))
  k_with "con" => (k_here; (with_reducible show wpAny _ _ (call (Value.ref 156) [Value.ref _, Value.int _ _, Value.bool false]) _ _ _); k_dflt (
    refine' Con.useB ?cC ?cB ?cF ?cX ?cN ?cT ?cK ?cD ?cU ?_
    (case cB => k_asm); (case cF => k_asm); (case cX => k_asm); (case cN => k_asm); (case cT => k_asm); (case cK => first | exact rfl | assumption | with_unfolding_all rfl)
    (case cC => (refine' Con.dup (os := [_]) (mem1 ?m1) (con_plain_oct _ _ _ _ _ _ _ _ _ _ ?s1 ?s2 ?s3 ?s4 ?s5 ?s6 _); (case m1 => k_mem); (case s1 => first | assumption | omega); (case s2 => first | assumption | omega); (case s3 => first | assumption | omega); (case s4 => first | assumption | omega); (case s5 => first | assumption | omega); (case s6 => first | assumption | omega)))
    (case cD => ktr_room); (case cU => ktr_units)
    (intro b9 t9 h' tk' hO9 F' N'; (try dsimp only); (try k_fold))))
  k_with "con" => (k_here; (with_reducible show wpAny _ _ (call (Value.ref 156) [Value.ref _, Value.int _ _, Value.bool true]) _ _ _); k_dflt (
    refine' Con.useB ?cC ?cB ?cF ?cX ?cN ?cT ?cK ?cD ?cU ?_
    (case cB => k_asm); (case cF => k_asm); (case cX => k_asm); (case cN => k_asm); (case cT => k_asm); (case cK => first | exact rfl | assumption | with_unfolding_all rfl)
    (case cC => (refine' Con.dup (os := [_]) (mem1 ?m1) (con_plain_utf _ _ _ _ _ _ _ _ _ _ ?s1 ?s2 ?s3 ?s4 ?s5 ?s6 _); (case m1 => k_mem); (case s1 => first | assumption | omega); (case s2 => first | assumption | omega); (case s3 => first | assumption | omega); (case s4 => first | assumption | omega); (case s5 => first | assumption | omega); (case s6 => first | assumption | omega)))
    (case cD => ktr_room); (case cU => ktr_units)
    (intro b9 t9 h' tk' hO9 F' N'; (try dsimp only); (try k_fold))))
  k_with "con" => (k_here; (with_reducible show wpAny _ _ (call (Value.ref 161) [Value.ref _]) _ _ _); k_dflt (
    refine' Con.useB ?cC ?cB ?cF ?cX ?cN ?cT ?cK ?cD ?cU ?_
    (case cB => k_asm); (case cF => k_asm); (case cX => k_asm); (case cN => k_asm); (case cT => k_asm); (case cK => first | exact rfl | assumption | with_unfolding_all rfl)
    (case cC => (refine' Con.dup (os := [_]) (mem1 ?m1) (con_decimals _ _ _ _ _ _ _ _ _ ?s1 ?s2 ?s3 ?s4 ?s5 ?s6 _); (case m1 => k_mem); (case s1 => first | assumption | omega); (case s2 => first | assumption | omega); (case s3 => first | assumption | omega); (case s4 => first | assumption | omega); (case s5 => first | assumption | omega); (case s6 => first | assumption | omega)))
    (case cD => ktr_room); (case cU => ktr_units)
    (intro b9 t9 h' tk' hO9 F' N'; (try dsimp only); (try k_fold))))
  k_with "con" => (k_here; (with_reducible show wpAny _ _ (call (Value.ref 130) [Value.ref _, Value.bool _]) _ _ _); k_dflt (
    refine' Con.useV ?cC ?cB ?cF ?cX ?cN ?cT ?cK ?cD ?cU ?_
    (case cB => k_asm); (case cF => k_asm); (case cX => k_asm); (case cN => k_asm); (case cT => k_asm); (case cK => first | exact rfl | assumption | with_unfolding_all rfl)
    (case cC => (refine' Con.dup (os := [_, _]) (mem2 ?m1 ?m2) (con_number _ _ _ _ _ _ _ _ _ _ _ _ _ _ _ _ _ _  0 _ ?s1 ?s2 ?s3 ?s4 ?s5 _); (case m1 => k_mem); (case m2 => k_mem); (case s1 => first | assumption | omega); (case s2 => first | assumption | omega); (case s3 => first | assumption | omega); (case s4 => first | assumption | omega); (case s5 => first | assumption | omega)))
    (case cD => ktr_room); (case cU => ktr_units)
    (intro t9 h' tk' F' N'; (try dsimp only); (try k_fold))))
  k_with "con" => (k_here; (with_reducible show wpAny _ _ (call (Value.ref 169) [Value.ref _, Value.ref _]) _ _ _); k_dflt (
    refine' Con.useB ?cC ?cB ?cF ?cX ?cN ?cT ?cK ?cD ?cU ?_
    (case cB => k_asm); (case cF => k_asm); (case cX => k_asm); (case cN => k_asm); (case cT => k_asm); (case cK => first | exact rfl | assumption | with_unfolding_all rfl)
    (case cC => (refine' Con.dup (os := [_, _, _, _, _]) (mem5 ?m1 ?m2 ?m3 ?m4 ?m5) (con_oct _ _ _ _ _ _ _ _ _ _ _ _ _ _ _ _ _ _ _ _ _ _  _ _ _ _ ?s1 ?s2 ?s3 ?s4 ?s5 ?s6 ?s7 ?s8 ?s9 ?s10 ?s11 ?s12 _); (case m1 => k_mem); (case m2 => k_mem); (case m3 => k_mem); (case m4 => k_mem); (case m5 => k_mem); (case s1 => assumption); (case s2 => assumption); (case s3 => assumption); (case s4 => assumption); (case s5 => assumption); (case s6 => assumption); (case s7 => assumption); (case s8 => assumption); (case s9 => assumption); (case s10 => assumption); (case s11 => assumption); (case s12 => assumption)))
    (case cD => ktr_room); (case cU => ktr_units)
    (intro b9 t9 h' tk' hO9 F' N'; (try dsimp only); (try k_fold))))
  trivial
theorem int_three {a : Int} (h : 0 ≤ a) : a.fmod 3 = a % 3 := Int.fmod_eq_emod_of_nonneg a (by decide)
theorem fmodP {a n : Int} (hn : 0 ≤ n) : a.fmod n = a % n := Int.fmod_eq_emod_of_nonneg a hn
theorem fdivP {a n : Int} (hn : 0 ≤ n) : a.fdiv n = a / n := Int.fdiv_eq_ediv_of_nonneg a hn
theorem getD_in {l : List Int} {i : Int} {n : Nat} (hn : l.length = n) (h0 : 0 ≤ i) (h1 : i < n) : l.getD i.toNat 0 ∈ l := by
  have : i.toNat < l.length := by omega
  rw [List.getD_eq_getElem?_getD, List.getElem?_eq_getElem this]
  exact List.getElem_mem this
-- what a row's cells may tell
structure EvOk (e : Ev) : Prop where
  told : Told e.k e.bt
  b0 : 0 ≤ e.bt
  b1 : e.bt ≤ 11
  m0 : 0 ≤ e.md
  m1 : e.md ≤ 7
  kk : e.k = Str.ofString "press" ∨ e.k = Str.ofString "release" ∨ e.k = Str.ofString "move"
  r0 : 0 ≤ e.r
  r1 : e.r ≤ 199
  c0 : 0 ≤ e.c
  c1 : e.c ≤ 222
  mv : e.k = Str.ofString "move" → e.bt ≤ 3
  rl : e.k = Str.ofString "release" → 1 ≤ e.bt ∧ (e.bt ≤ 3 ∨ e.bt = 8)
  pr : e.k = Str.ofString "press" → 1 ≤ e.bt
theorem evOk_of {a b c e : Int} (ha : 0 ≤ a) : EvOk (evOfCells a b c e) := by
  have h3 : a.fmod 3 = 0 ∨ a.fmod 3 = 1 ∨ a.fmod 3 = 2 := by rw [fmodP (by decide)]; omega
  have hb9 : 0 ≤ b.fmod 9 ∧ b.fmod 9 < 9 := by rw [fmodP (by decide)]; omega
  have hb4 : 0 ≤ b.fmod 4 ∧ b.fmod 4 < 4 := by rw [fmodP (by decide)]; omega
  have hr : 0 ≤ c.fmod 200 ∧ c.fmod 200 < 200 := by rw [fmodP (by decide)]; omega
  have hc : 0 ≤ e.fmod 223 ∧ e.fmod 223 < 223 := by rw [fmodP (by decide)]; omega
  have hm : 0 ≤ (e.fdiv 223).fmod 8 ∧ (e.fdiv 223).fmod 8 < 8 := by rw [fmodP (by decide)]; omega
  have hne1 : Str.ofString "press" ≠ Str.ofString "release" := by decide
  have hne2 : Str.ofString "press" ≠ Str.ofString "move" := by decide
  have hne3 : Str.ofString "release" ≠ Str.ofString "move" := by decide
  rcases h3 with h | h | h
  · have g := getD_in (l := [1, 2, 3, 4, 5, 6, 7, 8, 11]) (n := 9) rfl hb9.1 hb9.2
    have hbt : 1 ≤ [1, 2, 3, 4, 5, 6, 7, 8, 11].getD (b.fmod 9).toNat (0 : Int) ∧ [1, 2, 3, 4, 5, 6, 7, 8, 11].getD (b.fmod 9).toNat (0 : Int) ≤ 11 := by
      exact (by decide : ∀ z ∈ ([1, 2, 3, 4, 5, 6, 7, 8, 11] : List Int), 1 ≤ z ∧ z ≤ 11) _ g
    have e1 : evOfCells a b c e = ⟨Str.ofString "press", [1, 2, 3, 4, 5, 6, 7, 8, 11].getD (b.fmod 9).toNat 0, c.fmod 200, e.fmod 223, (e.fdiv 223).fmod 8⟩ := by simp only [evOfCells, h, if_true]
    rw [e1]
    exact ⟨.inl ⟨rfl, by dsimp only; omega, hbt.2⟩, by dsimp only; omega, hbt.2, hm.1, by dsimp only; omega, .inl rfl, hr.1, by dsimp only; omega, hc.1, by dsimp only; omega, fun x => absurd x hne2, fun x => absurd x hne1, fun _ => hbt.1⟩
  · have g := getD_in (l := [1, 2, 3, 8]) (n := 4) rfl hb4.1 hb4.2
    have e1 : evOfCells a b c e = ⟨Str.ofString "release", [1, 2, 3, 8].getD (b.fmod 4).toNat 0, c.fmod 200, e.fmod 223, (e.fdiv 223).fmod 8⟩ := by
      simp only [evOfCells, h, if_true, show ¬ ((1 : Int) = 0) by decide, if_false]
    have hbt : 1 ≤ [1, 2, 3, 8].getD (b.fmod 4).toNat (0 : Int) ∧ ([1, 2, 3, 8].getD (b.fmod 4).toNat (0 : Int) ≤ 3 ∨ [1, 2, 3, 8].getD (b.fmod 4).toNat (0 : Int) = 8) := by
      exact (by decide : ∀ z ∈ ([1, 2, 3, 8] : List Int), 1 ≤ z ∧ (z ≤ 3 ∨ z = 8)) _ g
    rw [e1]
    exact ⟨.inr (.inl ⟨rfl, by dsimp only; omega⟩), by dsimp only; omega, by dsimp only; omega, hm.1, by dsimp only; omega, .inr (.inl rfl), hr.1, by dsimp only; omega, hc.1, by dsimp only; omega, fun x => absurd x hne3, fun _ => hbt, fun x => absurd x.symm hne1⟩
  · have g := getD_in (l := [0, 1, 2, 3]) (n := 4) rfl hb4.1 hb4.2
    have e1 : evOfCells a b c e = ⟨Str.ofString "move", [0, 1, 2, 3].getD (b.fmod 4).toNat 0, c.fmod 200, e.fmod 223, (e.fdiv 223).fmod 8⟩ := by
      simp only [evOfCells, h, show ¬ ((2 : Int) = 0) by decide, show ¬ ((2 : Int) = 1) by decide, if_false]
    have hbt : 0 ≤ [0, 1, 2, 3].getD (b.fmod 4).toNat (0 : Int) ∧ [0, 1, 2, 3].getD (b.fmod 4).toNat (0 : Int) ≤ 3 := by
      exact (by decide : ∀ z ∈ ([0, 1, 2, 3] : List Int), 0 ≤ z ∧ z ≤ 3) _ g
    rw [e1]
    exact ⟨.inr (.inr rfl), hbt.1, by dsimp only; omega, hm.1, by dsimp only; omega, .inr (.inr rfl), hr.1, by dsimp only; omega, hc.1, by dsimp only; omega, fun _ => hbt.2, fun x => absurd x.symm hne3, fun x => absurd x.symm hne2⟩
theorem slice4 {vs : List Value} {zs : List Int} {k : Int} {i : Nat} (hi : IntsAre vs zs) (hk : k = 4 * (i : Int)) (hl : 4 * i + 4 ≤ zs.length) :
    ∃ t1 t2 t3 t4, (slicePick vs.toArray (some k) (some (k + 4)) none).toList = [.int (zs.getD (4 * i) 0) t1, .int (zs.getD (4 * i + 1) 0) t2, .int (zs.getD (4 * i + 2) 0) t3, .int (zs.getD (4 * i + 3) 0) t4] ∧ vs[k.toNat]? = some (.int (zs.getD (4 * i) 0) t1) := by
  have hvl : vs.length = zs.length := hi.length
  have e : sliceBounds (some k) (some (k + 4)) none vs.toArray.size = (((4 * i : Nat) : Int), ((4 * i + 4 : Nat) : Int), 1) := by
    simp only [sliceBounds, Option.getD_none, show (1 : Int) > 0 by decide, if_true, if_neg (show ¬ (k < 0) by omega), if_neg (show ¬ (k + 4 < 0) by omega), List.size_toArray, hvl]
    refine Prod.ext ?_ (Prod.ext ?_ rfl)
    · dsimp only; omega
    · dsimp only; omega
  rw [kmk_pick_nat _ e]
  have hg : ∀ j, j < 4 → ∃ t, vs[4 * i + j]? = some (.int (zs.getD (4 * i + j) 0) t) := fun j hj => by
    have hlt : 4 * i + j < zs.length := by omega
    obtain ⟨t, ht⟩ := hi.get (4 * i + j) zs[4 * i + j] (by simp [hlt])
    exact ⟨t, by rw [ht, List.getD_eq_getElem?_getD, List.getElem?_eq_getElem hlt]; rfl⟩
  obtain ⟨t1, g1⟩ := hg 0 (by decide)
  obtain ⟨t2, g2⟩ := hg 1 (by decide)
  obtain ⟨t3, g3⟩ := hg 2 (by decide)
  obtain ⟨t4, g4⟩ := hg 3 (by decide)
  refine ⟨t1, t2, t3, t4, ?_, ?_⟩
  · show ((vs.drop (4 * i)).take (4 * i + 4 - 4 * i)) = _
    rw [show 4 * i + 4 - 4 * i = 4 by omega]
    have d : ∀ j v, vs[j]? = some v → vs.drop j = v :: vs.drop (j + 1) := fun j v h => by
      obtain ⟨hlt, e⟩ := List.getElem?_eq_some_iff.mp h
      rw [List.drop_eq_getElem_cons hlt, e]
    rw [d (4 * i) _ g1, d (4 * i + 1) _ g2, d (4 * i + 1 + 1) _ g3, d (4 * i + 1 + 1 + 1) _ g4]
    rfl
  · have : k.toNat = 4 * i := by omega
    rw [this]; exact g1
theorem decI_le (n : Int) : (decI n).length ≤ 3 := by
  unfold decI
  split
  · simp
  · split <;> simp
theorem codeI_le (n : Int) : (codeI n).length ≤ 2 := by
  unfold codeI
  split <;> simp
theorem msgI_le (y : Nat) (e : Ev) : (msgI y e).length ≤ 15 := by
  unfold msgI
  split
  · simp
  · have := codeI_le (mnum e.k e.bt e.md false + 32)
    have := codeI_le (e.c + 1 + 32)
    have := codeI_le (e.r + 1 + 32)
    simp only [List.length_append, List.length_cons, List.length_nil]
    omega
  · have := decI_le (mnum e.k e.bt e.md true)
    have := decI_le (e.c + 1)
    have := decI_le (e.r + 1)
    simp only [List.length_append, List.length_cons, List.length_nil]
    omega
  · have := decI_le (mnum e.k e.bt e.md false + 32)
    have := decI_le (e.c + 1)
    have := decI_le (e.r + 1)
    simp only [List.length_append, List.length_cons, List.length_nil]
    omega
theorem octN_le (y : Nat) (cs : List Int) : ∀ i, (octN y cs i).length ≤ 18 * i
  | 0 => by simp [octN]
  | i + 1 => by
    have h1 := octN_le y cs i
    have h2 := msgI_le y (evOfCells (cs.getD (4 * i) 0) (cs.getD (4 * i + 1) 0) (cs.getD (4 * i + 2) 0) (cs.getD (4 * i + 3) 0))
    simp only [octN, rowOct, List.length_append]
    split
    · simp only [List.length_cons, List.length_nil]; omega
    · split
      · simp only [List.length_cons, List.length_nil]; omega
      · simp only [List.length_nil]; omega
theorem range4 {n : Nat} : Builtin.Range.rangeSize 0 ((n : Int) - 3) 4 = ((n / 4 : Nat) : Int) := by
  unfold Builtin.Range.rangeSize
  rw [if_pos (by decide)]
  split <;> omega
theorem small4 {n : Nat} (h : n ≤ 16) : Builtin.Range.small 0 ((n : Int) - 3) 4 = true := by
  unfold Builtin.Range.small
  rw [range4]
  simp only [Builtin.Range.rangeFitsLong, Bool.and_eq_true, Bool.or_eq_true, decide_eq_true_eq, beq_iff_eq, show (4 : Int) > 0 by decide, if_true]
  omega
theorem con_partsE (w : World) (l : Addr) (a9 b9 c9 e9 : Int) (t1 t2 t3 t4 : Tok) (kk : Nat) (k : Str) (bt r c md : Int) (h0 : 0 ≤ a9) (h1 : 0 ≤ b9) (h2 : 0 ≤ c9) (h3 : 0 ≤ e9) (he : evOfCells a9 b9 c9 e9 = ⟨k, bt, r, c, md⟩) (news) :
   Con w 12 231 [.ref l] ((l, listOf #[.int a9 t1, .int b9 t2, .int c9 t3, .int e9 t4] kk) :: news) (PartsR ⟨k, bt, r, c, md⟩ ((l, listOf #[.int a9 t1, .int b9 t2, .int c9 t3, .int e9 t4] kk) :: news)) := by
  rw [← he]; exact con_parts w l a9 b9 c9 e9 t1 t2 t3 t4 kk h0 h1 h2 h3 news
section
variable {prog : Program} {w : World} {A : Around} {E : Value → Shared → Prop} {s : Shared} {Q : Value → Shared → Prop} {a b : Addr} {vs us : List Value} {t1 t2 : List (Addr × Obj)} {ds : List LD}
theorem eqAt_str (k : Str) (t u : Tok) : SeqAt.EqAt A s (.str k t) (.str k u) true := by
  intro prog w E Q hq
  unfold eqBool
  show wpAny _ _ (if (Value.str k t == Value.str k u) = true then _ else _) Q E s
  by_cases hab : (Value.str k t == Value.str k u) = true
  · rw [if_pos hab]; exact wpAny_bind (wpAny_rule (wpAny_pure hq))
  · rw [if_neg hab]; exact wpAny_bind (eq_str (by rw [beq_self_eq_true]; exact wpAny_truthy_bool hq))
theorem eqAt_int (k : Int) (t u : Tok) : SeqAt.EqAt A s (.int k t) (.int k u) true := by
  intro prog w E Q hq
  unfold eqBool
  show wpAny _ _ (if (Value.int k t == Value.int k u) = true then _ else _) Q E s
  by_cases hab : (Value.int k t == Value.int k u) = true
  · rw [if_pos hab]; exact wpAny_bind (wpAny_rule (wpAny_pure hq))
  · rw [if_neg hab]; exact wpAny_bind (eq_int (by rw [beq_self_eq_true]; exact wpAny_truthy_bool hq))
theorem rep_eq (h1 : ∀ p ∈ t1, s.heap.get? p.1 = some p.2) (h2 : ∀ p ∈ t2, s.heap.get? p.1 = some p.2) (hu : A.units + 64 < cLine) {v u : Value} : ∀ {d : LD}, Rep t1 v d → Rep t2 u d → SeqAt.EqAt A s v u true := by
  intro d x y
  cases d with
  | fo b => rw [show v = _ from x, show u = _ from y]; exact SeqAt.EqAt.same _
  | ev e =>
    obtain ⟨T, a0, a1, a2, a3, a4, ev, hm⟩ := x
    obtain ⟨T', b0, b1, b2, b3, b4, eu, hm'⟩ := y
    rw [ev, eu]
    by_cases hT : T = T'
    · rw [hT]; exact SeqAt.EqAt.same _
    · have g1 : s.heap.IsTuple T #[.str e.k a0, .int e.bt a1, .int e.r a2, .int e.c a3, .int e.md a4] := ⟨_, h1 _ hm, rfl, _, rfl⟩
      have g2 : s.heap.IsTuple T' #[.str e.k b0, .int e.bt b1, .int e.r b2, .int e.c b3, .int e.md b4] := ⟨_, h2 _ hm', rfl, _, rfl⟩
      refine SeqAt.EqAt.of_refs hT ?_
      exact SeqAt.RcAt.tuples (e := fun _ => true) g1 g2 (by omega) (fun j h1 h2 => by
        have hj : j = 0 ∨ j = 1 ∨ j = 2 ∨ j = 3 ∨ j = 4 := by simp at h1; omega
        rcases hj with rfl | rfl | rfl | rfl | rfl
        · exact eqAt_str _ _ _
        · exact eqAt_int _ _ _
        · exact eqAt_int _ _ _
        · exact eqAt_int _ _ _
        · exact eqAt_int _ _ _)
theorem Reps.at : ∀ {vs : List Value} {ds : List LD}, Reps t1 vs ds → vs.length = ds.length ∧ ∀ j (h : j < vs.length) (h' : j < ds.length), Rep t1 vs[j] ds[j]
  | [], [], _ => ⟨rfl, fun j h => absurd h (Nat.not_lt_zero j)⟩
  | v :: vs, d :: ds, x => by
    obtain ⟨e, f⟩ := Reps.at x.2
    refine ⟨congrArg (· + 1) e, fun j h h' => ?_⟩
    cases j with
    | zero => exact x.1
    | succ j => exact f j (Nat.lt_of_succ_lt_succ h) (Nat.lt_of_succ_lt_succ h')
  | [], _ :: _, x => x.elim
  | _ :: _, [], x => x.elim
theorem eq_reps (hl : s.heap.IsList a vs.toArray) (hb : s.heap.IsList b us.toArray) (r1 : Reps t1 vs ds) (r2 : Reps t2 us ds) (h1 : ∀ p ∈ t1, s.heap.get? p.1 = some p.2) (h2 : ∀ p ∈ t2, s.heap.get? p.1 = some p.2)
    (hu : A.units + 68 < cLine) (h : Q (.bool true) s) : wpAny (model prog w) A (compareOp .Eq (.ref a) (.ref b)) Q E s := by
  obtain ⟨e1, f1⟩ := r1.at
  obtain ⟨e2, f2⟩ := r2.at
  refine SeqAt.eq_listAt (e := fun _ => true) hl hb (by simp [e1, e2]) (by omega) (fun j g1 g2 => ?_) ?_
  · have g1' : j < vs.length := by simpa using g1
    have g2' : j < us.length := by simpa using g2
    have q1 := f1 j g1' (by omega)
    have q2 := f2 j g2' (by omega)
    simp only [List.getElem_toArray]
    exact rep_eq h1 h2 (by show A.units + _ + 64 < cLine; omega) q1 q2
  · have e : ((List.range vs.toArray.size).all fun _ => true) = true := List.all_eq_true.mpr fun _ _ => rfl
    rw [e]; exact h
end
-- a Modes object as three objects, closed
noncomputable def ModPack (w : World) (y : Nat) (mo : Addr) (x1 x2 x3 : Addr × Obj) : Prop := ∃ me st kp v20 v21 o, x1 = (mo, instObj 69 me) ∧ x2 = (me, dictOf [⟨PyData.keyHash w.params (Str.ofString "states"), .str (Str.ofString "states") v20, .ref st⟩, ⟨PyData.keyHash w.params (Str.ofString "kept"), .str (Str.ofString "kept") v21, .ref kp⟩] 2) ∧ x3 = (st, o) ∧ WayOk w y st o
theorem con_octP (w : World) (e : Ev) (y : Nat) (x mo : Addr) (p1 p2 x1 x2 x3 : Addr × Obj) (hy : y < 4) (hp : EvPack w e x p1 p2) (hm : ModPack w y mo x1 x2 x3) (ok : EvOk e) (news) :
   Con w 24 169 [.ref x, .ref mo] (p1 :: p2 :: x1 :: x2 :: x3 :: news) (BytesR (msgI y e)) := by
  obtain ⟨d, t0, t1, t2, t3, t4, t5, t6, t7, t8, t9, rfl, rfl⟩ := hp
  obtain ⟨me, st, kp, v20, v21, o, rfl, rfl, rfl, hw⟩ := hm
  exact con_oct w x d mo me st kp e.k e.bt e.r e.c e.md t0 t1 t2 t3 t4 t5 t6 t7 t8 t9 v20 v21 o y hy hw ok.told ok.b0 ok.b1 ok.m0 ok.m1 ok.kk ok.r0 ok.r1 ok.c0 ok.c1 news


-- plain
theorem rows_plain : True := by
  w_top off
  k_with_none
  k_with "kba_ints2" => first | kba_ints | (apply ints_lit; (simp only [List.map_cons, List.map_nil, UInt8.reduceToNat, Int.cast_ofNat_Int]); (try exact rfl))
  k_with "compareOp Eq bytes bytes" => (k_here; (with_reducible show wpAny _ _ (compareOp CmpOp.Eq (Value.bytes _ _) (Value.bytes _ _)) _ _ _); (first | refine eq_ints_T (by kba_ints2) (by kba_ints2) (by assumption) ?_ | refine eq_ints_F (by kba_ints2) (by kba_ints2) (by assumption) ?_ | refine eq_ints (by kba_ints2) (by kba_ints2) ?_))
  k_with "compareOp NotEq bytes bytes" => (k_here; (with_reducible show wpAny _ _ (compareOp CmpOp.NotEq (Value.bytes _ _) (Value.bytes _ _)) _ _ _); (refine ne_ints (by kba_ints2) (by kba_ints2) ?_))
  k_with "compareOp NotIn bytes ref" => (k_here; (with_reducible show wpAny _ _ (compareOp CmpOp.NotIn (Value.bytes _ _) (Value.ref _)) _ _ _); (refine notIn_two (by k_asm) (by k_mem) (by kba_ints2) (by kba_ints2) (by kba_ints2) ?_))
  k_with "subscriptTail" => (k_here; (with_reducible show wpAny _ _ (subscriptTail _ (Expr.Slice _ _ none _) (Value.bytes _ _) (Value.ref _)) _ _ _); (with_reducible rename Fr _ _ _ _ => F'); (with_reducible rename News _ _ _ _ => N'); (refine slice_C (s := ⟨_, _, _, _, _⟩) F' N' (by kba_ints2) (by constructor) (by constructor) (by kba_size) (by intro i hi; simp at hi; try (subst hi; omega)) (by intro i hi; simp at hi; try (subst hi; omega)) (by first | exact cut_z3 | exact cut_z2 | exact cut_z | exact cut_mid3 (by omega) | exact cut_mid2 (by omega) | exact cut_lit3 | exact cut_lit2 | exact cut_lit3' | exact cut_lit2' | exact cut_two | exact cut_tail | exact cut_head') ?_); intro _ _ _ _ _ _ kbcK; (try simp only [Int.toNat_zero, Int.toNat_ofNat, List.drop_zero] at kbcK))
  k_with "ktr_room" => first | exact room9 (by assumption) rfl | exact Nat.lt_of_le_of_lt (Nat.le_add_right _ _) (by assumption)
  k_with "ktr_units" => exact units9 (by assumption) rfl
  k_with "getMethod bytes" => (k_here; first | refine meth_starts ?_ | refine meth_split ?_ | refine meth_join ?_)
  k_with "call builtin:bytes.startswith" => (k_here; first | refine call_starts_T (by kba_ints2) (by kba_ints2) (by assumption) ?_ | refine call_starts_F (by kba_ints2) (by kba_ints2) (by assumption) ?_ | refine call_starts_I (by kba_ints2) (by kba_ints2) ?_)
  k_with "CompEnd" => (refine LCg.CompEnd.intro (by assumption) (by assumption) _ (fun _ h => h) (by assumption) (by exact Or.inr ⟨_, by k_mem, rfl, _, rfl⟩) ?_)
  k_with "call type:bytes" => (k_here; (with_reducible show wpAny _ _ (call (Value.type "bytes") [Value.ref _]) _ _ _); (refine' KBa.make_K ?kbaF ?kbaN ?kbah ?kbal ?kbai ?kbar ?kban ?_; (case kbaF => k_asm); (case kbaN => k_asm); (case kbah => rfl); (case kbal => kba_isList); (case kbai => kba_listInts); (case kbar => (repeat' (first | exact List.forall_mem_nil _ | (refine List.forall_mem_cons.mpr ⟨⟨?_, ?_⟩, ?_⟩) | omega | (simp only [fd10, fm10]; omega)))); (case kban => kba_size)); intro _ _ _ F' N' kbaIn; (have kbaM := KBa.ints_make kbaIn))
  k_with "cell_enter" => (refine' code_defC ?k1 ?k2 ?k3 ?k4 ?k5 ?kA ?kF ?kK ?k6 ?k7 ?k8 ?k9 ?kB ?kD ?_ ?c2 ?c3 ?c4; (case kA => exact rfl); (case kF => exact rfl); (case kK => first | exact rfl | assumption); (case k1 => k_asm); (case k2 => k_asm); (case k3 => k_asm); (case k4 => k_asm); (case k5 => k_asm); (case k6 => k_is); (case k7 => k_is); (case k8 => ktr_room); (case k9 => first | exact BindsTo.of_eq rfl | exact binds_K (by k_in) rfl (by k_is) rfl rfl rfl); (case kB => exact rfl); (case kD => decide +kernel); (case c2 => exact rfl); (case c3 => exact rfl); (case c4 => exact rfl); k_whole; intro g' L' h' tk' cells' FG' F' N' Y' B' X' T' l1; (try k_lt l1); k_cells Y'; (try simp only [List.cons_append, List.nil_append] at N'); (try dsimp only); (try k_lift B'); (try k_fold))
  k_with "call builtin:bytes.join" => (k_here; refine call_join_I (by k_asm) (by k_mem) rfl rfl (by kba_ints2) (by kba_ints2) (by kba_ints2) (by kba_ints2) (by first | assumption | decide) (by first | assumption | decide) (by first | assumption | decide) (by first | assumption | decide) ?_; intro _ _ _ kbJ; (try simp only [List.append_nil] at kbJ))
  k_with "units_room" => exact room_deep (by omega)
  k_with "cell_enter" => (refine' code_def ?k1 ?k2 ?k3 ?k4 ?k5 ?kA ?kF ?kK ?k6 ?k7 ?k8 ?k9 ?kB ?_ ?c2 ?c3 ?c4 ?c5; (case kA => exact rfl); (case kF => exact rfl); (case kK => first | exact rfl | assumption); (case k1 => k_asm); (case k2 => k_asm); (case k3 => k_asm); (case k4 => k_asm); (case k5 => k_asm); (case k6 => k_is); (case k7 => k_is); (case k8 => ktr_room); (case k9 => exact binds_K (by k_in) rfl (by k_is) rfl rfl rfl); (case c5 => decide); (case kB => exact locs rfl); (case c2 => exact rfl); (case c3 => exact rfl); (case c4 => exact rfl); k_whole; intro g' L' h' FG' F' N' B' X' T'; (try dsimp only); (try k_fold))
  k_with "con" => (k_here; (with_reducible show wpAny _ _ (call (Value.ref 59) [Value.ref _, Value.str _ _]) _ _ _); k_dflt (
    refine' Con.useV ?cC ?cB ?cF ?cX ?cN ?cT ?cK ?cD ?cU ?_
    (case cB => k_asm); (case cF => k_asm); (case cX => k_asm); (case cN => k_asm); (case cT => k_asm); (case cK => first | exact rfl | assumption | with_unfolding_all rfl)
    (case cC => (refine' Con.dup (os := [_, _, _]) (mem3 ?m1 ?m2 ?m3) (con_is_on _ _ _ _ _ _ _ _ _ _ _ _ ?s1 ?s2 ?s3 _); (case m1 => k_mem); (case m2 => k_mem); (case m3 => k_mem); (case s1 => assumption); (case s2 => assumption); (case s3 => assumption)))
    (case cD => ktr_room); (case cU => ktr_units)
    (intro t9 h' tk' F' N'; (try dsimp only); (try k_fold))))
  k_with "con" => (k_here; (with_reducible show wpAny _ _ (call (Value.ref 38) [Value.str (Str.ofString "mouse_all") _]) _ _ _); k_dflt (
    refine Con.useV (con_group_all _ _ _) (by k_asm) (by k_asm) (by k_asm) (by k_asm) (by k_asm) (by first | exact rfl | assumption) (by ktr_room) (by ktr_units) ?_
    (intro t9 h' tk' F' N'; (try dsimp only); (try k_fold))))
  k_with "con" => (k_here; (with_reducible show wpAny _ _ (call (Value.ref 38) [Value.str _ _]) _ _ _); k_dflt (
    refine Con.useV (con_group_way _ _ (by assumption) _ _) (by k_asm) (by k_asm) (by k_asm) (by k_asm) (by k_asm) (by first | exact rfl | assumption) (by ktr_room) (by ktr_units) ?_
    (intro t9 h' tk' F' N'; (try dsimp only); (try k_fold))))
  k_with "con" => (k_here; (with_reducible show wpAny _ _ (call (Value.ref 80) [Value.ref _]) _ _ _); k_dflt (
    refine' Con.useV ?cC ?cB ?cF ?cX ?cN ?cT ?cK ?cD ?cU ?_
    (case cB => k_asm); (case cF => k_asm); (case cX => k_asm); (case cN => k_asm); (case cT => k_asm); (case cK => first | exact rfl | assumption | with_unfolding_all rfl)
    (case cC => (refine' Con.dup (os := [_, _, _]) (mem3 ?m1 ?m2 ?m3) (con_modeW _ _ _ _ _ _ _ _ _ ?s1 _); (case m1 => k_mem); (case m2 => k_mem); (case m3 => k_mem); (case s1 => assumption)))
    (case cD => ktr_room); (case cU => ktr_units)
    (intro t9 h' tk' F' N'; (try dsimp only); (try k_fold))))
  k_with "con" => (k_here; (with_reducible show wpAny _ _ (call (Value.ref 87) [Value.ref _]) _ _ _); k_dflt (
    refine' Con.useV ?cC ?cB ?cF ?cX ?cN ?cT ?cK ?cD ?cU ?_
    (case cB => k_asm); (case cF => k_asm); (case cX => k_asm); (case cN => k_asm); (case cT => k_asm); (case cK => first | exact rfl | assumption | with_unfolding_all rfl)
    (case cC => (refine' Con.dup (os := [_, _, _]) (mem3 ?m1 ?m2 ?m3) (con_encW _ _ _ _ _ _ _ _ _ ?s1 _); (case m1 => k_mem); (case m2 => k_mem); (case m3 => k_mem); (case s1 => assumption)))
    (case cD => ktr_room); (case cU => ktr_units)
    (intro t9 h' tk' F' N'; (try dsimp only [wayV0, wayV1, wayV2, wayV3]); (try k_fold))))
  k_with "con" => (k_here; (with_reducible show wpAny _ _ (call (Value.ref 69) ([] ++ [])) _ _ _); k_dflt (
    refine Con.useM (con_modes _ _) (by k_asm) (by k_asm) (by k_asm) (by k_asm) (by k_asm) (by first | exact rfl | assumption) (by ktr_room) (by ktr_units) ?_
    (intro mo9 me9 st9 kp9 v20 v21 o9 D9 h' tk' lo9 g1 g2 l9 l8 hd9 hf9 hD9 F' N'; (try k_lt l9); (try k_lt l8); (try dsimp only); (try k_fold))))
  k_with "con" => (k_here; (with_reducible show wpAny _ _ (call (Value.ref 183) [Value.bytes _ _, Value.int _ _, Value.bool _]) _ _ _); k_dflt (
    refine Con.useP (con_code_at _ _ _ _ _ _ _ (by kba_ints2) (by first | assumption | omega | (simp; omega)) (by first | assumption | omega | (simp; omega)) _) (by k_asm) (by k_asm) (by k_asm) (by k_asm) (by k_asm) (by first | exact rfl | assumption) (by ktr_room) (by ktr_units) ?_ ?_
    (rotate_left; (intro v9 n9 D9 t9 t8 h' tk' hO9 l9 F' N'; (try k_lt l9); (try have f9 := code8_bd (by assumption) (by first | assumption | omega) hO9); (try dsimp only); (try k_fold)); rotate_left; (intro hO9 h' tk' F' N'; (try dsimp only); (try k_fold)))))
  k_with "con" => (k_here; (with_reducible show wpAny _ _ (call (Value.ref 137) [Value.int _ _]) _ _ _); k_dflt (
    refine Con.useI (con_button _ _ _ (by first | assumption | omega | (simp; omega)) (by first | assumption | omega | (simp; omega)) _) (by k_asm) (by k_asm) (by k_asm) (by k_asm) (by k_asm) (by first | exact rfl | assumption) (by ktr_room) (by ktr_units) ?_ ?_
    (rotate_left; (intro v9 t9 h' tk' hO9 F' N'; (try dsimp only); (try k_fold)); rotate_left; (intro hO9 h' tk' F' N'; (try dsimp only); (try k_fold)))))
  k_with "con" => (k_here; (with_reducible show wpAny _ _ (call (Value.ref 105) [Value.str _ _, Value.int _ _, Value.int _ _, Value.int _ _, Value.int _ _]) _ _ _); k_dflt (
    refine Con.useE (con_ev _ _ _ _ _ _ _ _ _ _ _ _) (by k_asm) (by k_asm) (by k_asm) (by k_asm) (by k_asm) (by first | exact rfl | assumption) (by ktr_room) (by ktr_units) (fun e9 => nomatch e9) ?_
    (intro k9 bt9 r9 c9 md9 x9 d9 t0 t1 t2 t3 t4 t5 t6 t7 t8 t9 h' tk' hO9 l9 l8 F' N'; cases hO9; (try k_lt l9); (try k_lt2 l8); (try dsimp only); (try k_fold))))
  k_with "con" => (k_here; (with_reducible show wpAny _ _ (call (Value.ref 176) [Value.int _ _, Value.int _ _, Value.int _ _, Value.none, Value.int _ _, Value.int _ _]) _ _ _); k_dflt (
    refine Con.useE (con_event_of _ _ _ (by first | assumption | omega | (simp; omega)) (by first | assumption | omega | (simp; omega)) _ _ _ _ _ _ _) (by k_asm) (by k_asm) (by k_asm) (by k_asm) (by k_asm) (by first | exact rfl | assumption) (by ktr_room) (by ktr_units) ?_ ?_
    (rotate_left; (intro k9 bt9 r9 c9 md9 x9 d9 t0 t1 t2 t3 t4 t5 t6 t7 t8 t9 h' tk' hO9 l9 l8 F' N'; (try k_lt l9); (try k_lt2 l8); (try dsimp only); (try k_fold)); rotate_left; (intro hO9 h' tk' F' N'; (try dsimp only); (try k_fold)))))
  k_with "con" => (k_here; (with_reducible show wpAny _ _ (call (Value.ref 176) [Value.int _ _, Value.int _ _, Value.int _ _, Value.bool _, Value.int _ _, Value.int _ _]) _ _ _); k_dflt (
    refine Con.useE (con_event_ofB _ _ _ (by first | assumption | omega | (simp; omega)) (by first | assumption | omega | (simp; omega)) _ _ _ _ _ _ _ _) (by k_asm) (by k_asm) (by k_asm) (by k_asm) (by k_asm) (by first | exact rfl | assumption) (by ktr_room) (by ktr_units) ?_ ?_
    (rotate_left; (intro k9 bt9 r9 c9 md9 x9 d9 t0 t1 t2 t3 t4 t5 t6 t7 t8 t9 h' tk' hO9 l9 l8 F' N'; (try k_lt l9); (try k_lt2 l8); (try dsimp only); (try k_fold)); rotate_left; (intro hO9 h' tk' F' N'; (try dsimp only); (try k_fold)))))
  k_with "con" => (k_here; (with_reducible show wpAny _ _ (call (Value.ref 190) [Value.bytes _ _, Value.int _ _, Value.bool _]) _ _ _); k_dflt (
    refine Con.useF (con_read_plain _ _ _ _ _ _ _ (by kba_ints2) (by first | assumption | omega | (simp; omega)) (by first | assumption | omega | (simp; omega)) _) (by k_asm) (by k_asm) (by k_asm) (by k_asm) (by k_asm) (by first | exact rfl | assumption) (by ktr_room) (by ktr_units) ?_ ?_
    (rotate_left; (intro k9 bt9 r9 c9 md9 n9 D9 x9 d9 t9 t0 t1 t2 t3 t4 t5 t6 t7 t8 t9 h' tk' hO9 l9 l8 l7 F' N'; (try k_lt l9); (try k_lt2 l8); (try k_lt2 l7); (try dsimp only); (try k_fold)); rotate_left; (intro hO9 h' tk' F' N'; (try dsimp only); (try k_fold)))))
  k_with "con" => (k_here; (with_reducible show wpAny _ _ (call (Value.ref 28) [Value.bytes _ _]) _ _ _); k_dflt (
    refine Con.useI (con_number_of _ _ _ _ (by kba_ints2) (by first | assumption | omega | (simp; omega)) _) (by k_asm) (by k_asm) (by k_asm) (by k_asm) (by k_asm) (by first | exact rfl | assumption) (by ktr_room) (by ktr_units) ?_ ?_
    (rotate_left; (intro v9 t9 h' tk' hO9 F' N'; (try dsimp only); (try k_fold)); rotate_left; (intro hO9 h' tk' F' N'; (try dsimp only); (try k_fold)))))
  k_with "con" => (k_here; (with_reducible show wpAny _ _ (call (Value.ref 28) [Value.bytes _ _]) _ _ _); k_dflt (
    refine Con.useIs (con_number_of _ _ _ _ (by kba_ints2) (by first | assumption | omega | (simp; omega)) _) (by assumption) (by k_asm) (by k_asm) (by k_asm) (by k_asm) (by k_asm) (by first | exact rfl | assumption) (by ktr_room) (by ktr_units) ?_
    (intro t9 h' tk' F' N'; (try dsimp only); (try k_fold))))
  k_with "con" => (k_here; (with_reducible show wpAny _ _ (call (Value.ref 216) [Value.bytes _ _]) _ _ _); k_dflt (
    refine Con.useV (con_are_dec _ _ _ _ (by kba_ints2) (by first | assumption | omega | (simp; omega)) _) (by k_asm) (by k_asm) (by k_asm) (by k_asm) (by k_asm) (by first | exact rfl | assumption) (by ktr_room) (by ktr_units) ?_
    (intro t9 h' tk' F' N'; (try dsimp only); (try k_fold))))
  k_with "con" => (k_here; (with_reducible show wpAny _ _ (call (Value.ref 195) [Value.bytes _ _, Value.int _ _]) _ _ _); k_dflt (
    refine Con.useD (con_dec_at _ _ _ _ _ _ (by kba_ints2) (by first | assumption | omega | (simp; omega)) (by first | assumption | omega | (simp; omega)) (by first | assumption | omega | (simp; omega)) (by assumption) _) (by k_asm) (by k_asm) (by k_asm) (by k_asm) (by k_asm) (by first | exact rfl | assumption) (by ktr_room) (by ktr_units) ?_ ?_
    (rotate_left; (intro a9 b9 c9 t9 n9 T9 D9 t0 t1 t2 t3 t4 k9 h' tk' hO9 l9 l8 F' N'; (try k_lt l9); (try k_lt2 l8); (try have f9 := decAt_bd (by assumption) hO9); (try dsimp only); (try k_fold)); rotate_left; (intro hO9 h' tk' F' N'; (try dsimp only); (try k_fold)))))
  k_with "con" => (k_here; (with_reducible show wpAny _ _ (call (Value.ref 203) [Value.bytes _ _, Value.int _ _, Value.bool _]) _ _ _); k_dflt (
    refine Con.useFs (con_read_mouse _ _ _ _ _ _ (by kba_ints2) (by assumption) _) (by assumption) (by k_asm) (by k_asm) (by k_asm) (by k_asm) (by k_asm) (by first | exact rfl | assumption) (by ktr_room) (by ktr_units) ?_
    (intro D9 x9 d9 t9 t0 t1 t2 t3 t4 t5 t6 t7 t8 t8' h' tk' l9 l8 l7 F' N'; (try k_lt l9); (try k_lt2 l8); (try k_lt2 l7); (try dsimp only); (try k_fold))))
  k_with "con" => (k_here; (with_reducible show wpAny _ _ (call (Value.ref 203) [Value.bytes _ _, Value.int _ _, Value.bool _]) _ _ _); k_dflt (
    refine Con.useFn (con_read_mouse _ _ _ _ _ _ (by kba_ints2) (by assumption) _) (by assumption) (by k_asm) (by k_asm) (by k_asm) (by k_asm) (by k_asm) (by first | exact rfl | assumption) (by ktr_room) (by ktr_units) ?_
    (intro h' tk' F' N'; (try dsimp only); (try k_fold))))
  k_with "con" => (k_here; (with_reducible show wpAny _ _ (call (Value.ref 224) [Value.bytes _ _]) _ _ _); k_dflt (
    refine Con.useKs (con_read_focus _ _ _ _ (by kba_ints2) (by first | assumption | omega | (simp; omega)) _) (by assumption) (by k_asm) (by k_asm) (by k_asm) (by k_asm) (by k_asm) (by first | exact rfl | assumption) (by ktr_room) (by ktr_units) ?_
    (intro D9 t9 h' tk' l9 F' N'; (try k_lt l9); (try dsimp only); (try k_fold))))
  k_with "con" => (k_here; (with_reducible show wpAny _ _ (call (Value.ref 224) [Value.bytes _ _]) _ _ _); k_dflt (
    refine Con.useKn (con_read_focus _ _ _ _ (by kba_ints2) (by first | assumption | omega | (simp; omega)) _) (by assumption) (by k_asm) (by k_asm) (by k_asm) (by k_asm) (by k_asm) (by first | exact rfl | assumption) (by ktr_room) (by ktr_units) ?_
    (intro h' tk' F' N'; (try dsimp only); (try k_fold))))
  k_with "con" => (k_here; (with_reducible show wpAny _ _ (call (Value.ref 224) [Value.bytes _ _, Value.int _ _]) _ _ _); k_dflt (
    refine Con.useKs (con_read_focusAt _ _ _ _ _ _ (by kba_ints2) (by first | assumption | omega | (simp; omega)) (by first | assumption | omega | (simp; omega)) (by first | assumption | omega | (simp; omega)) _) (by assumption) (by k_asm) (by k_asm) (by k_asm) (by k_asm) (by k_asm) (by first | exact rfl | assumption) (by ktr_room) (by ktr_units) ?_
    (intro D9 t9 h' tk' l9 F' N'; (try k_lt l9); (try dsimp only); (try k_fold))))
  k_with "con" => (k_here; (with_reducible show wpAny _ _ (call (Value.ref 224) [Value.bytes _ _, Value.int _ _]) _ _ _); k_dflt (
    refine Con.useKn (con_read_focusAt _ _ _ _ _ _ (by kba_ints2) (by first | assumption | omega | (simp; omega)) (by first | assumption | omega | (simp; omega)) (by first | assumption | omega | (simp; omega)) _) (by assumption) (by k_asm) (by k_asm) (by k_asm) (by k_asm) (by k_asm) (by first | exact rfl | assumption) (by ktr_room) (by ktr_units) ?_
    (intro h' tk' F' N'; (try dsimp only); (try k_fold))))
  k_with "con" => (k_here; (with_reducible show wpAny _ _ (call (Value.ref 211) [Value.bytes _ _, Value.int _ _, Value.bool _]) _ _ _); k_dflt (
    refine Con.useVb (con_is_begun _ _ _ _ _ _ _ (by kba_ints2) (by first | assumption | omega | (simp; omega)) (by first | assumption | omega | (simp; omega)) _) (by assumption) (by k_asm) (by k_asm) (by k_asm) (by k_asm) (by k_asm) (by first | exact rfl | assumption) (by ktr_room) (by ktr_units) ?_
    (intro h' tk' F' N'; (try dsimp only); (try k_fold))))
  k_with "con" => (k_here; (with_reducible show wpAny _ _ (call (Value.ref 211) [Value.bytes _ _]) _ _ _); k_dflt (
    refine Con.useVb (con_is_begun0 _ _ _ _ (by kba_ints2) (by first | assumption | omega | (simp; omega)) _) (by assumption) (by k_asm) (by k_asm) (by k_asm) (by k_asm) (by k_asm) (by first | exact rfl | assumption) (by ktr_room) (by ktr_units) ?_
    (intro h' tk' F' N'; (try dsimp only); (try k_fold))))
  k_with "con" => (k_here; (with_reducible show wpAny _ _ (call (Value.ref 238) [Value.ref _]) _ _ _); k_dflt (
    refine' Con.useE ?cC ?cB ?cF ?cX ?cN ?cT ?cK ?cD ?cU ?cZ ?_
    (case cB => k_asm); (case cF => k_asm); (case cX => k_asm); (case cN => k_asm); (case cT => k_asm); (case cK => first | exact rfl | assumption | with_unfolding_all rfl)
    (case cC => (refine' Con.dupE (os := [_]) (mem1 ?m1) (con_lev _ _ _ _ _ _ _ _ _ _ _ _ _); (case m1 => k_mem); skip))
    (case cD => ktr_room); (case cU => ktr_units)
    (case cZ => exact fun e9 => nomatch e9)
    (intro k9 bt9 r9 c9 md9 x9 d9 t0 t1 t2 t3 t4 t5 t6 t7 t8 t9 h' tk' hO9 l9 l8 F' N'; cases hO9; (try k_lt l9); (try k_lt2 l8); (try dsimp only); (try k_fold))))
  k_with "con" => (k_here; (with_reducible show wpAny _ _ (call (Value.ref 245) [Value.ref _]) _ _ _); k_dflt (
    refine' Con.useT ?cC ?cB ?cF ?cX ?cN ?cT ?cK ?cD ?cU ?_
    (case cB => k_asm); (case cF => k_asm); (case cX => k_asm); (case cN => k_asm); (case cT => k_asm); (case cK => first | exact rfl | assumption | with_unfolding_all rfl)
    (case cC => (refine' Con.dupT (os := [_, _]) (mem2 ?m1 ?m2) (con_ltold _ _ _ _ _ _ _ _ _ _ _ _ _ _ _ _ _ _  _); (case m1 => k_mem); (case m2 => k_mem); skip))
    (case cD => ktr_room); (case cU => ktr_units)
    (intro T9 t0 t1 t2 t3 t4 h' tk' l9 F' N'; (try k_lt l9); (try dsimp only); (try k_fold))))
  k_with "con" => (k_here; (with_reducible show wpAny _ _ (call (Value.ref 116) [Value.ref _, Value.ref _]) _ _ _); k_dflt (
    refine' Con.useV ?cC ?cB ?cF ?cX ?cN ?cT ?cK ?cD ?cU ?_
    (case cB => k_asm); (case cF => k_asm); (case cX => k_asm); (case cN => k_asm); (case cT => k_asm); (case cK => first | exact rfl | assumption | with_unfolding_all rfl)
    (case cC => (refine' Con.dup (os := [_, _, _, _]) (mem4 ?m1 ?m2 ?m3 ?m4) (con_same _ _ _ _ _ _ _ _ _ _ _ _ _ _ _ _ _ _ _ _ _ _ _ _ _  _ _ _ _ _ _ _ _ _ _  _); (case m1 => k_mem); (case m2 => k_mem); (case m3 => k_mem); (case m4 => k_mem); skip))
    (case cD => ktr_room); (case cU => ktr_units)
    (intro t9 h' tk' F' N'; (try dsimp only); (try k_fold))))
  k_with "con" => (k_here; (with_reducible show wpAny _ _ (call (Value.ref 238) [Value.ref _]) _ _ _); k_dflt (
    refine' Con.useEo ?cC ?cB ?cF ?cX ?cN ?cT ?cK ?cD ?cU ?_
    (case cB => k_asm); (case cF => k_asm); (case cX => k_asm); (case cN => k_asm); (case cT => k_asm); (case cK => first | exact rfl | assumption | with_unfolding_all rfl)
    (case cC => (refine' Con.dupE (os := [_]) (mem1 ?m1) (con_levL _ _ _ _ _ _ _ _ _ _ _ _ _ _); (case m1 => k_mem)))
    (case cD => ktr_room); (case cU => ktr_units)
    (intro x9 p91 p92 h' tk' hP9 l9 l8 F' N'; (try k_lt l9); (try dsimp only); (try k_fold))))
  k_with "con" => (k_here; (with_reducible show wpAny _ _ (call (Value.ref 238) [Value.ref _]) _ _ _); k_dflt (
    refine' Con.useEo ?cC ?cB ?cF ?cX ?cN ?cT ?cK ?cD ?cU ?_
    (case cB => k_asm); (case cF => k_asm); (case cX => k_asm); (case cN => k_asm); (case cT => k_asm); (case cK => first | exact rfl | assumption | with_unfolding_all rfl)
    (case cC => (refine' Con.dupE (os := [_]) (mem1 ?m1) (con_lev _ _ _ _ _ _ _ _ _ _ _ _ _); (case m1 => k_mem)))
    (case cD => ktr_room); (case cU => ktr_units)
    (intro x9 p91 p92 h' tk' hP9 l9 l8 F' N'; (try k_lt l9); (try dsimp only); (try k_fold))))
  k_with "con" => (k_here; (with_reducible show wpAny _ _ (call (Value.ref 116) [Value.ref _, Value.ref _]) _ _ _); k_dflt (
    refine' Con.useVb ?cC ?hv ?cB ?cF ?cX ?cN ?cT ?cK ?cD ?cU ?_
    (case cB => k_asm); (case cF => k_asm); (case cX => k_asm); (case cN => k_asm); (case cT => k_asm); (case cK => first | exact rfl | assumption | with_unfolding_all rfl)
    (case cC => (refine' Con.dup (os := [_, _, _, _]) (mem4 ?m1 ?m2 ?m3 ?m4) (con_sameP _ _ _ _ _ _ _ _ _ ?p1 ?p2 _); (case p1 => assumption); (case p2 => assumption); (case m1 => k_mem); (case m2 => k_mem); (case m3 => k_mem); (case m4 => k_mem)))
    (case hv => assumption); (case cD => ktr_room); (case cU => ktr_units)
    (intro h' tk' F' N'; (try dsimp only); (try k_fold))))
  k_with "con" => (k_here; (with_reducible show wpAny _ _ (call (Value.ref 245) [Value.ref _]) _ _ _); k_dflt (
    refine' Con.useT ?cC ?cB ?cF ?cX ?cN ?cT ?cK ?cD ?cU ?_
    (case cB => k_asm); (case cF => k_asm); (case cX => k_asm); (case cN => k_asm); (case cT => k_asm); (case cK => first | exact rfl | assumption | with_unfolding_all rfl)
    (case cC => (refine' Con.dupT (os := [_, _]) (mem2 ?m1 ?m2) (con_ltoldP _ _ _ _ _ ?p1 _); (case p1 => assumption); (case m1 => k_mem); (case m2 => k_mem)))
    (case cD => ktr_room); (case cU => ktr_units)
    (intro T9 t0 t1 t2 t3 t4 h' tk' l9 F' N'; (try k_lt l9); (try dsimp only); (try k_fold))))
  k_with "con" => (k_here; (with_reducible show wpAny _ _ (call (Value.ref 203) [Value.bytes _ _, Value.int _ _, Value.bool _]) _ _ _); k_dflt (
    refine Con.useFsP (con_read_mouse _ _ _ _ _ _ (by kba_ints2) (by assumption) _) (by assumption) (by k_asm) (by k_asm) (by k_asm) (by k_asm) (by k_asm) (by first | exact rfl | assumption) (by ktr_room) (by ktr_units) ?_
    (intro D9 x9 p91 p92 t9 h' tk' hP9 l9 l8 l7 F' N'; (try k_lt l9); (try dsimp only); (try k_fold))))
  k_with "con" => (k_here; (with_reducible show wpAny _ _ (call (Value.ref 123) [Value.int _ _]) _ _ _); k_dflt (
    refine Con.useV (con_is_wheel _ _ _ _) (by k_asm) (by k_asm) (by k_asm) (by k_asm) (by k_asm) (by first | exact rfl | assumption) (by ktr_room) (by ktr_units) ?_
    (intro t9 h' tk' F' N'; (try dsimp only); (try k_fold))))
  k_with "con" => (k_here; (with_reducible show wpAny _ _ (call (Value.ref 144) [Value.ref _, Value.str _ _]) _ _ _); k_dflt (
    refine' Con.useV ?cC ?cB ?cF ?cX ?cN ?cT ?cK ?cD ?cU ?_
    (case cB => k_asm); (case cF => k_asm); (case cX => k_asm); (case cN => k_asm); (case cT => k_asm); (case cK => first | exact rfl | assumption | with_unfolding_all rfl)
    (case cC => (refine' Con.dup (os := [_, _]) (mem2 ?m1 ?m2) (con_told _ _ _ _ _ _ _ _ _ _ _ _ _ _ _ _ _ _  _ ?s1 _); (case m1 => k_mem); (case m2 => k_mem); (case s1 => assumption)))
    (case cD => ktr_room); (case cU => ktr_units)
    (intro t9 h' tk' F' N'; (try dsimp only); (try k_fold))))
  k_with "con" => (k_here; (with_reducible show wpAny _ _ (call (Value.ref 21) [Value.int _ _]) _ _ _); k_dflt (
    refine Con.useB (con_dec_oct _ _ _ (by first | assumption | omega | (simp; omega)) (by first | assumption | omega | (simp; omega)) _) (by k_asm) (by k_asm) (by k_asm) (by k_asm) (by k_asm) (by first | exact rfl | assumption) (by ktr_room) (by ktr_units) ?_
    (intro b9 t9 h' tk' hO9 F' N'; (try dsimp only); (try k_fold))))
  k_with "con" => (k_here; (with_reducible show wpAny _ _ (call (Value.ref 151) [Value.int _ _]) _ _ _); k_dflt (
    refine Con.useB (con_code_oct _ _ _ (by first | assumption | omega | (simp; omega)) (by first | assumption | omega | (simp; omega)) _) (by k_asm) (by k_asm) (by k_asm) (by k_asm) (by k_asm) (by first | exact rfl | assumption) (by ktr_room) (by ktr_units) ?_
    (intro b9 t9 h' tk' hO9 F' N'; (try dsimp only); (try k_fold))))
  k_with "con" => (k_here; (with_reducible show wpAny _ _ (call (Value.ref 156) [Value.ref _, Value.int _ _, Value.bool false]) _ _ _); k_dflt (
    refine' Con.useB ?cC ?cB ?cF ?cX ?cN ?cT ?cK ?cD ?cU ?_
    (case cB => k_asm); (case cF => k_asm); (case cX => k_asm); (case cN => k_asm); (case cT => k_asm); (case cK => first | exact rfl | assumption | with_unfolding_all rfl)
    (case cC => (refine' Con.dup (os := [_]) (mem1 ?m1) (con_plain_oct _ _ _ _ _ _ _ _ _ _ ?s1 ?s2 ?s3 ?s4 ?s5 ?s6 _); (case m1 => k_mem); (case s1 => first | assumption | omega); (case s2 => first | assumption | omega); (case s3 => first | assumption | omega); (case s4 => first | assumption | omega); (case s5 => first | assumption | omega); (case s6 => first | assumption | omega)))
    (case cD => ktr_room); (case cU => ktr_units)
    (intro b9 t9 h' tk' hO9 F' N'; (try dsimp only); (try k_fold))))
  k_with "con" => (k_here; (with_reducible show wpAny _ _ (call (Value.ref 156) [Value.ref _, Value.int _ _, Value.bool true]) _ _ _); k_dflt (
    refine' Con.useB ?cC ?cB ?cF ?cX ?cN ?cT ?cK ?cD ?cU ?_
    (case cB => k_asm); (case cF => k_asm); (case cX => k_asm); (case cN => k_asm); (case cT => k_asm); (case cK => first | exact rfl | assumption | with_unfolding_all rfl)
    (case cC => (refine' Con.dup (os := [_]) (mem1 ?m1) (con_plain_utf _ _ _ _ _ _ _ _ _ _ ?s1 ?s2 ?s3 ?s4 ?s5 ?s6 _); (case m1 => k_mem); (case s1 => first | assumption | omega); (case s2 => first | assumption | omega); (case s3 => first | assumption | omega); (case s4 => first | assumption | omega); (case s5 => first | assumption | omega); (case s6 => first | assumption | omega)))
    (case cD => ktr_room); (case cU => ktr_units)
    (intro b9 t9 h' tk' hO9 F' N'; (try dsimp only); (try k_fold))))
  k_with "con" => (k_here; (with_reducible show wpAny _ _ (call (Value.ref 161) [Value.ref _]) _ _ _); k_dflt (
    refine' Con.useB ?cC ?cB ?cF ?cX ?cN ?cT ?cK ?cD ?cU ?_
    (case cB => k_asm); (case cF => k_asm); (case cX => k_asm); (case cN => k_asm); (case cT => k_asm); (case cK => first | exact rfl | assumption | with_unfolding_all rfl)
    (case cC => (refine' Con.dup (os := [_]) (mem1 ?m1) (con_decimals _ _ _ _ _ _ _ _ _ ?s1 ?s2 ?s3 ?s4 ?s5 ?s6 _); (case m1 => k_mem); (case s1 => first | assumption | omega); (case s2 => first | assumption | omega); (case s3 => first | assumption | omega); (case s4 => first | assumption | omega); (case s5 => first | assumption | omega); (case s6 => first | assumption | omega)))
    (case cD => ktr_room); (case cU => ktr_units)
    (intro b9 t9 h' tk' hO9 F' N'; (try dsimp only); (try k_fold))))
  k_with "con" => (k_here; (with_reducible show wpAny _ _ (call (Value.ref 130) [Value.ref _, Value.bool _]) _ _ _); k_dflt (
    refine' Con.useV ?cC ?cB ?cF ?cX ?cN ?cT ?cK ?cD ?cU ?_
    (case cB => k_asm); (case cF => k_asm); (case cX => k_asm); (case cN => k_asm); (case cT => k_asm); (case cK => first | exact rfl | assumption | with_unfolding_all rfl)
    (case cC => (refine' Con.dup (os := [_, _]) (mem2 ?m1 ?m2) (con_number _ _ _ _ _ _ _ _ _ _ _ _ _ _ _ _ _ _  0 _ ?s1 ?s2 ?s3 ?s4 ?s5 _); (case m1 => k_mem); (case m2 => k_mem); (case s1 => first | assumption | omega); (case s2 => first | assumption | omega); (case s3 => first | assumption | omega); (case s4 => first | assumption | omega); (case s5 => first | assumption | omega)))
    (case cD => ktr_room); (case cU => ktr_units)
    (intro t9 h' tk' F' N'; (try dsimp only); (try k_fold))))
  k_with "con" => (k_here; (with_reducible show wpAny _ _ (call (Value.ref 169) [Value.ref _, Value.ref _]) _ _ _); k_dflt (
    refine' Con.useB ?cC ?cB ?cF ?cX ?cN ?cT ?cK ?cD ?cU ?_
    (case cB => k_asm); (case cF => k_asm); (case cX => k_asm); (case cN => k_asm); (case cT => k_asm); (case cK => first | exact rfl | assumption | with_unfolding_all rfl)
    (case cC => (refine' Con.dup (os := [_, _, _, _, _]) (mem5 ?m1 ?m2 ?m3 ?m4 ?m5) (con_oct _ _ _ _ _ _ _ _ _ _ _ _ _ _ _ _ _ _ _ _ _ _  _ _ _ _ ?s1 ?s2 ?s3 ?s4 ?s5 ?s6 ?s7 ?s8 ?s9 ?s10 ?s11 ?s12 _); (case m1 => k_mem); (case m2 => k_mem); (case m3 => k_mem); (case m4 => k_mem); (case m5 => k_mem); (case s1 => assumption); (case s2 => assumption); (case s3 => assumption); (case s4 => assumption); (case s5 => assumption); (case s6 => assumption); (case s7 => assumption); (case s8 => assumption); (case s9 => assumption); (case s10 => assumption); (case s11 => assumption); (case s12 => assumption)))
    (case cD => ktr_room); (case cU => ktr_units)
    (intro b9 t9 h' tk' hO9 F' N'; (try dsimp only); (try k_fold))))
  k_with "con" => (k_here; (with_reducible show wpAny _ _ (call (Value.ref 231) [Value.ref _]) _ _ _); k_dflt (
    refine' Con.useT ?cC ?cB ?cF ?cX ?cN ?cT ?cK ?cD ?cU ?_
    (case cB => k_asm); (case cF => k_asm); (case cX => k_asm); (case cN => k_asm); (case cT => k_asm); (case cK => first | exact rfl | assumption | with_unfolding_all rfl)
    (case cC => (refine' Con.dupT (os := [_]) (mem1 ?m1) (con_partsE _ _ _ _ _ _ _ _ _ _ _ _ _ _ _ _ ?s1 ?s2 ?s3 ?s4 ?s5 _); (case m1 => k_mem); (case s1 => first | assumption | omega); (case s2 => first | assumption | omega); (case s3 => first | assumption | omega); (case s4 => first | assumption | omega); (case s5 => first | assumption | omega)))
    (case cD => ktr_room); (case cU => ktr_units)
    (intro T9 t0 t1 t2 t3 t4 h' tk' l9 F' N'; (try k_lt l9); (try dsimp only); (try k_fold))))
  k_with "con" => (k_here; (with_reducible show wpAny _ _ (call (Value.ref 169) [Value.ref _, Value.ref _]) _ _ _); k_dflt (
    refine' Con.useB ?cC ?cB ?cF ?cX ?cN ?cT ?cK ?cD ?cU ?_
    (case cB => k_asm); (case cF => k_asm); (case cX => k_asm); (case cN => k_asm); (case cT => k_asm); (case cK => first | exact rfl | assumption | with_unfolding_all rfl)
    (case cC => (refine' Con.dup (os := [_, _, _, _, _]) (mem5 ?m1 ?m2 ?m3 ?m4 ?m5) (con_octP _ _ _ _ _ _ _ _ _ _ ?s1 ?evp ?mop ?s2 _); (case evp => assumption); (case mop => assumption); (case s1 => assumption); (case s2 => assumption); (case m1 => k_mem); (case m2 => k_mem); (case m3 => k_mem); (case m4 => k_mem); (case m5 => k_mem)))
    (case cD => ktr_room); (case cU => ktr_units)
    (intro b9 t9 h' tk' hO9 F' N'; (try dsimp only); (try k_fold))))
  trivial
-- the plain law: what is told is read again, octet by octet
-- the listing's steps along octets
noncomputable def Runs (u : Bool) : List LD → List Int → List Int → List LD → List Int → Prop
  | f, l, [], f', l' => f' = f ∧ l' = l
  | f, l, n :: r, f', l' => ∃ f1 l1, LStep u f l n f1 l1 ∧ Runs u f1 l1 r f' l'
theorem Runs.app {u : Bool} {a b : List Int} : ∀ {f l f1 l1 f2 l2}, Runs u f l a f1 l1 → Runs u f1 l1 b f2 l2 → Runs u f l (a ++ b) f2 l2 := by
  induction a with
  | nil => intro f l f1 l1 f2 l2 h h2; obtain ⟨rfl, rfl⟩ := h; exact h2
  | cons n a ih => intro f l f1 l1 f2 l2 h h2; obtain ⟨g, m, s, h⟩ := h; exact ⟨g, m, s, ih h h2⟩
theorem Runs.st {u : Bool} {ks : List Int} : ∀ {f l f' l'}, Runs u f l ks f' l' → ∃ st : Nat → List LD × List Int, st 0 = (f, l) ∧ (∀ i n, ks[i]? = some n → LStep u (st i).1 (st i).2 n (st (i + 1)).1 (st (i + 1)).2) ∧ st ks.length = (f', l') := by
  induction ks with
  | nil => intro f l f' l' h; obtain ⟨rfl, rfl⟩ := h; exact ⟨fun _ => _, rfl, fun i n h => by simp at h, rfl⟩
  | cons n r ih =>
    intro f l f' l' h
    obtain ⟨f1, l1, s, h⟩ := h
    obtain ⟨st, h0, hs, he⟩ := ih h
    refine ⟨fun i => Nat.rec (f, l) (fun i _ => st i) i, rfl, fun i k hk => ?_, he⟩
    cases i with
    | zero =>
      have e : n = k := Option.some.inj hk
      subst e
      show LStep u f l n (st 0).1 (st 0).2
      rw [h0]; exact s
    | succ i => exact hs i k hk
-- a beginning: nothing is read, and it is told to be begun
noncomputable def Beg (u : Bool) (p : List Int) : Prop := Good p ∧ p.length ≤ 900 ∧ rdMouse p u = none ∧ rdFocus p = none ∧ begun p u = true
-- octets that are read whole as d
noncomputable def Whole (u : Bool) (M : List Int) (d : LD) : Prop := Good M ∧ M.length ≤ 900 ∧ match d with
  | .ev e => rdMouse M u = some (e, (M.length : Int)) ∧ rdFocus M = none
  | .fo b => rdMouse M u = none ∧ rdFocus M = some (b, (M.length : Int))
theorem runs_msg {u : Bool} {d : LD} : ∀ {q p : List Int} {f : List LD} {M : List Int}, M = p ++ q → q ≠ [] → (∀ a b, q = a ++ b → a ≠ [] → b ≠ [] → Beg u (p ++ a)) → Whole u M d → Runs u f p q (f ++ [d]) []
  | [], _, _, _, _, h, _, _ => absurd rfl h
  | [n], p, f, M, e, _, _, hw => by
    subst e
    refine ⟨f ++ [d], [], ⟨hw.1, hw.2.1, ?_⟩, rfl, rfl⟩
    cases d with
    | ev e => exact .inl ⟨e, hw.2.2.1, hw.2.2.2, rfl, rfl⟩
    | fo b => exact .inr (.inl ⟨b, hw.2.2.1, hw.2.2.2, rfl, rfl⟩)
  | n :: m :: r, p, f, M, e, _, hb, hw => by
    have h := hb [n] (m :: r) rfl (by simp) (by simp)
    refine ⟨f, p ++ [n], ⟨h.1, h.2.1, .inr (.inr ⟨h.2.2.1, h.2.2.2.1, h.2.2.2.2, rfl, rfl⟩)⟩, ?_⟩
    refine runs_msg (M := M) (by rw [e]; simp) (by simp) (fun a b ea ha hb' => ?_) hw
    have := hb (n :: a) b (by rw [ea]; rfl) (by simp) hb'
    simpa using this
theorem runs_of {u : Bool} {d : LD} {f : List LD} {M : List Int} (hM : M ≠ []) (hb : ∀ a b, M = a ++ b → a ≠ [] → b ≠ [] → Beg u a) (hw : Whole u M d) : Runs u f [] M (f ++ [d]) [] :=
  runs_msg (p := []) rfl hM (fun a b e ha hb' => hb a b e ha hb') hw
-- prefixes
theorem pre_split {α : Type} {M N a b : List α} (e : M ++ N = a ++ b) : (∃ c, M = a ++ c ∧ b = c ++ N) ∨ ∃ c, a = M ++ c ∧ N = c ++ b := by
  rcases List.append_eq_append_iff.mp e with ⟨c, h1, h2⟩ | ⟨c, h1, h2⟩
  · exact .inr ⟨c, h1, h2⟩
  · exact .inl ⟨c, h1, h2⟩
theorem good_short {p : List Int} (h : p = [27] ∨ p = [27, 91]) : Good p := by
  rcases h with rfl | rfl
  · exact ⟨by decide, fun _ => ⟨fun h => absurd h (by decide), fun _ h => absurd h (by decide)⟩⟩
  · exact ⟨by decide, fun _ => ⟨fun h => absurd h (by decide), fun _ _ => .inl ⟨[], rfl, by decide⟩⟩⟩
theorem beg_1 (u : Bool) : Beg u [27] := ⟨good_short (.inl rfl), by decide, rfl, rfl, by cases u <;> rfl⟩
theorem beg_2 (u : Bool) : Beg u [27, 91] := ⟨good_short (.inr rfl), by decide, rfl, rfl, by cases u <;> rfl⟩
-- the focus
theorem whole_focus (u : Bool) : Whole u [27, 91, 73] (.fo true) ∧ Whole u [27, 91, 79] (.fo false) := by
  refine ⟨⟨⟨by decide, fun _ => ⟨fun h => absurd h (by decide), fun _ _ => .inl ⟨[], rfl, by decide⟩⟩⟩, by decide, rfl, rfl⟩, ⟨⟨by decide, fun _ => ⟨fun h => absurd h (by decide), fun _ _ => .inl ⟨[], rfl, by decide⟩⟩⟩, by decide, rfl, rfl⟩⟩
theorem head_pre {p t : List Int} {k : Int} (e : [27, 91, k] = p ++ t) (hp : p ≠ []) : p = [27] ∨ p = [27, 91] ∨ (p = [27, 91, k] ∧ t = []) := by
  rcases p with _ | ⟨x, _ | ⟨y, _ | ⟨z, _ | ⟨v, r⟩⟩⟩⟩
  · exact absurd rfl hp
  · cases e; exact .inl rfl
  · cases e; exact .inr (.inl rfl)
  · cases e; exact .inr (.inr ⟨rfl, rfl⟩)
  · cases e
theorem runs_focus (u : Bool) {f : List LD} {k : Int} {b : Bool} (hw : Whole u [27, 91, k] (.fo b)) : Runs u f [] [27, 91, k] (f ++ [.fo b]) [] := by
  refine runs_of (by simp) (fun a c e ha hc => ?_) hw
  rcases head_pre e ha with rfl | rfl | ⟨_, h⟩
  · exact beg_1 u
  · exact beg_2 u
  · exact absurd h hc
-- ### the plain ways: codes behind a head
noncomputable def cI (u : Bool) (n : Int) : List Int := if u = true then codeI n else [n]
theorem code_fin0 : ∀ m : Fin 128, 194 ≤ bitOr 192 ((128 + (m.val : Int)) / 64) ∧ bitOr 192 ((128 + (m.val : Int)) / 64) ≤ 223 ∧ bitAnd (bitOr 128 (bitAnd (128 + (m.val : Int)) 63)) 192 = 128 ∧
    bitOr (bitAnd (bitOr 192 ((128 + (m.val : Int)) / 64)) 31 * 2 ^ Int.toNat 6) (bitAnd (bitOr 128 (bitAnd (128 + (m.val : Int)) 63)) 63) = 128 + (m.val : Int) := by decide +kernel
theorem code_fin {n : Int} (h : ¬ n < 128) (h1 : n ≤ 255) : 194 ≤ bitOr 192 (n / 64) ∧ bitOr 192 (n / 64) ≤ 223 ∧ bitAnd (bitOr 128 (bitAnd n 63)) 192 = 128 ∧
    bitOr (bitAnd (bitOr 192 (n / 64)) 31 * 2 ^ Int.toNat 6) (bitAnd (bitOr 128 (bitAnd n 63)) 63) = n := by
  have := code_fin0 ⟨(n - 128).toNat, by omega⟩
  have e : (128 + (((n - 128).toNat : Nat) : Int)) = n := by omega
  rw [e] at this
  exact this
theorem getD_pre {p r : List Int} {k : Int} : (p ++ k :: r).getD ((p.length : Int)).toNat 0 = k := by simp
theorem getD_pre1 {p r : List Int} {k j : Int} : (p ++ k :: j :: r).getD ((p.length : Int) + 1).toNat 0 = j := by
  have : ((p.length : Int) + 1).toNat = p.length + 1 := by omega
  rw [this]; simp
theorem code8_at {u : Bool} {p r : List Int} {n : Int} (h1 : n ≤ 255) : code8 (p ++ (cI u n ++ r)) p.length u = some (n, (p.length : Int) + (cI u n).length) := by
  unfold cI
  cases u with
  | false =>
    have hl : ¬ ((p ++ (n :: r)).length : Int) ≤ p.length := by simp only [List.length_append, List.length_cons]; omega
    show code8 (p ++ (n :: r)) p.length false = _
    rw [code8, if_neg hl, if_pos (.inl rfl), getD_pre]; rfl
  | true =>
    unfold codeI
    by_cases h : n < 128
    · have hl : ¬ ((p ++ (n :: r)).length : Int) ≤ p.length := by simp only [List.length_append, List.length_cons]; omega
      rw [if_pos rfl, if_pos h]
      show code8 (p ++ (n :: r)) p.length true = _
      rw [code8, if_neg hl, getD_pre, if_pos (.inr h)]; rfl
    · rw [if_pos rfl, if_neg h]
      obtain ⟨a, b, c, d⟩ := code_fin h h1
      generalize bitOr 192 (n / 64) = x at a b d
      generalize bitOr 128 (bitAnd n 63) = y at c d
      have hl : ¬ ((p ++ (x :: y :: r)).length : Int) ≤ p.length := by simp only [List.length_append, List.length_cons]; omega
      have hl2 : ¬ ((p ++ (x :: y :: r)).length : Int) ≤ p.length + 1 := by simp only [List.length_append, List.length_cons]; omega
      show code8 (p ++ (x :: y :: r)) p.length true = _
      rw [code8, if_neg hl, getD_pre, getD_pre1, if_neg (fun z => z.elim (fun q => nomatch q) fun q => by omega), if_neg (fun z => z.elim (fun q => q ⟨a, b⟩) fun z => z.elim hl2 fun q => q c), d]; rfl
theorem cI_ne (u : Bool) (n : Int) : cI u n ≠ [] := by
  unfold cI codeI
  split
  · split <;> simp
  · simp
theorem code8_end {u : Bool} {p : List Int} : code8 p p.length u = none := if_pos (Int.le_refl _)
-- a code that has not come whole
theorem code8_part {u : Bool} {p q r : List Int} {n : Int} (h1 : n ≤ 255) (e : cI u n = q ++ r) (hr : r ≠ []) : code8 (p ++ q) p.length u = none ∧ ∀ k, more3 (p ++ q) u (k + 1) p.length = true := by
  match q, e with
  | [], _ =>
    rw [List.append_nil]
    exact ⟨code8_end, fun k => by rw [more3, if_neg (Int.lt_irrefl _)]⟩
  | [x], e =>
    have hu : u = true ∧ ¬ n < 128 := by
      unfold cI codeI at e
      cases u with
      | false => simp at e; exact absurd e.2 hr
      | true =>
        by_cases h : n < 128
        · rw [if_pos rfl, if_pos h] at e; simp at e; exact absurd e.2 hr
        · exact ⟨rfl, h⟩
    obtain ⟨rfl, h⟩ := hu
    rw [cI, if_pos rfl, codeI, if_neg h] at e
    have ex : bitOr 192 (n / 64) = x := (List.cons.inj e).1
    obtain ⟨a, b, _, _⟩ := code_fin h h1
    rw [ex] at a b
    have hlen : ((p ++ [x]).length : Int) = p.length + 1 := by simp
    have hx : (p ++ [x]).getD ((p.length : Int)).toNat 0 = x := getD_pre
    have hn : code8 (p ++ [x]) p.length true = none := by
      rw [code8, hlen, if_neg (by omega), hx, if_neg (fun z => z.elim (fun q => nomatch q) fun q => by omega), if_pos (.inr (.inl (Int.le_refl _)))]
    refine ⟨hn, fun k => ?_⟩
    rw [more3, hlen, if_pos (by omega), hn, hx]
    simp [a, b]
  | x :: y :: z, e =>
    have : (cI u n).length ≤ 2 := by
      unfold cI codeI
      split
      · split <;> simp
      · simp
    rw [e] at this
    cases r with
    | nil => exact absurd rfl hr
    | cons a b => simp at this
theorem more3_at {u : Bool} {p r : List Int} {n : Int} {k : Nat} (h1 : n ≤ 255) : more3 (p ++ (cI u n ++ r)) u (k + 1) p.length = more3 (p ++ (cI u n ++ r)) u k ((p.length : Int) + (cI u n).length) := by
  rw [more3, if_pos ?_, code8_at h1]
  have := cI_ne u n
  have : 0 < (cI u n).length := List.length_pos_iff.mpr this
  simp only [List.length_append]
  omega
theorem app_len {p q : List Int} : ((p.length : Int) + q.length) = ((p ++ q).length : Nat) := by simp
section
variable {u : Bool} {a b c : Int}
noncomputable def plainM (u : Bool) (a b c : Int) : List Int := [27, 91, 77] ++ (cI u a ++ (cI u b ++ cI u c))
-- a beginning of a plain message: three octets of the head, and nothing that is read
theorem beg_plain {q : List Int} (hl : q.length ≤ 100) (hn : rdPlain ([27, 91, 77] ++ q) 3 u = none) (hm : more3 ([27, 91, 77] ++ q) u 3 3 = true) : Beg u ([27, 91, 77] ++ q) := by
  have ht : ([27, 91, 77] ++ q).take 3 = [27, 91, 77] := rfl
  refine ⟨⟨by simp; omega, fun h => absurd ht h⟩, by simp; omega, ?_, ?_, ?_⟩
  · unfold rdMouse; rw [if_pos ht]; exact hn
  · unfold rdFocus; rw [ht]; rfl
  · unfold begun
    rw [ht]
    rw [if_neg (by simp), if_neg (by simp), if_neg (by simp)]
    exact hm
theorem cI_le (u : Bool) (n : Int) : (cI u n).length ≤ 2 := by
  unfold cI codeI
  split
  · split <;> simp
  · simp
theorem rdPlain_read {e : Ev} (ha : a ≤ 255) (hb : b ≤ 255) (hc : c ≤ 255) (ha1 : 32 ≤ a) (hb1 : 32 ≤ b) (hc1 : 32 ≤ c) (he : evOf (a - 32) (b - 32) (c - 32) none = some e) :
    rdPlain (plainM u a b c) 3 u = some (e, ((plainM u a b c).length : Int)) := by
  have e1 : code8 (plainM u a b c) 3 u = some (a, (((([27, 91, 77] : List Int) ++ cI u a).length : Nat) : Int)) := (code8_at (p := [27, 91, 77]) ha).trans (by rw [app_len])
  have e2 : code8 (plainM u a b c) (((([27, 91, 77] : List Int) ++ cI u a).length : Nat) : Int) u = some (b, (((([27, 91, 77] : List Int) ++ cI u a ++ cI u b).length : Nat) : Int)) := by
    have := code8_at (u := u) (p := [27, 91, 77] ++ cI u a) (r := cI u c) hb
    rw [app_len] at this
    have e : plainM u a b c = [27, 91, 77] ++ cI u a ++ (cI u b ++ cI u c) := (List.append_assoc _ _ _).symm
    rw [e]
    exact this
  have e3 : code8 (plainM u a b c) (((([27, 91, 77] : List Int) ++ cI u a ++ cI u b).length : Nat) : Int) u = some (c, ((plainM u a b c).length : Int)) := by
    have := code8_at (u := u) (p := [27, 91, 77] ++ cI u a ++ cI u b) (r := []) hc
    rw [app_len, List.append_nil] at this
    have e : plainM u a b c = [27, 91, 77] ++ cI u a ++ cI u b ++ cI u c := by simp [plainM]
    rw [e]
    exact this
  exact rdPlain_h e1 (by omega) e2 (by omega) e3 (by omega) he
end
section
variable {u : Bool} {a b c : Int}
-- a head's beginnings
theorem beg_p0 {q r : List Int} (ha : a ≤ 255) (e : cI u a = q ++ r) (hr : r ≠ []) : Beg u ([27, 91, 77] ++ q) := by
  have hl := cI_le u a
  rw [e, List.length_append] at hl
  obtain ⟨h1, h2⟩ := code8_part (p := [27, 91, 77]) ha e hr
  exact beg_plain (by omega) (rdPlain_a h1) (h2 2)
theorem beg_p1 {q r : List Int} (ha : a ≤ 255) (ha1 : 32 ≤ a) (hb : b ≤ 255) (e : cI u b = q ++ r) (hr : r ≠ []) : Beg u ([27, 91, 77] ++ (cI u a ++ q)) := by
  have hl0 := cI_le u a
  have hl := cI_le u b
  rw [e, List.length_append] at hl
  have k1 := code8_at (u := u) (p := [27, 91, 77]) (r := q) ha
  have m1 := more3_at (u := u) (p := [27, 91, 77]) (r := q) (k := 2) ha
  obtain ⟨h1, h2⟩ := code8_part (p := [27, 91, 77] ++ cI u a) hb e hr
  rw [app_len] at k1 m1
  rw [List.append_assoc] at h1
  refine beg_plain (by rw [List.length_append]; omega) (rdPlain_c k1 (by omega) h1) (m1.trans ?_)
  have := h2 1
  rw [List.append_assoc] at this
  exact this
theorem beg_p2 {q r : List Int} (ha : a ≤ 255) (ha1 : 32 ≤ a) (hb : b ≤ 255) (hb1 : 32 ≤ b) (hc : c ≤ 255) (e : cI u c = q ++ r) (hr : r ≠ []) : Beg u ([27, 91, 77] ++ (cI u a ++ (cI u b ++ q))) := by
  have hl0 := cI_le u a
  have hl1 := cI_le u b
  have hl := cI_le u c
  rw [e, List.length_append] at hl
  have k1 := code8_at (u := u) (p := [27, 91, 77]) (r := cI u b ++ q) ha
  have m1 := more3_at (u := u) (p := [27, 91, 77]) (r := cI u b ++ q) (k := 2) ha
  have k2 := code8_at (u := u) (p := [27, 91, 77] ++ cI u a) (r := q) hb
  have m2 := more3_at (u := u) (p := [27, 91, 77] ++ cI u a) (r := q) (k := 1) hb
  obtain ⟨h1, h2⟩ := code8_part (p := [27, 91, 77] ++ cI u a ++ cI u b) hc e hr
  have h2 := h2 0
  rw [app_len] at k1 m1 k2 m2
  rw [List.append_assoc] at k2 m2
  rw [List.append_assoc, List.append_assoc] at h1 h2
  exact beg_plain (by rw [List.length_append, List.length_append]; omega) (rdPlain_e k1 (by omega) k2 (by omega) h1) (m1.trans (m2.trans h2))
theorem whole_plain {e : Ev} (ha : a ≤ 255) (hb : b ≤ 255) (hc : c ≤ 255) (ha1 : 32 ≤ a) (hb1 : 32 ≤ b) (hc1 : 32 ≤ c) (he : evOf (a - 32) (b - 32) (c - 32) none = some e) : Whole u (plainM u a b c) (.ev e) := by
  have ht : (plainM u a b c).take 3 = [27, 91, 77] := rfl
  have hl : (plainM u a b c).length ≤ 100 := by
    have := cI_le u a
    have := cI_le u b
    have := cI_le u c
    simp only [plainM, List.length_append, List.length_cons, List.length_nil]
    omega
  refine ⟨⟨by omega, fun h => absurd ht h⟩, by omega, ?_, ?_⟩
  · exact (rdMouse_m ht).trans (rdPlain_read ha hb hc ha1 hb1 hc1 he)
  · unfold rdFocus; rw [ht]; rfl
theorem runs_plain {e : Ev} {f : List LD} (ha : a ≤ 255) (hb : b ≤ 255) (hc : c ≤ 255) (ha1 : 32 ≤ a) (hb1 : 32 ≤ b) (hc1 : 32 ≤ c) (he : evOf (a - 32) (b - 32) (c - 32) none = some e) : Runs u f [] (plainM u a b c) (f ++ [.ev e]) [] := by
  refine runs_of (by simp [plainM]) (fun p s ep hp hs => ?_) (whole_plain ha hb hc ha1 hb1 hc1 he)
  rcases pre_split ep with ⟨t, h1, h2⟩ | ⟨t, rfl, h2⟩
  · rcases head_pre h1 hp with rfl | rfl | ⟨rfl, rfl⟩
    · exact beg_1 u
    · exact beg_2 u
    · exact beg_p0 (q := []) (r := cI u a) ha rfl (cI_ne u a)
  rcases pre_split h2 with ⟨t2, h3, h4⟩ | ⟨t2, rfl, h4⟩
  · by_cases ht2 : t2 = []
    · rw [ht2, List.append_nil] at h3
      rw [← h3]
      have := beg_p1 (u := u) (q := []) (r := cI u b) ha ha1 hb rfl (cI_ne u b)
      rwa [List.append_nil] at this
    · exact beg_p0 ha h3 ht2
  rcases pre_split h4 with ⟨t3, h5, h6⟩ | ⟨t3, rfl, h6⟩
  · by_cases ht3 : t3 = []
    · rw [ht3, List.append_nil] at h5
      rw [← h5]
      have := beg_p2 (u := u) (q := []) (r := cI u c) ha ha1 hb hb1 hc rfl (cI_ne u c)
      rwa [List.append_nil] at this
    · exact beg_p1 ha ha1 hb h5 ht3
  · exact beg_p2 ha ha1 hb hb1 hc h6 hs
end
-- ### the ways in decimals
theorem splitI_dig : ∀ {q : List Int}, (∀ k ∈ q, k ≠ 59) → splitI q = [q]
  | [], _ => rfl
  | k :: r, h => by rw [splitI, if_neg (h k (.head _)), splitI_dig fun x hx => h x (.tail _ hx)]
theorem splitI_cons : ∀ {p r : List Int}, (∀ k ∈ p, k ≠ 59) → splitI (p ++ 59 :: r) = p :: splitI r
  | [], _, _ => by rw [List.nil_append, splitI, if_pos rfl]
  | k :: p, r, h => by rw [List.cons_append, splitI, if_neg (h k (.head _)), splitI_cons fun x hx => h x (.tail _ hx)]
noncomputable def Dig (q : List Int) : Prop := ∀ k ∈ q, 48 ≤ k ∧ k ≤ 57
theorem Dig.ne {q : List Int} (h : Dig q) : ∀ k ∈ q, k ≠ 59 := fun k hk => by have := h k hk; omega
theorem Dig.dec {q : List Int} (h : Dig q) : q.all isDec = true := List.all_eq_true.mpr fun k hk => isDec_of (.inl (h k hk))
theorem Dig.cnt {q : List Int} (h : Dig q) : (q.filter fun k => decide (k = 59)) = [] := List.filter_eq_nil_iff.mpr fun k hk => by have := h.ne k hk; simpa using this
theorem decI_dig {n : Int} (h0 : 0 ≤ n) : Dig (decI n) := by
  intro k hk
  unfold decI at hk
  split at hk
  · simp only [List.mem_cons, List.mem_nil_iff, or_false] at hk; omega
  · split at hk
    · simp only [List.mem_cons, List.mem_nil_iff, or_false] at hk; omega
    · simp only [List.mem_cons, List.mem_nil_iff, or_false] at hk; omega
theorem decI_ne (n : Int) : decI n ≠ [] := by
  unfold decI
  split
  · simp
  · split <;> simp
theorem decI_le3 (n : Int) : (decI n).length ≤ 3 := by
  unfold decI
  split
  · simp
  · split <;> simp
theorem numOf_decI {n : Int} (h0 : 0 ≤ n) (h1 : n ≤ 999) : numOf (decI n) = some n := by
  unfold numOf
  rw [if_pos ⟨decI_ne n, decI_dig h0⟩]
  congr 1
  unfold decI numF
  split
  · simp only [List.foldl_cons, List.foldl_nil]; omega
  · split
    · simp only [List.foldl_cons, List.foldl_nil]; omega
    · simp only [List.foldl_cons, List.foldl_nil]; omega
noncomputable def decM (a b c : Int) : List Int := decI a ++ 59 :: (decI b ++ 59 :: decI c)
-- decimals that have come, none after a third semicolon
structure DecP (q : List Int) : Prop where
  all : q.all isDec = true
  are : areDec q = true
  good : GoodDec q
  len : q.length ≤ 11
theorem dig_pre {p q r : List Int} (h : Dig p) (e : p = q ++ r) : Dig q := fun k hk => h k (by rw [e]; exact List.mem_append_left _ hk)
section
variable {a b c : Int}
theorem all59 {p q : List Int} (h1 : p.all isDec = true) (h2 : q.all isDec = true) : (p ++ 59 :: q).all isDec = true := by
  rw [List.all_append, List.all_cons, h1, h2]; rfl
theorem cnt59 {p q : List Int} (h1 : Dig p) : ((p ++ 59 :: q).filter fun k => decide (k = 59)) = 59 :: q.filter fun k => decide (k = 59) := by
  rw [List.filter_append, h1.cnt, List.nil_append, List.filter_cons, if_pos (by decide)]
theorem decP_0 {q : List Int} (h : Dig q) (hl : q.length ≤ 3) : DecP q :=
  ⟨h.dec, by rw [areDec, h.dec, h.cnt]; rfl, .inl ⟨q, splitI_dig h.ne, hl⟩, by omega⟩
theorem decP_1 {q : List Int} (h0 : 0 ≤ a) (h1 : a ≤ 999) (h : Dig q) (hl : q.length ≤ 3) : DecP (decI a ++ 59 :: q) := by
  have hd := decI_dig h0
  have hs : splitI (decI a ++ 59 :: q) = [decI a, q] := by rw [splitI_cons hd.ne, splitI_dig h.ne]
  have ha := all59 hd.dec h.dec
  have := decI_le3 a
  exact ⟨ha, by rw [areDec, ha, cnt59 hd, h.cnt]; rfl, .inr (.inl ⟨decI a, a, q, hs, numOf_decI h0 h1, decI_le3 a, hl⟩), by simp only [List.length_append, List.length_cons]; omega⟩
theorem decP_2 {q : List Int} (h0 : 0 ≤ a) (h1 : a ≤ 999) (g0 : 0 ≤ b) (g1 : b ≤ 999) (h : Dig q) (hl : q.length ≤ 3) : DecP (decI a ++ 59 :: (decI b ++ 59 :: q)) := by
  have hd := decI_dig h0
  have hg := decI_dig g0
  have hs : splitI (decI a ++ 59 :: (decI b ++ 59 :: q)) = [decI a, decI b, q] := by rw [splitI_cons hd.ne, splitI_cons hg.ne, splitI_dig h.ne]
  have ha := all59 hd.dec (all59 hg.dec h.dec)
  have := decI_le3 a
  have := decI_le3 b
  exact ⟨ha, by rw [areDec, ha, cnt59 hd, cnt59 hg, h.cnt]; rfl, .inr (.inr ⟨decI a, a, decI b, b, q, hs, numOf_decI h0 h1, numOf_decI g0 g1, decI_le3 a, decI_le3 b, hl⟩), by simp only [List.length_append, List.length_cons]; omega⟩
theorem decP_pre {q s : List Int} (h0 : 0 ≤ a) (h1 : a ≤ 999) (g0 : 0 ≤ b) (g1 : b ≤ 999) (k0 : 0 ≤ c) (e : decM a b c = q ++ s) : DecP q := by
  have le : ∀ {x : Int} {p r : List Int}, decI x = p ++ r → p.length ≤ 3 := fun {x p r} e => by
    have := decI_le3 x
    rw [e, List.length_append] at this
    omega
  rcases pre_split e with ⟨t, e1, _⟩ | ⟨t, rfl, e1⟩
  · exact decP_0 (dig_pre (decI_dig h0) e1) (le e1)
  cases t with
  | nil => rw [List.append_nil]; exact decP_0 (decI_dig h0) (decI_le3 a)
  | cons x t =>
    obtain ⟨rfl, e1'⟩ := List.cons.inj e1
    rcases pre_split e1' with ⟨t2, e2, _⟩ | ⟨t2, rfl, e2⟩
    · exact decP_1 h0 h1 (dig_pre (decI_dig g0) e2) (le e2)
    cases t2 with
    | nil => rw [List.append_nil]; exact decP_1 h0 h1 (decI_dig g0) (decI_le3 b)
    | cons x t2 =>
      obtain ⟨rfl, e2'⟩ := List.cons.inj e2
      exact decP_2 h0 h1 g0 g1 (dig_pre (decI_dig k0) e2') (le e2')
end
theorem takeW_all : ∀ {q : List Int}, q.all isDec = true → q.takeWhile isDec = q
  | [], _ => rfl
  | k :: r, h => by
    rw [List.all_cons, Bool.and_eq_true] at h
    rw [List.takeWhile_cons, if_pos h.1, takeW_all h.2]
theorem takeW_stop {t : Int} (ht : isDec t = false) : ∀ {q : List Int}, q.all isDec = true → (q ++ [t]).takeWhile isDec = q
  | [], _ => by rw [List.nil_append, List.takeWhile_cons, ht]; rfl
  | k :: r, h => by
    rw [List.all_cons, Bool.and_eq_true] at h
    rw [List.cons_append, List.takeWhile_cons, if_pos h.1, takeW_stop ht h.2]
theorem decSp_at {H q : List Int} : decSp (H ++ q) H.length = q.takeWhile isDec := by
  unfold decSp
  rw [Int.toNat_natCast, List.drop_left']
  rfl
theorem decAt_none {H q : List Int} (h : DecP q) : decAt (H ++ q) H.length = none := by
  have hs : decSp (H ++ q) H.length = q := decSp_at.trans (takeW_all h.all)
  rcases h.good with ⟨P, e, _⟩ | ⟨P, x, Q, e, _⟩ | ⟨P, x, Q, y, R, e, _⟩
  · exact decAt_1 (by rw [hs]; exact e)
  · exact decAt_2 (by rw [hs]; exact e)
  · exact decAt_b (by rw [hs]; exact e) (by rw [hs, List.length_append]; omega)
section
variable {u : Bool} {q : List Int}
theorem beg_s (h : DecP q) : Beg u ([27, 91, 60] ++ q) := by
  have ht : ([27, 91, 60] ++ q).take 3 = [27, 91, 60] := rfl
  have hl := h.len
  have hs : decSp ([27, 91, 60] ++ q) 3 = q := (decSp_at (H := [27, 91, 60])).trans (takeW_all h.all)
  have hn : decAt ([27, 91, 60] ++ q) 3 = none := decAt_none (H := [27, 91, 60]) h
  refine ⟨⟨by simp; omega, fun _ => ⟨fun _ => by rw [hs]; exact h.good, fun x => absurd ht x⟩⟩, by simp; omega, ?_, ?_, ?_⟩
  · exact (rdMouse_s (by rw [ht]; decide) ht).trans (rdS_a hn)
  · unfold rdFocus; rw [ht]; rfl
  · unfold begun
    rw [ht, if_neg (by simp), if_neg (by simp), if_pos rfl]
    exact h.are
theorem beg_u {k : Int} (hk : 48 ≤ k ∧ k ≤ 57) (h : DecP (k :: q)) : Beg u ([27, 91] ++ k :: q) := by
  have ht : ([27, 91] ++ k :: q).take 3 = [27, 91, k] := rfl
  have hl := h.len
  rw [List.length_cons] at hl
  have hs : decSp ([27, 91] ++ k :: q) 2 = k :: q := (decSp_at (H := [27, 91])).trans (takeW_all h.all)
  have hn : decAt ([27, 91] ++ k :: q) 2 = none := decAt_none (H := [27, 91]) h
  have n1 : ¬ ([27, 91, k] : List Int) = [27, 91, 77] := by simp; omega
  have n2 : ¬ ([27, 91, k] : List Int) = [27, 91, 60] := by simp; omega
  have n3 : ¬ ([27, 91, k] : List Int) = [27, 91, 73] := by simp; omega
  have n4 : ¬ ([27, 91, k] : List Int) = [27, 91, 79] := by simp; omega
  refine ⟨⟨by simp; omega, fun _ => ⟨fun x => absurd x (by rw [ht]; exact n2), fun _ _ => by rw [hs]; exact h.good⟩⟩, by simp; omega, ?_, ?_, ?_⟩
  · exact (rdMouse_u (by rw [ht]; exact n1) (by rw [ht]; exact n2) rfl).trans (rdU_a hn)
  · unfold rdFocus; rw [ht, if_neg n3, if_neg n4]
  · unfold begun
    rw [ht, if_pos (.inr fun x => x.elim (fun y => n1 y.symm) fun y => n2 y.symm)]
    show (true && areDec (k :: q)) = true
    rw [h.are]; rfl
end
section
variable {u : Bool} {a b c t : Int}
theorem decM_split (h0 : 0 ≤ a) (g0 : 0 ≤ b) (k0 : 0 ≤ c) : splitI (decM a b c) = [decI a, decI b, decI c] := by
  unfold decM
  rw [splitI_cons (decI_dig h0).ne, splitI_cons (decI_dig g0).ne, splitI_dig (decI_dig k0).ne]
theorem decM_P (h0 : 0 ≤ a) (h1 : a ≤ 999) (g0 : 0 ≤ b) (g1 : b ≤ 999) (k0 : 0 ≤ c) : DecP (decM a b c) := decP_pre (s := []) h0 h1 g0 g1 k0 (List.append_nil _).symm
theorem decSp_whole {H : List Int} (ht : isDec t = false) (hp : DecP (decM a b c)) : decSp (H ++ (decM a b c ++ [t])) H.length = decM a b c := decSp_at.trans (takeW_stop ht hp.all)
theorem decAt_whole {H : List Int} (ht : isDec t = false) (h0 : 0 ≤ a) (h1 : a ≤ 999) (g0 : 0 ≤ b) (g1 : b ≤ 999) (k0 : 0 ≤ c) (k1 : c ≤ 999) :
    decAt (H ++ (decM a b c ++ [t])) H.length = some ((a, b, c), t, ((H ++ (decM a b c ++ [t])).length : Int)) := by
  have hs := decSp_whole (H := H) ht (decM_P h0 h1 g0 g1 k0)
  have hlen : (((H ++ (decM a b c ++ [t])).length : Nat) : Int) = ((H ++ decM a b c).length : Nat) + 1 := by
    simp only [List.length_append, List.length_cons, List.length_nil]; omega
  have e := decAt_c (ks := H ++ (decM a b c ++ [t])) (i := H.length) (n := ((H ++ decM a b c).length : Nat)) (by rw [hs]; exact decM_split h0 g0 k0) (numOf_decI h0 h1) (numOf_decI g0 g1) (numOf_decI k0 k1) (by omega) (by rw [hs, app_len])
  rw [e, hlen]
  have : (H ++ (decM a b c ++ [t])).getD (((H ++ decM a b c).length : Nat) : Int).toNat 0 = t := by
    rw [← List.append_assoc]; exact getD_pre
  rw [this]
theorem whole_s {e : Ev} (htt : t = 77 ∨ t = 109) (h0 : 0 ≤ a) (h1 : a ≤ 999) (g0 : 0 ≤ b) (g1 : b ≤ 999) (k0 : 0 ≤ c) (k1 : c ≤ 999) (he : evOf a b c (some (t == 109)) = some e) : Whole u ([27, 91, 60] ++ (decM a b c ++ [t])) (.ev e) := by
  have ht : isDec t = false := by rcases htt with rfl | rfl <;> rfl
  have hp := decM_P h0 h1 g0 g1 k0
  have h3 : ([27, 91, 60] ++ (decM a b c ++ [t])).take 3 = [27, 91, 60] := rfl
  have hl := hp.len
  have hs : decSp ([27, 91, 60] ++ (decM a b c ++ [t])) 3 = decM a b c := decSp_whole (H := [27, 91, 60]) ht hp
  have hd := decAt_whole (H := [27, 91, 60]) ht h0 h1 g0 g1 k0 k1
  refine ⟨⟨by simp; omega, fun _ => ⟨fun _ => by rw [hs]; exact hp.good, fun x => absurd h3 x⟩⟩, by simp; omega, ?_, ?_⟩
  · exact (rdMouse_s (by rw [h3]; decide) h3).trans (rdS_d hd htt he)
  · unfold rdFocus; rw [h3]; rfl
theorem decM_head (h0 : 0 ≤ a) : ∃ k q, decM a b c = k :: q ∧ 48 ≤ k ∧ k ≤ 57 := by
  have hd := decI_dig h0
  have hn := decI_ne a
  unfold decM
  cases e : decI a with
  | nil => exact absurd e hn
  | cons k q => exact ⟨k, _, rfl, hd k (by rw [e]; exact .head _)⟩
theorem whole_u {e : Ev} (h0 : 32 ≤ a) (h1 : a ≤ 999) (g0 : 0 ≤ b) (g1 : b ≤ 999) (k0 : 0 ≤ c) (k1 : c ≤ 999) (he : evOf (a - 32) b c none = some e) : Whole u ([27, 91] ++ (decM a b c ++ [77])) (.ev e) := by
  have h00 : 0 ≤ a := by omega
  have hp := decM_P h00 h1 g0 g1 k0
  have hl := hp.len
  have hs : decSp ([27, 91] ++ (decM a b c ++ [77])) 2 = decM a b c := decSp_whole (H := [27, 91]) rfl hp
  have hd := decAt_whole (H := [27, 91]) (t := 77) rfl h00 h1 g0 g1 k0 k1
  obtain ⟨k, q, ek, hk⟩ := decM_head (b := b) (c := c) h00
  have h3 : ([27, 91] ++ (decM a b c ++ [77])).take 3 = [27, 91, k] := by rw [ek]; rfl
  have n1 : ¬ ([27, 91, k] : List Int) = [27, 91, 77] := by simp; omega
  have n2 : ¬ ([27, 91, k] : List Int) = [27, 91, 60] := by simp; omega
  have n3 : ¬ ([27, 91, k] : List Int) = [27, 91, 73] := by simp; omega
  have n4 : ¬ ([27, 91, k] : List Int) = [27, 91, 79] := by simp; omega
  refine ⟨⟨by simp; omega, fun _ => ⟨fun x => absurd x (by rw [h3]; exact n2), fun _ _ => by rw [hs]; exact hp.good⟩⟩, by simp; omega, ?_, ?_⟩
  · exact (rdMouse_u (by rw [h3]; exact n1) (by rw [h3]; exact n2) rfl).trans (rdU_e hd rfl (by omega) he)
  · unfold rdFocus; rw [h3, if_neg n3, if_neg n4]
theorem runs_s {e : Ev} {f : List LD} (htt : t = 77 ∨ t = 109) (h0 : 0 ≤ a) (h1 : a ≤ 999) (g0 : 0 ≤ b) (g1 : b ≤ 999) (k0 : 0 ≤ c) (k1 : c ≤ 999) (he : evOf a b c (some (t == 109)) = some e) : Runs u f [] ([27, 91, 60] ++ (decM a b c ++ [t])) (f ++ [.ev e]) [] := by
  refine runs_of (by simp) (fun p s ep hp hs => ?_) (whole_s htt h0 h1 g0 g1 k0 k1 he)
  rcases pre_split ep with ⟨x, e1, e2⟩ | ⟨x, rfl, e2⟩
  · rcases head_pre e1 hp with rfl | rfl | ⟨rfl, rfl⟩
    · exact beg_1 u
    · exact beg_2 u
    · exact beg_s (q := []) (decP_0 (fun k hk => nomatch hk) (by decide))
  rcases pre_split e2 with ⟨y, e3, _⟩ | ⟨y, rfl, e3⟩
  · exact beg_s (decP_pre h0 h1 g0 g1 k0 e3)
  · cases y with
    | nil => rw [List.append_nil]; exact beg_s (decM_P h0 h1 g0 g1 k0)
    | cons z y =>
      have := congrArg List.length e3
      simp only [List.length_cons, List.length_append, List.length_nil] at this
      exact absurd (List.eq_nil_of_length_eq_zero (by omega)) hs
theorem beg_u' {q : List Int} (h0 : 0 ≤ a) (hq : q ≠ []) (h : DecP q) {s : List Int} (e : decM a b c = q ++ s) : Beg u ([27, 91] ++ q) := by
  obtain ⟨k, r, ek, hk⟩ := decM_head (b := b) (c := c) h0
  cases q with
  | nil => exact absurd rfl hq
  | cons x q =>
    rw [ek] at e
    obtain ⟨rfl, _⟩ := List.cons.inj e
    exact beg_u hk h
theorem runs_u {e : Ev} {f : List LD} (h0 : 32 ≤ a) (h1 : a ≤ 999) (g0 : 0 ≤ b) (g1 : b ≤ 999) (k0 : 0 ≤ c) (k1 : c ≤ 999) (he : evOf (a - 32) b c none = some e) : Runs u f [] ([27, 91] ++ (decM a b c ++ [77])) (f ++ [.ev e]) [] := by
  have h00 : 0 ≤ a := by omega
  refine runs_of (by simp) (fun p s ep hp hs => ?_) (whole_u h0 h1 g0 g1 k0 k1 he)
  rcases pre_split ep with ⟨x, e1, e2⟩ | ⟨x, rfl, e2⟩
  · rcases p with _ | ⟨z, _ | ⟨y, _ | ⟨v, r⟩⟩⟩
    · exact absurd rfl hp
    · cases e1; exact beg_1 u
    · cases e1; exact beg_2 u
    · cases e1
  by_cases hx : x = []
  · rw [hx, List.append_nil]; exact beg_2 u
  rcases pre_split e2 with ⟨y, e3, _⟩ | ⟨y, rfl, e3⟩
  · exact beg_u' h00 hx (decP_pre h00 h1 g0 g1 k0 e3) e3
  · cases y with
    | nil => rw [List.append_nil] at hx ⊢; exact beg_u' h00 hx (decM_P h00 h1 g0 g1 k0) (List.append_nil _).symm
    | cons z y =>
      have := congrArg List.length e3
      simp only [List.length_cons, List.length_append, List.length_nil] at this
      exact absurd (List.eq_nil_of_length_eq_zero (by omega)) hs
end
-- ### the numbers name the events
noncomputable def numB (b : Int) (mv : Bool) (m : Int) : Int := (if b = 0 then 3 else if b < 4 then b - 1 else if b ≤ 7 then 64 + b - 4 else 128 + b - 7 - 1) + (if mv = true then 32 else 0) + 4 * bitAnd m 7
theorem num_fin0 : ∀ b : Fin 12, ∀ m : Fin 8, ∀ mv : Bool, (1 ≤ b.val ∨ mv = true) → (mv = true → b.val ≤ 3) →
    mbtn (numB (b.val : Int) mv (m.val : Int)) = some (b.val : Int) ∧ (bitAnd (numB (b.val : Int) mv (m.val : Int)) 32 ≠ 0 ↔ mv = true) ∧ (bitAnd (numB (b.val : Int) mv (m.val : Int)) 28).fdiv 4 = m.val ∧ 0 ≤ numB (b.val : Int) mv (m.val : Int) ∧ numB (b.val : Int) mv (m.val : Int) ≤ 191 := by decide +kernel
theorem num_fin {b m : Int} {mv : Bool} (b0 : 0 ≤ b) (b1 : b ≤ 11) (m0 : 0 ≤ m) (m1 : m ≤ 7) (h : 1 ≤ b ∨ mv = true) (h' : mv = true → b ≤ 3) :
    mbtn (numB b mv m) = some b ∧ (bitAnd (numB b mv m) 32 ≠ 0 ↔ mv = true) ∧ (bitAnd (numB b mv m) 28).fdiv 4 = m ∧ 0 ≤ numB b mv m ∧ numB b mv m ≤ 191 := by
  have := num_fin0 ⟨b.toNat, by omega⟩ ⟨m.toNat, by omega⟩ mv (h.imp (fun x => by show 1 ≤ b.toNat; omega) id) (fun x => by have := h' x; show b.toNat ≤ 3; omega)
  dsimp only at this
  rwa [Int.toNat_of_nonneg b0, Int.toNat_of_nonneg m0] at this
theorem num_fin1 : ∀ m : Fin 8, mbtn (3 + 0 + 4 * bitAnd (m.val : Int) 7) = some 0 ∧ bitAnd (3 + 0 + 4 * bitAnd (m.val : Int) 7) 32 = 0 ∧ (bitAnd (3 + 0 + 4 * bitAnd (m.val : Int) 7) 28).fdiv 4 = m.val ∧ 0 ≤ 3 + 0 + 4 * bitAnd (m.val : Int) 7 ∧ 3 + 0 + 4 * bitAnd (m.val : Int) 7 ≤ 191 := by decide +kernel
theorem num_fin2 {m : Int} (m0 : 0 ≤ m) (m1 : m ≤ 7) : mbtn (3 + 0 + 4 * bitAnd m 7) = some 0 ∧ bitAnd (3 + 0 + 4 * bitAnd m 7) 32 = 0 ∧ (bitAnd (3 + 0 + 4 * bitAnd m 7) 28).fdiv 4 = m ∧ 0 ≤ 3 + 0 + 4 * bitAnd m 7 ∧ 3 + 0 + 4 * bitAnd m 7 ≤ 191 := by
  have := num_fin1 ⟨m.toNat, by omega⟩
  dsimp only at this
  rwa [Int.toNat_of_nonneg m0] at this
theorem rel_ne_press : Str.ofString "press" ≠ Str.ofString "release" := by decide
theorem rel_ne_move : Str.ofString "move" ≠ Str.ofString "release" := by decide
theorem press_ne_move : Str.ofString "press" ≠ Str.ofString "move" := by decide
theorem fdiv1 (x : Int) : (x + 1 - 1).fdiv 1 = x := by rw [Int.fdiv_eq_ediv_of_nonneg _ (by decide), Int.ediv_one]; omega
theorem num_ev {k : Str} {bt r c md : Int} {nr : Bool} {rel : Option Bool} (ok : EvOk ⟨k, bt, r, c, md⟩) (hr : k = Str.ofString "release" → nr = true ∧ rel = some true ∨ nr = false ∧ rel = none)
    (hp : k = Str.ofString "press" → rel ≠ some true) :
    evOf (mnum k bt md nr) (c + 1) (r + 1) rel = some (if k = Str.ofString "release" ∧ nr = false then ⟨k, 0, r, c, md⟩ else ⟨k, bt, r, c, md⟩) ∧ 0 ≤ mnum k bt md nr ∧ mnum k bt md nr ≤ 191 := by
  obtain ⟨_, b0, b1, m0, m1, kk, r0, r1, c0, c1, mv, rl, pr⟩ := ok
  dsimp only at b0 b1 m0 m1 kk r0 r1 c0 c1 mv rl pr
  have hc : ¬ c + 1 < 1 := by omega
  have hrr : ¬ r + 1 < 1 := by omega
  by_cases hrel : k = Str.ofString "release" ∧ nr = false
  · obtain ⟨rfl, rfl⟩ := hrel
    have hre : rel = none := (hr rfl).elim (fun x => nomatch x.1) fun x => x.2
    subst hre
    obtain ⟨h1, h2, h3, h4, h5⟩ := num_fin2 m0 m1
    have e : mnum (Str.ofString "release") bt md false = 3 + 0 + 4 * bitAnd md 7 := by
      rw [mnum, nbase, if_pos (.inr ⟨rfl, rfl⟩), if_neg (by decide)]
    rw [e, if_pos ⟨rfl, rfl⟩, evOf_r h1 hc hrr h2 (.inr ⟨rfl, rfl⟩), fdiv1, fdiv1, h3]
    exact ⟨rfl, h4, h5⟩
  · have hmv : ∀ mvv : Bool, (mvv = true ↔ k = Str.ofString "move") → mnum k bt md nr = numB bt mvv md := fun mvv hm => by
      rw [mnum, nbase, numB]
      congr 1
      congr 1
      · by_cases hb : bt = 0
        · rw [if_pos (.inl hb), if_pos hb]
        · rw [if_neg (fun x => x.elim hb hrel), if_neg hb]
      · by_cases hk : k = Str.ofString "move"
        · rw [if_pos hk, if_pos (hm.mpr hk)]
        · rw [if_neg hk, if_neg (fun x => hk (hm.mp x))]
    rw [if_neg hrel]
    by_cases hm : k = Str.ofString "move"
    · have h := num_fin (mv := true) b0 b1 m0 m1 (.inr rfl) (fun _ => mv hm)
      rw [← hmv true ⟨fun _ => hm, fun _ => rfl⟩] at h
      obtain ⟨h1, h2, h3, h4, h5⟩ := h
      refine ⟨?_, h4, h5⟩
      rw [evOf_m h1 hc hrr (h2.mpr rfl), fdiv1, fdiv1, h3, hm]
    · have hb : 1 ≤ bt := by rcases kk with h | h | h; exact pr h; exact (rl h).1; exact absurd h hm
      have h := num_fin (mv := false) b0 b1 m0 m1 (.inl hb) (fun x => nomatch x)
      rw [← hmv false ⟨fun x => (nomatch x), fun x => absurd x hm⟩] at h
      obtain ⟨h1, h2, h3, h4, h5⟩ := h
      have h2' : bitAnd (mnum k bt md nr) 32 = 0 := Classical.byContradiction fun x => nomatch h2.mp x
      refine ⟨?_, h4, h5⟩
      rcases kk with h | h | h
      · subst h
        have := hp rfl
        rw [evOf_p h1 hc hrr h2' (fun x => x.elim this fun y => by omega) (by omega), fdiv1, fdiv1, h3]
      · subst h
        rcases hr rfl with ⟨_, hre⟩ | ⟨hnr, _⟩
        · rw [evOf_r h1 hc hrr h2' (.inl hre), fdiv1, fdiv1, h3]
        · exact absurd ⟨rfl, hnr⟩ hrel
      · exact absurd h hm
theorem ev_plain {k : Str} {bt r c md : Int} {y : Nat} (hy : y ≠ 2) (ok : EvOk ⟨k, bt, r, c, md⟩) :
    evOf (mnum k bt md false) (c + 1) (r + 1) none = some (namedEv y ⟨k, bt, r, c, md⟩) ∧ 0 ≤ mnum k bt md false ∧ mnum k bt md false ≤ 191 := by
  have h := num_ev (nr := false) (rel := none) ok (fun _ => .inr ⟨rfl, rfl⟩) (fun _ => by simp)
  refine ⟨h.1.trans ?_, h.2⟩
  unfold namedEv
  by_cases hk : k = Str.ofString "release"
  · rw [if_pos ⟨hk, rfl⟩, if_pos ⟨hk, hy⟩]
  · rw [if_neg (fun x => hk x.1), if_neg (fun x => hk x.1)]
theorem ev_sgr {k : Str} {bt r c md : Int} (ok : EvOk ⟨k, bt, r, c, md⟩) :
    evOf (mnum k bt md true) (c + 1) (r + 1) (some ((if k = Str.ofString "release" then (109 : Int) else 77) == 109)) = some (namedEv 2 ⟨k, bt, r, c, md⟩) ∧ 0 ≤ mnum k bt md true ∧ mnum k bt md true ≤ 191 := by
  have h := num_ev (nr := true) (rel := some ((if k = Str.ofString "release" then (109 : Int) else 77) == 109)) ok (fun hk => .inl ⟨rfl, by rw [if_pos hk]; rfl⟩) (fun hk => by rw [if_neg (by rw [hk]; exact rel_ne_press)]; decide)
  refine ⟨h.1.trans ?_, h.2⟩
  unfold namedEv
  rw [if_neg (fun x => nomatch x.2), if_neg (fun x => x.2 rfl)]
theorem runs_ev {y : Nat} (hy : y < 4) {e : Ev} (ok : EvOk e) {f : List LD} : Runs (y == 1) f [] (msgI y e) (f ++ [.ev (namedEv y e)]) [] := by
  obtain ⟨k, bt, r, c, md⟩ := e
  have hr0 := ok.r0
  have hr1 := ok.r1
  have hc0 := ok.c0
  have hc1 := ok.c1
  dsimp only at hr0 hr1 hc0 hc1
  have i32 : ∀ x : Int, x + 32 - 32 = x := fun x => by omega
  rcases lt_four hy with rfl | rfl | rfl | rfl
  · obtain ⟨h, g0, g1⟩ := ev_plain (y := 0) (by decide) ok
    exact runs_plain (u := false) (a := mnum k bt md false + 32) (b := c + 1 + 32) (c := r + 1 + 32) (by omega) (by omega) (by omega) (by omega) (by omega) (by omega) (by rw [i32, i32, i32]; exact h)
  · obtain ⟨h, g0, g1⟩ := ev_plain (y := 1) (by decide) ok
    have e : msgI 1 ⟨k, bt, r, c, md⟩ = plainM true (mnum k bt md false + 32) (c + 1 + 32) (r + 1 + 32) := by
      show [27, 91, 77] ++ (codeI (mnum k bt md false + 32) ++ codeI (c + 1 + 32) ++ codeI (r + 1 + 32)) = _
      rw [plainM, cI, cI, cI, if_pos rfl, if_pos rfl, if_pos rfl, List.append_assoc]
    rw [e]
    exact runs_plain (u := true) (by omega) (by omega) (by omega) (by omega) (by omega) (by omega) (by rw [i32, i32, i32]; exact h)
  · obtain ⟨h, g0, g1⟩ := ev_sgr ok
    have e : msgI 2 ⟨k, bt, r, c, md⟩ = [27, 91, 60] ++ (decM (mnum k bt md true) (c + 1) (r + 1) ++ [if k = Str.ofString "release" then 109 else 77]) := by
      show [27, 91, 60] ++ (decI (mnum k bt md true) ++ [59] ++ decI (c + 1) ++ [59] ++ decI (r + 1)) ++ [if k = Str.ofString "release" then 109 else 77] = _
      simp [decM]
    rw [e]
    exact runs_s (by split <;> simp) g0 (by omega) (by omega) (by omega) (by omega) (by omega) h
  · obtain ⟨h, g0, g1⟩ := ev_plain (y := 3) (by decide) ok
    have e : msgI 3 ⟨k, bt, r, c, md⟩ = [27, 91] ++ (decM (mnum k bt md false + 32) (c + 1) (r + 1) ++ [77]) := by
      show [27, 91] ++ (decI (mnum k bt md false + 32) ++ [59] ++ decI (c + 1) ++ [59] ++ decI (r + 1)) ++ [77] = _
      simp [decM]
    rw [e]
    exact runs_u (by omega) (by omega) (by omega) (by omega) (by omega) (by omega) (by rw [i32]; exact h)
theorem Runs.nil {u : Bool} {f : List LD} {l : List Int} : Runs u f l [] f l := ⟨rfl, rfl⟩
theorem runs_row {y : Nat} (hy : y < 4) {a b c e : Int} (ha : 0 ≤ a) {f : List LD} : Runs (y == 1) f [] (rowOct y a b c e) (f ++ rowDue y a b c e) [] := by
  have h1 := runs_ev hy (evOk_of (b := b) (c := c) (e := e) ha) (f := f)
  unfold rowOct rowDue
  by_cases p0 : pickOf a = 0
  · rw [if_pos p0, if_pos p0]
    have := h1.app (runs_focus (y == 1) (whole_focus (y == 1)).1)
    simpa using this
  · rw [if_neg p0, if_neg p0]
    by_cases p1 : pickOf a = 1
    · rw [if_pos p1, if_pos p1]
      have := h1.app (runs_focus (y == 1) (whole_focus (y == 1)).2)
      simpa using this
    · rw [if_neg p1, if_neg p1, List.append_nil]
      exact h1
theorem runs_all {y : Nat} (hy : y < 4) {cs : List Int} (h : ∀ x ∈ cs, 0 ≤ x) : ∀ i, Runs (y == 1) [] [] (octN y cs i) (dueN y cs i) []
  | 0 => .nil
  | i + 1 => by
    refine (runs_all hy h i).app (runs_row hy ?_)
    rw [List.getD_eq_getElem?_getD]
    cases hx : cs[4 * i]? with
    | none => exact Int.le_refl _
    | some v => exact h v (List.mem_of_getElem? hx)
theorem row_run {y : Nat} (hy : y < 4) {cs : List Int} (h : ∀ x ∈ cs, 0 ≤ x) (i : Nat) : ∃ st : Nat → List LD × List Int, st 0 = ([], []) ∧ (∀ j n, (octN y cs i)[j]? = some n → LStep (y == 1) (st j).1 (st j).2 n (st (j + 1)).1 (st (j + 1)).2) ∧ st (octN y cs i).length = (dueN y cs i, []) := (runs_all hy h i).st


-- row
theorem rows_row : True := by
  w_top off
  k_with_none
  k_with "kba_ints2" => first | kba_ints | (apply ints_lit; (simp only [List.map_cons, List.map_nil, UInt8.reduceToNat, Int.cast_ofNat_Int]); (try exact rfl))
  k_with "compareOp Eq bytes bytes" => (k_here; (with_reducible show wpAny _ _ (compareOp CmpOp.Eq (Value.bytes _ _) (Value.bytes _ _)) _ _ _); (first | refine eq_ints_T (by kba_ints2) (by kba_ints2) (by assumption) ?_ | refine eq_ints_F (by kba_ints2) (by kba_ints2) (by assumption) ?_ | refine eq_ints (by kba_ints2) (by kba_ints2) ?_))
  k_with "compareOp NotEq bytes bytes" => (k_here; (with_reducible show wpAny _ _ (compareOp CmpOp.NotEq (Value.bytes _ _) (Value.bytes _ _)) _ _ _); (refine ne_ints (by kba_ints2) (by kba_ints2) ?_))
  k_with "compareOp NotIn bytes ref" => (k_here; (with_reducible show wpAny _ _ (compareOp CmpOp.NotIn (Value.bytes _ _) (Value.ref _)) _ _ _); (refine notIn_two (by k_asm) (by k_mem) (by kba_ints2) (by kba_ints2) (by kba_ints2) ?_))
  k_with "subscriptTail" => (k_here; (with_reducible show wpAny _ _ (subscriptTail _ (Expr.Slice _ _ none _) (Value.bytes _ _) (Value.ref _)) _ _ _); (with_reducible rename Fr _ _ _ _ => F'); (with_reducible rename News _ _ _ _ => N'); (refine slice_C (s := ⟨_, _, _, _, _⟩) F' N' (by kba_ints2) (by constructor) (by constructor) (by kba_size) (by intro i hi; simp at hi; try (subst hi; omega)) (by intro i hi; simp at hi; try (subst hi; omega)) (by first | exact cut_z3 | exact cut_z2 | exact cut_z | exact cut_mid3 (by omega) | exact cut_mid2 (by omega) | exact cut_lit3 | exact cut_lit2 | exact cut_lit3' | exact cut_lit2' | exact cut_two | exact cut_tail | exact cut_head') ?_); intro _ _ _ _ _ _ kbcK; (try simp only [Int.toNat_zero, Int.toNat_ofNat, List.drop_zero] at kbcK))
  k_with "ktr_room" => first | exact room9 (by assumption) rfl | exact Nat.lt_of_le_of_lt (Nat.le_add_right _ _) (by assumption)
  k_with "ktr_units" => exact units9 (by assumption) rfl
  k_with "getMethod bytes" => (k_here; first | refine meth_starts ?_ | refine meth_split ?_ | refine meth_join ?_)
  k_with "call builtin:bytes.startswith" => (k_here; first | refine call_starts_T (by kba_ints2) (by kba_ints2) (by assumption) ?_ | refine call_starts_F (by kba_ints2) (by kba_ints2) (by assumption) ?_ | refine call_starts_I (by kba_ints2) (by kba_ints2) ?_)
  k_with "CompEnd" => (refine LCg.CompEnd.intro (by assumption) (by assumption) _ (fun _ h => h) (by assumption) (by exact Or.inr ⟨_, by k_mem, rfl, _, rfl⟩) ?_)
  k_with "call type:bytes" => (k_here; (with_reducible show wpAny _ _ (call (Value.type "bytes") [Value.ref _]) _ _ _); (refine' KBa.make_K ?kbaF ?kbaN ?kbah ?kbal ?kbai ?kbar ?kban ?_; (case kbaF => k_asm); (case kbaN => k_asm); (case kbah => rfl); (case kbal => kba_isList); (case kbai => kba_listInts); (case kbar => (repeat' (first | exact List.forall_mem_nil _ | (refine List.forall_mem_cons.mpr ⟨⟨?_, ?_⟩, ?_⟩) | omega | (simp only [fd10, fm10]; omega)))); (case kban => kba_size)); intro _ _ _ F' N' kbaIn; (have kbaM := KBa.ints_make kbaIn))
  k_with "cell_enter" => (refine' code_defC ?k1 ?k2 ?k3 ?k4 ?k5 ?kA ?kF ?kK ?k6 ?k7 ?k8 ?k9 ?kB ?kD ?_ ?c2 ?c3 ?c4; (case kA => exact rfl); (case kF => exact rfl); (case kK => first | exact rfl | assumption); (case k1 => k_asm); (case k2 => k_asm); (case k3 => k_asm); (case k4 => k_asm); (case k5 => k_asm); (case k6 => k_is); (case k7 => k_is); (case k8 => ktr_room); (case k9 => first | exact BindsTo.of_eq rfl | exact binds_K (by k_in) rfl (by k_is) rfl rfl rfl); (case kB => exact rfl); (case kD => decide +kernel); (case c2 => exact rfl); (case c3 => exact rfl); (case c4 => exact rfl); k_whole; intro g' L' h' tk' cells' FG' F' N' Y' B' X' T' l1; (try k_lt l1); k_cells Y'; (try simp only [List.cons_append, List.nil_append] at N'); (try dsimp only); (try k_lift B'); (try k_fold))
  k_with "call builtin:bytes.join" => (k_here; refine call_join_I (by k_asm) (by k_mem) rfl rfl (by kba_ints2) (by kba_ints2) (by kba_ints2) (by kba_ints2) (by first | assumption | decide) (by first | assumption | decide) (by first | assumption | decide) (by first | assumption | decide) ?_; intro _ _ _ kbJ; (try simp only [List.append_nil] at kbJ))
  k_with "units_room" => exact room_deep (by omega)
  k_with "cell_enter" => (refine' code_def ?k1 ?k2 ?k3 ?k4 ?k5 ?kA ?kF ?kK ?k6 ?k7 ?k8 ?k9 ?kB ?_ ?c2 ?c3 ?c4 ?c5; (case kA => exact rfl); (case kF => exact rfl); (case kK => first | exact rfl | assumption); (case k1 => k_asm); (case k2 => k_asm); (case k3 => k_asm); (case k4 => k_asm); (case k5 => k_asm); (case k6 => k_is); (case k7 => k_is); (case k8 => ktr_room); (case k9 => exact binds_K (by k_in) rfl (by k_is) rfl rfl rfl); (case c5 => decide); (case kB => exact locs rfl); (case c2 => exact rfl); (case c3 => exact rfl); (case c4 => exact rfl); k_whole; intro g' L' h' FG' F' N' B' X' T'; (try dsimp only); (try k_fold))
  k_with "con" => (k_here; (with_reducible show wpAny _ _ (call (Value.ref 59) [Value.ref _, Value.str _ _]) _ _ _); k_dflt (
    refine' Con.useV ?cC ?cB ?cF ?cX ?cN ?cT ?cK ?cD ?cU ?_
    (case cB => k_asm); (case cF => k_asm); (case cX => k_asm); (case cN => k_asm); (case cT => k_asm); (case cK => first | exact rfl | assumption | with_unfolding_all rfl)
    (case cC => (refine' Con.dup (os := [_, _, _]) (mem3 ?m1 ?m2 ?m3) (con_is_on _ _ _ _ _ _ _ _ _ _ _ _ ?s1 ?s2 ?s3 _); (case m1 => k_mem); (case m2 => k_mem); (case m3 => k_mem); (case s1 => assumption); (case s2 => assumption); (case s3 => assumption)))
    (case cD => ktr_room); (case cU => ktr_units)
    (intro t9 h' tk' F' N'; (try dsimp only); (try k_fold))))
  k_with "con" => (k_here; (with_reducible show wpAny _ _ (call (Value.ref 38) [Value.str (Str.ofString "mouse_all") _]) _ _ _); k_dflt (
    refine Con.useV (con_group_all _ _ _) (by k_asm) (by k_asm) (by k_asm) (by k_asm) (by k_asm) (by first | exact rfl | assumption) (by ktr_room) (by ktr_units) ?_
    (intro t9 h' tk' F' N'; (try dsimp only); (try k_fold))))
  k_with "con" => (k_here; (with_reducible show wpAny _ _ (call (Value.ref 38) [Value.str _ _]) _ _ _); k_dflt (
    refine Con.useV (con_group_way _ _ (by assumption) _ _) (by k_asm) (by k_asm) (by k_asm) (by k_asm) (by k_asm) (by first | exact rfl | assumption) (by ktr_room) (by ktr_units) ?_
    (intro t9 h' tk' F' N'; (try dsimp only); (try k_fold))))
  k_with "con" => (k_here; (with_reducible show wpAny _ _ (call (Value.ref 80) [Value.ref _]) _ _ _); k_dflt (
    refine' Con.useV ?cC ?cB ?cF ?cX ?cN ?cT ?cK ?cD ?cU ?_
    (case cB => k_asm); (case cF => k_asm); (case cX => k_asm); (case cN => k_asm); (case cT => k_asm); (case cK => first | exact rfl | assumption | with_unfolding_all rfl)
    (case cC => (refine' Con.dup (os := [_, _, _]) (mem3 ?m1 ?m2 ?m3) (con_modeW _ _ _ _ _ _ _ _ _ ?s1 _); (case m1 => k_mem); (case m2 => k_mem); (case m3 => k_mem); (case s1 => assumption)))
    (case cD => ktr_room); (case cU => ktr_units)
    (intro t9 h' tk' F' N'; (try dsimp only); (try k_fold))))
  k_with "con" => (k_here; (with_reducible show wpAny _ _ (call (Value.ref 87) [Value.ref _]) _ _ _); k_dflt (
    refine' Con.useV ?cC ?cB ?cF ?cX ?cN ?cT ?cK ?cD ?cU ?_
    (case cB => k_asm); (case cF => k_asm); (case cX => k_asm); (case cN => k_asm); (case cT => k_asm); (case cK => first | exact rfl | assumption | with_unfolding_all rfl)
    (case cC => (refine' Con.dup (os := [_, _, _]) (mem3 ?m1 ?m2 ?m3) (con_encW _ _ _ _ _ _ _ _ _ ?s1 _); (case m1 => k_mem); (case m2 => k_mem); (case m3 => k_mem); (case s1 => assumption)))
    (case cD => ktr_room); (case cU => ktr_units)
    (intro t9 h' tk' F' N'; (try dsimp only [wayV0, wayV1, wayV2, wayV3]); (try k_fold))))
  k_with "con" => (k_here; (with_reducible show wpAny _ _ (call (Value.ref 69) ([] ++ [])) _ _ _); k_dflt (
    refine Con.useM (con_modes _ _) (by k_asm) (by k_asm) (by k_asm) (by k_asm) (by k_asm) (by first | exact rfl | assumption) (by ktr_room) (by ktr_units) ?_
    (intro mo9 me9 st9 kp9 v20 v21 o9 D9 h' tk' lo9 g1 g2 l9 l8 hd9 hf9 hD9 F' N'; (try k_lt l9); (try k_lt l8); (try dsimp only); (try k_fold))))
  k_with "con" => (k_here; (with_reducible show wpAny _ _ (call (Value.ref 183) [Value.bytes _ _, Value.int _ _, Value.bool _]) _ _ _); k_dflt (
    refine Con.useP (con_code_at _ _ _ _ _ _ _ (by kba_ints2) (by first | assumption | omega | (simp; omega)) (by first | assumption | omega | (simp; omega)) _) (by k_asm) (by k_asm) (by k_asm) (by k_asm) (by k_asm) (by first | exact rfl | assumption) (by ktr_room) (by ktr_units) ?_ ?_
    (rotate_left; (intro v9 n9 D9 t9 t8 h' tk' hO9 l9 F' N'; (try k_lt l9); (try have f9 := code8_bd (by assumption) (by first | assumption | omega) hO9); (try dsimp only); (try k_fold)); rotate_left; (intro hO9 h' tk' F' N'; (try dsimp only); (try k_fold)))))
  k_with "con" => (k_here; (with_reducible show wpAny _ _ (call (Value.ref 137) [Value.int _ _]) _ _ _); k_dflt (
    refine Con.useI (con_button _ _ _ (by first | assumption | omega | (simp; omega)) (by first | assumption | omega | (simp; omega)) _) (by k_asm) (by k_asm) (by k_asm) (by k_asm) (by k_asm) (by first | exact rfl | assumption) (by ktr_room) (by ktr_units) ?_ ?_
    (rotate_left; (intro v9 t9 h' tk' hO9 F' N'; (try dsimp only); (try k_fold)); rotate_left; (intro hO9 h' tk' F' N'; (try dsimp only); (try k_fold)))))
  k_with "con" => (k_here; (with_reducible show wpAny _ _ (call (Value.ref 105) [Value.str _ _, Value.int _ _, Value.int _ _, Value.int _ _, Value.int _ _]) _ _ _); k_dflt (
    refine Con.useE (con_ev _ _ _ _ _ _ _ _ _ _ _ _) (by k_asm) (by k_asm) (by k_asm) (by k_asm) (by k_asm) (by first | exact rfl | assumption) (by ktr_room) (by ktr_units) (fun e9 => nomatch e9) ?_
    (intro k9 bt9 r9 c9 md9 x9 d9 t0 t1 t2 t3 t4 t5 t6 t7 t8 t9 h' tk' hO9 l9 l8 F' N'; cases hO9; (try k_lt l9); (try k_lt2 l8); (try dsimp only); (try k_fold))))
  k_with "con" => (k_here; (with_reducible show wpAny _ _ (call (Value.ref 176) [Value.int _ _, Value.int _ _, Value.int _ _, Value.none, Value.int _ _, Value.int _ _]) _ _ _); k_dflt (
    refine Con.useE (con_event_of _ _ _ (by first | assumption | omega | (simp; omega)) (by first | assumption | omega | (simp; omega)) _ _ _ _ _ _ _) (by k_asm) (by k_asm) (by k_asm) (by k_asm) (by k_asm) (by first | exact rfl | assumption) (by ktr_room) (by ktr_units) ?_ ?_
    (rotate_left; (intro k9 bt9 r9 c9 md9 x9 d9 t0 t1 t2 t3 t4 t5 t6 t7 t8 t9 h' tk' hO9 l9 l8 F' N'; (try k_lt l9); (try k_lt2 l8); (try dsimp only); (try k_fold)); rotate_left; (intro hO9 h' tk' F' N'; (try dsimp only); (try k_fold)))))
  k_with "con" => (k_here; (with_reducible show wpAny _ _ (call (Value.ref 176) [Value.int _ _, Value.int _ _, Value.int _ _, Value.bool _, Value.int _ _, Value.int _ _]) _ _ _); k_dflt (
    refine Con.useE (con_event_ofB _ _ _ (by first | assumption | omega | (simp; omega)) (by first | assumption | omega | (simp; omega)) _ _ _ _ _ _ _ _) (by k_asm) (by k_asm) (by k_asm) (by k_asm) (by k_asm) (by first | exact rfl | assumption) (by ktr_room) (by ktr_units) ?_ ?_
    (rotate_left; (intro k9 bt9 r9 c9 md9 x9 d9 t0 t1 t2 t3 t4 t5 t6 t7 t8 t9 h' tk' hO9 l9 l8 F' N'; (try k_lt l9); (try k_lt2 l8); (try dsimp only); (try k_fold)); rotate_left; (intro hO9 h' tk' F' N'; (try dsimp only); (try k_fold)))))
  k_with "con" => (k_here; (with_reducible show wpAny _ _ (call (Value.ref 190) [Value.bytes _ _, Value.int _ _, Value.bool _]) _ _ _); k_dflt (
    refine Con.useF (con_read_plain _ _ _ _ _ _ _ (by kba_ints2) (by first | assumption | omega | (simp; omega)) (by first | assumption | omega | (simp; omega)) _) (by k_asm) (by k_asm) (by k_asm) (by k_asm) (by k_asm) (by first | exact rfl | assumption) (by ktr_room) (by ktr_units) ?_ ?_
    (rotate_left; (intro k9 bt9 r9 c9 md9 n9 D9 x9 d9 t9 t0 t1 t2 t3 t4 t5 t6 t7 t8 t9 h' tk' hO9 l9 l8 l7 F' N'; (try k_lt l9); (try k_lt2 l8); (try k_lt2 l7); (try dsimp only); (try k_fold)); rotate_left; (intro hO9 h' tk' F' N'; (try dsimp only); (try k_fold)))))
  k_with "con" => (k_here; (with_reducible show wpAny _ _ (call (Value.ref 28) [Value.bytes _ _]) _ _ _); k_dflt (
    refine Con.useI (con_number_of _ _ _ _ (by kba_ints2) (by first | assumption | omega | (simp; omega)) _) (by k_asm) (by k_asm) (by k_asm) (by k_asm) (by k_asm) (by first | exact rfl | assumption) (by ktr_room) (by ktr_units) ?_ ?_
    (rotate_left; (intro v9 t9 h' tk' hO9 F' N'; (try dsimp only); (try k_fold)); rotate_left; (intro hO9 h' tk' F' N'; (try dsimp only); (try k_fold)))))
  k_with "con" => (k_here; (with_reducible show wpAny _ _ (call (Value.ref 28) [Value.bytes _ _]) _ _ _); k_dflt (
    refine Con.useIs (con_number_of _ _ _ _ (by kba_ints2) (by first | assumption | omega | (simp; omega)) _) (by assumption) (by k_asm) (by k_asm) (by k_asm) (by k_asm) (by k_asm) (by first | exact rfl | assumption) (by ktr_room) (by ktr_units) ?_
    (intro t9 h' tk' F' N'; (try dsimp only); (try k_fold))))
  k_with "con" => (k_here; (with_reducible show wpAny _ _ (call (Value.ref 216) [Value.bytes _ _]) _ _ _); k_dflt (
    refine Con.useV (con_are_dec _ _ _ _ (by kba_ints2) (by first | assumption | omega | (simp; omega)) _) (by k_asm) (by k_asm) (by k_asm) (by k_asm) (by k_asm) (by first | exact rfl | assumption) (by ktr_room) (by ktr_units) ?_
    (intro t9 h' tk' F' N'; (try dsimp only); (try k_fold))))
  k_with "con" => (k_here; (with_reducible show wpAny _ _ (call (Value.ref 195) [Value.bytes _ _, Value.int _ _]) _ _ _); k_dflt (
    refine Con.useD (con_dec_at _ _ _ _ _ _ (by kba_ints2) (by first | assumption | omega | (simp; omega)) (by first | assumption | omega | (simp; omega)) (by first | assumption | omega | (simp; omega)) (by assumption) _) (by k_asm) (by k_asm) (by k_asm) (by k_asm) (by k_asm) (by first | exact rfl | assumption) (by ktr_room) (by ktr_units) ?_ ?_
    (rotate_left; (intro a9 b9 c9 t9 n9 T9 D9 t0 t1 t2 t3 t4 k9 h' tk' hO9 l9 l8 F' N'; (try k_lt l9); (try k_lt2 l8); (try have f9 := decAt_bd (by assumption) hO9); (try dsimp only); (try k_fold)); rotate_left; (intro hO9 h' tk' F' N'; (try dsimp only); (try k_fold)))))
  k_with "con" => (k_here; (with_reducible show wpAny _ _ (call (Value.ref 203) [Value.bytes _ _, Value.int _ _, Value.bool _]) _ _ _); k_dflt (
    refine Con.useFs (con_read_mouse _ _ _ _ _ _ (by kba_ints2) (by assumption) _) (by assumption) (by k_asm) (by k_asm) (by k_asm) (by k_asm) (by k_asm) (by first | exact rfl | assumption) (by ktr_room) (by ktr_units) ?_
    (intro D9 x9 d9 t9 t0 t1 t2 t3 t4 t5 t6 t7 t8 t8' h' tk' l9 l8 l7 F' N'; (try k_lt l9); (try k_lt2 l8); (try k_lt2 l7); (try dsimp only); (try k_fold))))
  k_with "con" => (k_here; (with_reducible show wpAny _ _ (call (Value.ref 203) [Value.bytes _ _, Value.int _ _, Value.bool _]) _ _ _); k_dflt (
    refine Con.useFn (con_read_mouse _ _ _ _ _ _ (by kba_ints2) (by assumption) _) (by assumption) (by k_asm) (by k_asm) (by k_asm) (by k_asm) (by k_asm) (by first | exact rfl | assumption) (by ktr_room) (by ktr_units) ?_
    (intro h' tk' F' N'; (try dsimp only); (try k_fold))))
  k_with "con" => (k_here; (with_reducible show wpAny _ _ (call (Value.ref 224) [Value.bytes _ _]) _ _ _); k_dflt (
    refine Con.useKs (con_read_focus _ _ _ _ (by kba_ints2) (by first | assumption | omega | (simp; omega)) _) (by assumption) (by k_asm) (by k_asm) (by k_asm) (by k_asm) (by k_asm) (by first | exact rfl | assumption) (by ktr_room) (by ktr_units) ?_
    (intro D9 t9 h' tk' l9 F' N'; (try k_lt l9); (try dsimp only); (try k_fold))))
  k_with "con" => (k_here; (with_reducible show wpAny _ _ (call (Value.ref 224) [Value.bytes _ _]) _ _ _); k_dflt (
    refine Con.useKn (con_read_focus _ _ _ _ (by kba_ints2) (by first | assumption | omega | (simp; omega)) _) (by assumption) (by k_asm) (by k_asm) (by k_asm) (by k_asm) (by k_asm) (by first | exact rfl | assumption) (by ktr_room) (by ktr_units) ?_
    (intro h' tk' F' N'; (try dsimp only); (try k_fold))))
  k_with "con" => (k_here; (with_reducible show wpAny _ _ (call (Value.ref 224) [Value.bytes _ _, Value.int _ _]) _ _ _); k_dflt (
    refine Con.useKs (con_read_focusAt _ _ _ _ _ _ (by kba_ints2) (by first | assumption | omega | (simp; omega)) (by first | assumption | omega | (simp; omega)) (by first | assumption | omega | (simp; omega)) _) (by assumption) (by k_asm) (by k_asm) (by k_asm) (by k_asm) (by k_asm) (by first | exact rfl | assumption) (by ktr_room) (by ktr_units) ?_
    (intro D9 t9 h' tk' l9 F' N'; (try k_lt l9); (try dsimp only); (try k_fold))))
  k_with "con" => (k_here; (with_reducible show wpAny _ _ (call (Value.ref 224) [Value.bytes _ _, Value.int _ _]) _ _ _); k_dflt (
    refine Con.useKn (con_read_focusAt _ _ _ _ _ _ (by kba_ints2) (by first | assumption | omega | (simp; omega)) (by first | assumption | omega | (simp; omega)) (by first | assumption | omega | (simp; omega)) _) (by assumption) (by k_asm) (by k_asm) (by k_asm) (by k_asm) (by k_asm) (by first | exact rfl | assumption) (by ktr_room) (by ktr_units) ?_
    (intro h' tk' F' N'; (try dsimp only); (try k_fold))))
  k_with "con" => (k_here; (with_reducible show wpAny _ _ (call (Value.ref 211) [Value.bytes _ _, Value.int _ _, Value.bool _]) _ _ _); k_dflt (
    refine Con.useVb (con_is_begun _ _ _ _ _ _ _ (by kba_ints2) (by first | assumption | omega | (simp; omega)) (by first | assumption | omega | (simp; omega)) _) (by assumption) (by k_asm) (by k_asm) (by k_asm) (by k_asm) (by k_asm) (by first | exact rfl | assumption) (by ktr_room) (by ktr_units) ?_
    (intro h' tk' F' N'; (try dsimp only); (try k_fold))))
  k_with "con" => (k_here; (with_reducible show wpAny _ _ (call (Value.ref 211) [Value.bytes _ _]) _ _ _); k_dflt (
    refine Con.useVb (con_is_begun0 _ _ _ _ (by kba_ints2) (by first | assumption | omega | (simp; omega)) _) (by assumption) (by k_asm) (by k_asm) (by k_asm) (by k_asm) (by k_asm) (by first | exact rfl | assumption) (by ktr_room) (by ktr_units) ?_
    (intro h' tk' F' N'; (try dsimp only); (try k_fold))))
  k_with "con" => (k_here; (with_reducible show wpAny _ _ (call (Value.ref 238) [Value.ref _]) _ _ _); k_dflt (
    refine' Con.useE ?cC ?cB ?cF ?cX ?cN ?cT ?cK ?cD ?cU ?cZ ?_
    (case cB => k_asm); (case cF => k_asm); (case cX => k_asm); (case cN => k_asm); (case cT => k_asm); (case cK => first | exact rfl | assumption | with_unfolding_all rfl)
    (case cC => (refine' Con.dupE (os := [_]) (mem1 ?m1) (con_lev _ _ _ _ _ _ _ _ _ _ _ _ _); (case m1 => k_mem); skip))
    (case cD => ktr_room); (case cU => ktr_units)
    (case cZ => exact fun e9 => nomatch e9)
    (intro k9 bt9 r9 c9 md9 x9 d9 t0 t1 t2 t3 t4 t5 t6 t7 t8 t9 h' tk' hO9 l9 l8 F' N'; cases hO9; (try k_lt l9); (try k_lt2 l8); (try dsimp only); (try k_fold))))
  k_with "con" => (k_here; (with_reducible show wpAny _ _ (call (Value.ref 245) [Value.ref _]) _ _ _); k_dflt (
    refine' Con.useT ?cC ?cB ?cF ?cX ?cN ?cT ?cK ?cD ?cU ?_
    (case cB => k_asm); (case cF => k_asm); (case cX => k_asm); (case cN => k_asm); (case cT => k_asm); (case cK => first | exact rfl | assumption | with_unfolding_all rfl)
    (case cC => (refine' Con.dupT (os := [_, _]) (mem2 ?m1 ?m2) (con_ltold _ _ _ _ _ _ _ _ _ _ _ _ _ _ _ _ _ _  _); (case m1 => k_mem); (case m2 => k_mem); skip))
    (case cD => ktr_room); (case cU => ktr_units)
    (intro T9 t0 t1 t2 t3 t4 h' tk' l9 F' N'; (try k_lt l9); (try dsimp only); (try k_fold))))
  k_with "con" => (k_here; (with_reducible show wpAny _ _ (call (Value.ref 116) [Value.ref _, Value.ref _]) _ _ _); k_dflt (
    refine' Con.useV ?cC ?cB ?cF ?cX ?cN ?cT ?cK ?cD ?cU ?_
    (case cB => k_asm); (case cF => k_asm); (case cX => k_asm); (case cN => k_asm); (case cT => k_asm); (case cK => first | exact rfl | assumption | with_unfolding_all rfl)
    (case cC => (refine' Con.dup (os := [_, _, _, _]) (mem4 ?m1 ?m2 ?m3 ?m4) (con_same _ _ _ _ _ _ _ _ _ _ _ _ _ _ _ _ _ _ _ _ _ _ _ _ _  _ _ _ _ _ _ _ _ _ _  _); (case m1 => k_mem); (case m2 => k_mem); (case m3 => k_mem); (case m4 => k_mem); skip))
    (case cD => ktr_room); (case cU => ktr_units)
    (intro t9 h' tk' F' N'; (try dsimp only); (try k_fold))))
  k_with "con" => (k_here; (with_reducible show wpAny _ _ (call (Value.ref 238) [Value.ref _]) _ _ _); k_dflt (
    refine' Con.useEo ?cC ?cB ?cF ?cX ?cN ?cT ?cK ?cD ?cU ?_
    (case cB => k_asm); (case cF => k_asm); (case cX => k_asm); (case cN => k_asm); (case cT => k_asm); (case cK => first | exact rfl | assumption | with_unfolding_all rfl)
    (case cC => (refine' Con.dupE (os := [_]) (mem1 ?m1) (con_levL _ _ _ _ _ _ _ _ _ _ _ _ _ _); (case m1 => k_mem)))
    (case cD => ktr_room); (case cU => ktr_units)
    (intro x9 p91 p92 h' tk' hP9 l9 l8 F' N'; (try k_lt l9); (try dsimp only); (try k_fold))))
  k_with "con" => (k_here; (with_reducible show wpAny _ _ (call (Value.ref 238) [Value.ref _]) _ _ _); k_dflt (
    refine' Con.useEo ?cC ?cB ?cF ?cX ?cN ?cT ?cK ?cD ?cU ?_
    (case cB => k_asm); (case cF => k_asm); (case cX => k_asm); (case cN => k_asm); (case cT => k_asm); (case cK => first | exact rfl | assumption | with_unfolding_all rfl)
    (case cC => (refine' Con.dupE (os := [_]) (mem1 ?m1) (con_lev _ _ _ _ _ _ _ _ _ _ _ _ _); (case m1 => k_mem)))
    (case cD => ktr_room); (case cU => ktr_units)
    (intro x9 p91 p92 h' tk' hP9 l9 l8 F' N'; (try k_lt l9); (try dsimp only); (try k_fold))))
  k_with "con" => (k_here; (with_reducible show wpAny _ _ (call (Value.ref 116) [Value.ref _, Value.ref _]) _ _ _); k_dflt (
    refine' Con.useVb ?cC ?hv ?cB ?cF ?cX ?cN ?cT ?cK ?cD ?cU ?_
    (case cB => k_asm); (case cF => k_asm); (case cX => k_asm); (case cN => k_asm); (case cT => k_asm); (case cK => first | exact rfl | assumption | with_unfolding_all rfl)
    (case cC => (refine' Con.dup (os := [_, _, _, _]) (mem4 ?m1 ?m2 ?m3 ?m4) (con_sameP _ _ _ _ _ _ _ _ _ ?p1 ?p2 _); (case p1 => assumption); (case p2 => assumption); (case m1 => k_mem); (case m2 => k_mem); (case m3 => k_mem); (case m4 => k_mem)))
    (case hv => assumption); (case cD => ktr_room); (case cU => ktr_units)
    (intro h' tk' F' N'; (try dsimp only); (try k_fold))))
  k_with "con" => (k_here; (with_reducible show wpAny _ _ (call (Value.ref 245) [Value.ref _]) _ _ _); k_dflt (
    refine' Con.useT ?cC ?cB ?cF ?cX ?cN ?cT ?cK ?cD ?cU ?_
    (case cB => k_asm); (case cF => k_asm); (case cX => k_asm); (case cN => k_asm); (case cT => k_asm); (case cK => first | exact rfl | assumption | with_unfolding_all rfl)
    (case cC => (refine' Con.dupT (os := [_, _]) (mem2 ?m1 ?m2) (con_ltoldP _ _ _ _ _ ?p1 _); (case p1 => assumption); (case m1 => k_mem); (case m2 => k_mem)))
    (case cD => ktr_room); (case cU => ktr_units)
    (intro T9 t0 t1 t2 t3 t4 h' tk' l9 F' N'; (try k_lt l9); (try dsimp only); (try k_fold))))
  k_with "con" => (k_here; (with_reducible show wpAny _ _ (call (Value.ref 203) [Value.bytes _ _, Value.int _ _, Value.bool _]) _ _ _); k_dflt (
    refine Con.useFsP (con_read_mouse _ _ _ _ _ _ (by kba_ints2) (by assumption) _) (by assumption) (by k_asm) (by k_asm) (by k_asm) (by k_asm) (by k_asm) (by first | exact rfl | assumption) (by ktr_room) (by ktr_units) ?_
    (intro D9 x9 p91 p92 t9 h' tk' hP9 l9 l8 l7 F' N'; (try k_lt l9); (try dsimp only); (try k_fold))))
  k_with "con" => (k_here; (with_reducible show wpAny _ _ (call (Value.ref 123) [Value.int _ _]) _ _ _); k_dflt (
    refine Con.useV (con_is_wheel _ _ _ _) (by k_asm) (by k_asm) (by k_asm) (by k_asm) (by k_asm) (by first | exact rfl | assumption) (by ktr_room) (by ktr_units) ?_
    (intro t9 h' tk' F' N'; (try dsimp only); (try k_fold))))
  k_with "con" => (k_here; (with_reducible show wpAny _ _ (call (Value.ref 144) [Value.ref _, Value.str _ _]) _ _ _); k_dflt (
    refine' Con.useV ?cC ?cB ?cF ?cX ?cN ?cT ?cK ?cD ?cU ?_
    (case cB => k_asm); (case cF => k_asm); (case cX => k_asm); (case cN => k_asm); (case cT => k_asm); (case cK => first | exact rfl | assumption | with_unfolding_all rfl)
    (case cC => (refine' Con.dup (os := [_, _]) (mem2 ?m1 ?m2) (con_told _ _ _ _ _ _ _ _ _ _ _ _ _ _ _ _ _ _  _ ?s1 _); (case m1 => k_mem); (case m2 => k_mem); (case s1 => assumption)))
    (case cD => ktr_room); (case cU => ktr_units)
    (intro t9 h' tk' F' N'; (try dsimp only); (try k_fold))))
  k_with "con" => (k_here; (with_reducible show wpAny _ _ (call (Value.ref 21) [Value.int _ _]) _ _ _); k_dflt (
    refine Con.useB (con_dec_oct _ _ _ (by first | assumption | omega | (simp; omega)) (by first | assumption | omega | (simp; omega)) _) (by k_asm) (by k_asm) (by k_asm) (by k_asm) (by k_asm) (by first | exact rfl | assumption) (by ktr_room) (by ktr_units) ?_
    (intro b9 t9 h' tk' hO9 F' N'; (try dsimp only); (try k_fold))))
  k_with "con" => (k_here; (with_reducible show wpAny _ _ (call (Value.ref 151) [Value.int _ _]) _ _ _); k_dflt (
    refine Con.useB (con_code_oct _ _ _ (by first | assumption | omega | (simp; omega)) (by first | assumption | omega | (simp; omega)) _) (by k_asm) (by k_asm) (by k_asm) (by k_asm) (by k_asm) (by first | exact rfl | assumption) (by ktr_room) (by ktr_units) ?_
    (intro b9 t9 h' tk' hO9 F' N'; (try dsimp only); (try k_fold))))
  k_with "con" => (k_here; (with_reducible show wpAny _ _ (call (Value.ref 156) [Value.ref _, Value.int _ _, Value.bool false]) _ _ _); k_dflt (
    refine' Con.useB ?cC ?cB ?cF ?cX ?cN ?cT ?cK ?cD ?cU ?_
    (case cB => k_asm); (case cF => k_asm); (case cX => k_asm); (case cN => k_asm); (case cT => k_asm); (case cK => first | exact rfl | assumption | with_unfolding_all rfl)
    (case cC => (refine' Con.dup (os := [_]) (mem1 ?m1) (con_plain_oct _ _ _ _ _ _ _ _ _ _ ?s1 ?s2 ?s3 ?s4 ?s5 ?s6 _); (case m1 => k_mem); (case s1 => first | assumption | omega); (case s2 => first | assumption | omega); (case s3 => first | assumption | omega); (case s4 => first | assumption | omega); (case s5 => first | assumption | omega); (case s6 => first | assumption | omega)))
    (case cD => ktr_room); (case cU => ktr_units)
    (intro b9 t9 h' tk' hO9 F' N'; (try dsimp only); (try k_fold))))
  k_with "con" => (k_here; (with_reducible show wpAny _ _ (call (Value.ref 156) [Value.ref _, Value.int _ _, Value.bool true]) _ _ _); k_dflt (
    refine' Con.useB ?cC ?cB ?cF ?cX ?cN ?cT ?cK ?cD ?cU ?_
    (case cB => k_asm); (case cF => k_asm); (case cX => k_asm); (case cN => k_asm); (case cT => k_asm); (case cK => first | exact rfl | assumption | with_unfolding_all rfl)
    (case cC => (refine' Con.dup (os := [_]) (mem1 ?m1) (con_plain_utf _ _ _ _ _ _ _ _ _ _ ?s1 ?s2 ?s3 ?s4 ?s5 ?s6 _); (case m1 => k_mem); (case s1 => first | assumption | omega); (case s2 => first | assumption | omega); (case s3 => first | assumption | omega); (case s4 => first | assumption | omega); (case s5 => first | assumption | omega); (case s6 => first | assumption | omega)))
    (case cD => ktr_room); (case cU => ktr_units)
    (intro b9 t9 h' tk' hO9 F' N'; (try dsimp only); (try k_fold))))
  k_with "con" => (k_here; (with_reducible show wpAny _ _ (call (Value.ref 161) [Value.ref _]) _ _ _); k_dflt (
    refine' Con.useB ?cC ?cB ?cF ?cX ?cN ?cT ?cK ?cD ?cU ?_
    (case cB => k_asm); (case cF => k_asm); (case cX => k_asm); (case cN => k_asm); (case cT => k_asm); (case cK => first | exact rfl | assumption | with_unfolding_all rfl)
    (case cC => (refine' Con.dup (os := [_]) (mem1 ?m1) (con_decimals _ _ _ _ _ _ _ _ _ ?s1 ?s2 ?s3 ?s4 ?s5 ?s6 _); (case m1 => k_mem); (case s1 => first | assumption | omega); (case s2 => first | assumption | omega); (case s3 => first | assumption | omega); (case s4 => first | assumption | omega); (case s5 => first | assumption | omega); (case s6 => first | assumption | omega)))
    (case cD => ktr_room); (case cU => ktr_units)
    (intro b9 t9 h' tk' hO9 F' N'; (try dsimp only); (try k_fold))))
  k_with "con" => (k_here; (with_reducible show wpAny _ _ (call (Value.ref 130) [Value.ref _, Value.bool _]) _ _ _); k_dflt (
    refine' Con.useV ?cC ?cB ?cF ?cX ?cN ?cT ?cK ?cD ?cU ?_
    (case cB => k_asm); (case cF => k_asm); (case cX => k_asm); (case cN => k_asm); (case cT => k_asm); (case cK => first | exact rfl | assumption | with_unfolding_all rfl)
    (case cC => (refine' Con.dup (os := [_, _]) (mem2 ?m1 ?m2) (con_number _ _ _ _ _ _ _ _ _ _ _ _ _ _ _ _ _ _  0 _ ?s1 ?s2 ?s3 ?s4 ?s5 _); (case m1 => k_mem); (case m2 => k_mem); (case s1 => first | assumption | omega); (case s2 => first | assumption | omega); (case s3 => first | assumption | omega); (case s4 => first | assumption | omega); (case s5 => first | assumption | omega)))
    (case cD => ktr_room); (case cU => ktr_units)
    (intro t9 h' tk' F' N'; (try dsimp only); (try k_fold))))
  k_with "con" => (k_here; (with_reducible show wpAny _ _ (call (Value.ref 169) [Value.ref _, Value.ref _]) _ _ _); k_dflt (
    refine' Con.useB ?cC ?cB ?cF ?cX ?cN ?cT ?cK ?cD ?cU ?_
    (case cB => k_asm); (case cF => k_asm); (case cX => k_asm); (case cN => k_asm); (case cT => k_asm); (case cK => first | exact rfl | assumption | with_unfolding_all rfl)
    (case cC => (refine' Con.dup (os := [_, _, _, _, _]) (mem5 ?m1 ?m2 ?m3 ?m4 ?m5) (con_oct _ _ _ _ _ _ _ _ _ _ _ _ _ _ _ _ _ _ _ _ _ _  _ _ _ _ ?s1 ?s2 ?s3 ?s4 ?s5 ?s6 ?s7 ?s8 ?s9 ?s10 ?s11 ?s12 _); (case m1 => k_mem); (case m2 => k_mem); (case m3 => k_mem); (case m4 => k_mem); (case m5 => k_mem); (case s1 => assumption); (case s2 => assumption); (case s3 => assumption); (case s4 => assumption); (case s5 => assumption); (case s6 => assumption); (case s7 => assumption); (case s8 => assumption); (case s9 => assumption); (case s10 => assumption); (case s11 => assumption); (case s12 => assumption)))
    (case cD => ktr_room); (case cU => ktr_units)
    (intro b9 t9 h' tk' hO9 F' N'; (try dsimp only); (try k_fold))))
  k_with "con" => (k_here; (with_reducible show wpAny _ _ (call (Value.ref 231) [Value.ref _]) _ _ _); k_dflt (
    refine' Con.useT ?cC ?cB ?cF ?cX ?cN ?cT ?cK ?cD ?cU ?_
    (case cB => k_asm); (case cF => k_asm); (case cX => k_asm); (case cN => k_asm); (case cT => k_asm); (case cK => first | exact rfl | assumption | with_unfolding_all rfl)
    (case cC => (refine' Con.dupT (os := [_]) (mem1 ?m1) (con_partsE _ _ _ _ _ _ _ _ _ _ _ _ _ _ _ _ ?s1 ?s2 ?s3 ?s4 ?s5 _); (case m1 => k_mem); (case s1 => first | assumption | omega); (case s2 => first | assumption | omega); (case s3 => first | assumption | omega); (case s4 => first | assumption | omega); (case s5 => first | assumption | omega)))
    (case cD => ktr_room); (case cU => ktr_units)
    (intro T9 t0 t1 t2 t3 t4 h' tk' l9 F' N'; (try k_lt l9); (try dsimp only); (try k_fold))))
  k_with "con" => (k_here; (with_reducible show wpAny _ _ (call (Value.ref 169) [Value.ref _, Value.ref _]) _ _ _); k_dflt (
    refine' Con.useB ?cC ?cB ?cF ?cX ?cN ?cT ?cK ?cD ?cU ?_
    (case cB => k_asm); (case cF => k_asm); (case cX => k_asm); (case cN => k_asm); (case cT => k_asm); (case cK => first | exact rfl | assumption | with_unfolding_all rfl)
    (case cC => (refine' Con.dup (os := [_, _, _, _, _]) (mem5 ?m1 ?m2 ?m3 ?m4 ?m5) (con_octP _ _ _ _ _ _ _ _ _ _ ?s1 ?evp ?mop ?s2 _); (case evp => assumption); (case mop => assumption); (case s1 => assumption); (case s2 => assumption); (case m1 => k_mem); (case m2 => k_mem); (case m3 => k_mem); (case m4 => k_mem); (case m5 => k_mem)))
    (case cD => ktr_room); (case cU => ktr_units)
    (intro b9 t9 h' tk' hO9 F' N'; (try dsimp only); (try k_fold))))
  k_with "walk1" => ((first | with_reducible show wpAny _ _ (exec _ _) _ _ _ | with_reducible show wpAny _ _ (isTrue _ _ _) _ _ _); k_fold)
  trivial
theorem turn4 {a b c d x y z : Addr × Obj} {post : List (Addr × Obj)} : ∀ q, q ∈ x :: y :: z :: a :: b :: c :: d :: post → q ∈ a :: b :: c :: d :: x :: y :: z :: post := fun q hq => by
  have : [x, y, z] ++ ([a, b, c, d] ++ post) = x :: y :: z :: a :: b :: c :: d :: post := rfl
  rw [← this] at hq
  have : [a, b, c, d] ++ ([x, y, z] ++ post) = a :: b :: c :: d :: x :: y :: z :: post := rfl
  rw [← this]
  simp only [List.mem_append] at hq ⊢
  rcases hq with h | h | h
  · exact .inr (.inl h)
  · exact .inl h
  · exact .inr (.inr h)
theorem back4 {a b c d x y z : Addr × Obj} {post : List (Addr × Obj)} : ∀ q, q ∈ a :: b :: c :: d :: x :: y :: z :: post → q ∈ x :: y :: z :: a :: b :: c :: d :: post := fun q hq => by
  have : [x, y, z] ++ ([a, b, c, d] ++ post) = x :: y :: z :: a :: b :: c :: d :: post := rfl
  rw [← this]
  have : [a, b, c, d] ++ ([x, y, z] ++ post) = a :: b :: c :: d :: x :: y :: z :: post := rfl
  rw [← this] at hq
  simp only [List.mem_append] at hq ⊢
  rcases hq with h | h | h
  · exact .inr (.inl h)
  · exact .inl h
  · exact .inr (.inr h)
section
variable {need : Nat} {f : Addr} {vs : List Value} {news : List (Addr × Obj)}
    {w : World} {p : Program} {loose : List Str} {mean : ExcName → Option Value} {mg mb : Str → Option Value} {dp un : Nat} {gd : Option (List Code)} {cn : Str} {cs : Scope} {a : Addr} {ccd : Value} {cl : List (Str × Addr)} {outer : List Env} {A₀ : Around} {base h₀ : Heap} {L : Addr} {m : Str → Option Value} {s : Shared}
    {Q E : Value → Shared → Prop}
theorem Con.useM (C : Con w need f vs news (ModesR w news))
    (B : Below A₀ base outer h₀) (F : Fr h₀ L s.heap m) (X : (hd.heap_1 w.params).In h₀) (N : News h₀ L s.heap news) (T : Top p loose mean mg mb h₀) (hk : cs.kind = .function) (hd : dp + need < recursionLimit) (hu : un + 8 * need < cLine)
    (hs : ∀ mo me st kp v20 v21 o D h' tk', (st == sysModules) = false → @LT.lt Nat _ mo st → @LT.lt Nat _ me st → (∀ p ∈ news, p.1 < mo) → (∀ p ∈ news, p.1 < me) → o.IsDictOf (PySem.strKind P0 w) kvs0 → PyProof.V.FlatPairs PyData.str kvs0 D → PyProof.V.LenLe D 9 → Fr h₀ L h' m → News h₀ L h' ((mo, instObj 69 me) :: (me, dictOf [⟨PyData.keyHash w.params (Str.ofString "states"), .str (Str.ofString "states") v20, .ref st⟩, ⟨PyData.keyHash w.params (Str.ofString "kept"), .str (Str.ofString "kept") v21, .ref kp⟩] 2) :: (st, o) :: news) → Q (.ref mo) { s with heap := h', toks := tk' }) :
    wpAny (model P0 w) (ktrTop dp un gd cn cs L a ccd cl outer) (call (.ref f) vs) Q E s := by
  refine Con.use C B F X N T hk hd hu fun r tl h' tk' F' N' hR => ?_
  obtain ⟨mo, me, st, kp, v20, v21, o, D, rfl, rfl, a1, a2, a3, a4, a5, a6, a7, a8⟩ := hR; exact hs mo me st kp v20 v21 o D h' tk' a1 a2 a3 a4 a5 a6 a7 a8 F' N'
end
theorem news_d2 {h₀ h : Heap} {L : Addr} {a b : Addr × Obj} {nl : List (Addr × Obj)} (N : News h₀ L h (a :: b :: nl)) : News h₀ L h nl := fun p hp => N p (.tail _ (.tail _ hp))
noncomputable def CutG (h₀ : Heap) (L : Addr) (x : Str) (m : Str → Option Value) (P : Value → List (Addr × Obj) → Prop) (s : Shared) (f : Flow) (s' : Shared) : Prop :=
  f = .next ∧ ∃ v nl h' tk, s' = { s with heap := h', toks := tk } ∧ Fr h₀ L h' (fun z => if z = x then some v else m z) ∧ News h₀ L h' nl ∧ P v nl
theorem CutG.intro {h₀ : Heap} {L : Addr} {x : Str} {m m' : Str → Option Value} {P : Value → List (Addr × Obj) → Prop} {s : Shared} {v : Value} {nl : List (Addr × Obj)} {h' : Heap} {tk : Nat} (F : Fr h₀ L h' m') (N : News h₀ L h' nl) (hm : ∀ z, m' z = if z = x then some v else m z) (p : P v nl) :
    CutG h₀ L x m P s .next { s with heap := h', toks := tk } := ⟨rfl, v, nl, h', tk, rfl, by rw [show (fun z => if z = x then some v else m z) = m' from funext fun z => (hm z).symm]; exact F, N, p⟩
theorem cutG_use {M : Model} {A : Around} {h₀ : Heap} {L : Addr} {st : Stmt} {env : Env} {s : Shared} {m : Str → Option Value} {Q : Flow → Shared → Prop} {E : Value → Shared → Prop} (x : Str) (P : Value → List (Addr × Obj) → Prop) (_F : Fr h₀ L s.heap m)
    (walk : Hold (wpAny M A (exec st env) (CutG h₀ L x m P s) E s))
    (rest : Hold (∀ v nl h' tk, P v nl → Fr h₀ L h' (fun z => if z = x then some v else m z) → News h₀ L h' nl → Q .next { s with heap := h', toks := tk })) : wpAny M A (exec st env) Q E s :=
  wpAny_mono walk (fun f s' h => by
    obtain ⟨hf, v, nl, h', tk, hs, F, N, p⟩ := h
    subst hf hs; exact rest v nl h' tk p F N) fun _ _ x => x
section
variable {need : Nat} {f : Addr} {vs : List Value} {news : List (Addr × Obj)}
    {w : World} {p : Program} {loose : List Str} {mean : ExcName → Option Value} {mg mb : Str → Option Value} {dp un : Nat} {gd : Option (List Code)} {cn : Str} {cs : Scope} {a : Addr} {ccd : Value} {cl : List (Str × Addr)} {outer : List Env} {A₀ : Around} {base h₀ : Heap} {L : Addr} {m : Str → Option Value} {s : Shared}
    {Q E : Value → Shared → Prop}
theorem Con2.use4 {mo me st kp : Addr} {v20 v21 : Tok} {o : Obj} {kvs : List (Str × Value)} {nD : Nat} {a1 b1 c1 d1 : Addr × Obj} {post : List (Addr × Obj)}
    (C : Con2 w need f vs ((mo, instObj 69 me) :: (me, dictOf [⟨PyData.keyHash w.params (Str.ofString "states"), .str (Str.ofString "states") v20, .ref st⟩, ⟨PyData.keyHash w.params (Str.ofString "kept"), .str (Str.ofString "kept") v21, .ref kp⟩] 2) :: (st, o) :: a1 :: b1 :: c1 :: d1 :: post) (SetR nD w mo me st kp v20 v21 kvs (a1 :: b1 :: c1 :: d1 :: post)))
    (B : Below A₀ base outer h₀) (F : Fr h₀ L s.heap m) (X : (hd.heap_1 w.params).In h₀) (N : News h₀ L s.heap (a1 :: b1 :: c1 :: d1 :: (mo, instObj 69 me) :: (me, dictOf [⟨PyData.keyHash w.params (Str.ofString "states"), .str (Str.ofString "states") v20, .ref st⟩, ⟨PyData.keyHash w.params (Str.ofString "kept"), .str (Str.ofString "kept") v21, .ref kp⟩] 2) :: (st, o) :: post)) (T : Top p loose mean mg mb h₀) (hk : cs.kind = .function) (hd : dp + need < recursionLimit) (hu : un + 8 * need < cLine)
    (hs : ∀ o D h' tk', o.IsDictOf (PySem.strKind P0 w) kvs → PyProof.V.FlatPairs PyData.str kvs D → PyProof.V.LenLe D (nD + 5) → Fr h₀ L h' m → News h₀ L h' (a1 :: b1 :: c1 :: d1 :: (mo, instObj 69 me) :: (me, dictOf [⟨PyData.keyHash w.params (Str.ofString "states"), .str (Str.ofString "states") v20, .ref st⟩, ⟨PyData.keyHash w.params (Str.ofString "kept"), .str (Str.ofString "kept") v21, .ref kp⟩] 2) :: (st, o) :: post) → Q .none { s with heap := h', toks := tk' }) :
    wpAny (model P0 w) (ktrTop dp un gd cn cs L a ccd cl outer) (call (.ref f) vs) Q E s := by
  refine C p loose mean mg mb dp un gd cn cs a ccd cl outer A₀ base h₀ L m s Q E B F X (fun q hq => N q (turn4 _ hq)) T hk hd hu fun r nl h' tk' F' N' hR => ?_
  obtain ⟨rfl, o', D, rfl, b1, b2, b3⟩ := hR
  exact hs o' D h' tk' b1 b2 b3 F' (fun q hq => N' q (back4 _ hq))
end
-- between the turns of the row
noncomputable def RJ (y : Nat) (zs : List Int) (fd : Addr) (x1 x2 x3 x4 : Addr × Obj) (news : List (Addr × Obj)) (mb : Str → Option Value) (i : Nat) (m : Str → Option Value) (nx : List (Addr × Obj)) : Prop :=
  ∃ vals kk tups b t, ∃ vk vp vn vq : Option Value,
    m = (fun z => if z = Str.ofString "octets" then some (.bytes b t) else if z = Str.ofString "k" then vk else if z = Str.ofString "parts" then vp else if z = Str.ofString "is_named" then vn else if z = Str.ofString "pick" then vq else mb z) ∧
    nx = (fd, listOf vals.toArray kk) :: x1 :: x2 :: x3 :: x4 :: (tups ++ news) ∧ Reps tups vals (dueN y zs i) ∧ KBw.bInts b = octN y zs i ∧ (∀ p ∈ tups ++ news, p.1 ≠ fd) ∧ vals.length ≤ 2 * i
theorem RJ.mk {y : Nat} {zs : List Int} {fd : Addr} {x1 x2 x3 x4 : Addr × Obj} {news : List (Addr × Obj)} {mb : Str → Option Value} {i : Nat} {m : Str → Option Value} {nx : List (Addr × Obj)} {vals : List Value} {kk : Nat} {tups : List (Addr × Obj)} {b : Array UInt8} {t : Tok}
    (h1 : m (Str.ofString "octets") = some (.bytes b t))
    (h2 : ∀ z, ¬ z = Str.ofString "octets" → ¬ z = Str.ofString "k" → ¬ z = Str.ofString "parts" → ¬ z = Str.ofString "is_named" → ¬ z = Str.ofString "pick" → m z = mb z)
    (hnx : nx = (fd, listOf vals.toArray kk) :: x1 :: x2 :: x3 :: x4 :: (tups ++ news)) (hrep : Reps tups vals (dueN y zs i)) (hb : KBw.bInts b = octN y zs i) (hne : ∀ p ∈ tups ++ news, p.1 ≠ fd) (hl : vals.length ≤ 2 * i) : RJ y zs fd x1 x2 x3 x4 news mb i m nx := by
  refine ⟨vals, kk, tups, b, t, m (Str.ofString "k"), m (Str.ofString "parts"), m (Str.ofString "is_named"), m (Str.ofString "pick"), ?_, hnx, hrep, hb, hne, hl⟩
  funext z
  by_cases c1 : z = Str.ofString "octets"
  · rw [if_pos c1, c1, h1]
  · rw [if_neg c1]
    by_cases c2 : z = Str.ofString "k"
    · rw [if_pos c2, c2]
    · rw [if_neg c2]
      by_cases c3 : z = Str.ofString "parts"
      · rw [if_pos c3, c3]
      · rw [if_neg c3]
        by_cases c4 : z = Str.ofString "is_named"
        · rw [if_pos c4, c4]
        · rw [if_neg c4]
          by_cases c5 : z = Str.ofString "pick"
          · rw [if_pos c5, c5]
          · rw [if_neg c5, h2 z c1 c2 c3 c4 c5]
theorem cut_val {M : Model} {A : Around} {h₀ : Heap} {L : Addr} {st : Stmt} {env : Env} {s : Shared} {m : Str → Option Value} {news : List (Addr × Obj)} {Q : Flow → Shared → Prop} {E : Value → Shared → Prop} (x : Str) (v0 : Value) (F : Fr h₀ L s.heap m) (_N : News h₀ L s.heap news)
    (walk : Hold (wpAny M A (exec st env) (CutG h₀ L x m (fun v nl => v = v0 ∧ nl = news) s) E s))
    (rest : Hold (∀ h' tk, Fr h₀ L h' (fun z => if z = x then some v0 else m z) → News h₀ L h' news → Q .next { s with heap := h', toks := tk })) : wpAny M A (exec st env) Q E s :=
  cutG_use x _ F walk fun v nl h' tk ⟨e1, e2⟩ F' N' => by subst e1 e2; exact rest h' tk F' N'
theorem cut_due {M : Model} {A : Around} {h₀ : Heap} {L : Addr} {st : Stmt} {env : Env} {s : Shared} {m : Str → Option Value} {Q : Flow → Shared → Prop} {E : Value → Shared → Prop} {nm : Bool} {I fd : Addr} {o : Obj} {vals : List Value} {kk : Nat} {x1 x2 x3 x4 : Addr × Obj} {rs : List (Addr × Obj)} (e1 : Ev)
    (F : Fr h₀ L s.heap (fun z => if z = Str.ofString "is_named" then some (.bool nm) else m z)) (_N : News h₀ L s.heap ((I, o) :: (fd, listOf vals.toArray kk) :: x1 :: x2 :: x3 :: x4 :: rs))
    (walk : Hold (wpAny M A (exec st env) (CutG h₀ L (Str.ofString "is_named") m (fun v nl => v = .bool nm ∧ ∃ T t0 t1 t2 t3 t4, @LT.lt Nat _ fd T ∧ @LT.lt Nat _ I T ∧ nl = (I, o) :: (fd, listOf (vals ++ [Value.ref T]).toArray (kk + 1)) :: x1 :: x2 :: x3 :: x4 :: (T, { cls := .type "tuple", data := .seq #[.str e1.k t0, .int e1.bt t1, .int e1.r t2, .int e1.c t3, .int e1.md t4] }) :: rs) s) E s))
    (rest : Hold (∀ T t0 t1 t2 t3 t4 h' tk, @LT.lt Nat _ fd T → @LT.lt Nat _ I T → Fr h₀ L h' (fun z => if z = Str.ofString "is_named" then some (.bool nm) else m z) → News h₀ L h' ((I, o) :: (fd, listOf (vals ++ [Value.ref T]).toArray (kk + 1)) :: x1 :: x2 :: x3 :: x4 :: (T, { cls := .type "tuple", data := .seq #[.str e1.k t0, .int e1.bt t1, .int e1.r t2, .int e1.c t3, .int e1.md t4] }) :: rs) → Q .next { s with heap := h', toks := tk })) : wpAny M A (exec st env) Q E s := by
  refine wpAny_mono walk (fun f s' hc => ?_) fun _ _ x => x
  obtain ⟨hf, v, nl, h', tk, hs, F', N', hv, T, t0, t1, t2, t3, t4, l1, l2, e⟩ := hc
  subst hf hs hv e
  exact rest T t0 t1 t2 t3 t4 h' tk l1 l2 F' N'
theorem cut_word {M : Model} {A : Around} {h₀ : Heap} {L : Addr} {st1 : Stmt} {env : Env} {s : Shared} {m : Str → Option Value} {Q : Flow → Shared → Prop} {E : Value → Shared → Prop} {w : World} {y : Nat} {mo me st kp : Addr} {v20 v21 : Tok} {o : Obj} {a1 fdo : Addr × Obj} {post : List (Addr × Obj)}
    (F : Fr h₀ L s.heap m) (_N : News h₀ L s.heap (a1 :: fdo :: (mo, instObj 69 me) :: (me, dictOf [⟨PyData.keyHash w.params (Str.ofString "states"), .str (Str.ofString "states") v20, .ref st⟩, ⟨PyData.keyHash w.params (Str.ofString "kept"), .str (Str.ofString "kept") v21, .ref kp⟩] 2) :: (st, o) :: post)) (hlt : AllLt fdo.1 ((mo, instObj 69 me) :: (me, dictOf [⟨PyData.keyHash w.params (Str.ofString "states"), .str (Str.ofString "states") v20, .ref st⟩, ⟨PyData.keyHash w.params (Str.ofString "kept"), .str (Str.ofString "kept") v21, .ref kp⟩] 2) :: (st, o) :: post))
    (walk : Hold (wpAny M A (exec st1 env) (CutG h₀ L (Str.ofString "word") m (fun _ nl => ∃ o', nl = fdo :: (mo, instObj 69 me) :: (me, dictOf [⟨PyData.keyHash w.params (Str.ofString "states"), .str (Str.ofString "states") v20, .ref st⟩, ⟨PyData.keyHash w.params (Str.ofString "kept"), .str (Str.ofString "kept") v21, .ref kp⟩] 2) :: (st, o') :: post ∧ WayOk w y st o') s) E s))
    (rest : Hold (∀ v x1 x2 x3 h' tk, ModPack w y mo x1 x2 x3 → (∀ p ∈ x1 :: x2 :: x3 :: post, p.1 < fdo.1) → Fr h₀ L h' (fun z => if z = Str.ofString "word" then some v else m z) → News h₀ L h' (fdo :: x1 :: x2 :: x3 :: post) → Q .next { s with heap := h', toks := tk })) : wpAny M A (exec st1 env) Q E s :=
  cutG_use _ _ F walk fun v _ h' tk ⟨o', e, hw⟩ F' N' => rest v (mo, instObj 69 me) _ (st, o') h' tk ⟨me, st, kp, v20, v21, o', rfl, rfl, rfl, hw⟩ (fun p hp => by
    have h := ltAll hlt
    rcases List.mem_cons.mp hp with rfl | hp
    · exact h _ (.head _)
    rcases List.mem_cons.mp hp with rfl | hp
    · exact h _ (.tail _ (.head _))
    rcases List.mem_cons.mp hp with rfl | hp
    · exact h (st, o) (.tail _ (.tail _ (.head _)))
    · exact h _ (.tail _ (.tail _ (.tail _ hp)))) F' (e ▸ N')
noncomputable def wayK : Nat → Str
  | 1 => Str.ofString "mouse_utf8"
  | 2 => Str.ofString "mouse_sgr"
  | _ => Str.ofString "mouse_urxvt"
theorem wayV_pos {y : Nat} (h : 0 < y) (t : Tok) : wayV y t = .str (wayK y) t := by
  match y, h with
  | 1, _ => rfl
  | 2, _ => rfl
  | _ + 3, _ => rfl
theorem way_is {y : Nat} (h : 0 < y) : IsWay (wayK y) := by
  match y, h with
  | 1, _ => exact .inl rfl
  | 2, _ => exact .inr (.inl rfl)
  | _ + 3, _ => exact .inr (.inr rfl)
noncomputable def kvsA : List (Str × Value) := setW kvs0 (Str.ofString "mouse_x10") (Str.ofString "mouse_click") (Str.ofString "mouse_drag") (Str.ofString "mouse_all") (Str.ofString "mouse_all")
noncomputable def kvsW (k : Str) : List (Str × Value) := setW kvsA (Str.ofString "mouse_utf8") (Str.ofString "mouse_sgr") (Str.ofString "mouse_urxvt") (Str.ofString "mouse_pixels") k
theorem wayOk_0 {w : World} {st : Addr} {o : Obj} (lo : (st == sysModules) = false) (h : o.IsDictOf (PySem.strKind P0 w) kvsA) : WayOk w 0 st o :=
  ⟨lo, by decide, kvsA, h, rfl, rfl, rfl, rfl, rfl, rfl, rfl, rfl⟩
theorem wayOk_k {w : World} {y : Nat} {st : Addr} {o : Obj} (hy : 0 < y) (hy4 : y < 4) (lo : (st == sysModules) = false) (h : o.IsDictOf (PySem.strKind P0 w) (kvsW (wayK y))) : WayOk w y st o := by
  rcases lt_four hy4 with rfl | rfl | rfl | rfl
  · exact absurd hy (by decide)
  all_goals exact ⟨lo, by decide, _, h, rfl, rfl, rfl, rfl, rfl, rfl, rfl, rfl⟩
theorem slice_tupA {prog : Program} {w : World} {A : Around} {E : Value → Shared → Prop} {s : Shared} {h₀ : Heap} {L : Addr} {m : Str → Option Value} {news : List (Addr × Obj)} {value slice : Expr} {t : Addr} {v0 v1 v2 v3 v4 : Value} {n : Nat} {u : Tok} {Q : Value → Shared → Prop}
    (F : Fr h₀ L s.heap m) (N : News h₀ L s.heap news) (ht : (t, ({ cls := .type "tuple", data := .seq #[v0, v1, v2, v3, v4] n } : Obj)) ∈ news)
    (h : ∀ D h', Fr h₀ L h' m → News h₀ L h' ((D, { cls := .type "tuple", data := .seq #[v2, v3, v4] }) :: news) → (∀ p ∈ news, p.1 < D) → Q (.ref D) { s with heap := h' })
    (hs : subscripted slice false (.ref t) (.ref s.heap.objs.size) = operate [.ref s.heap.objs.size, .ref t] (getItem (.ref t) (.ref s.heap.objs.size)) := by with_unfolding_all rfl)
    (hg : ∀ r, letTemporaryGo value (.ref t) r = pure () := by intro _; with_unfolding_all rfl) :
    wpAny (model prog w) A (subscriptTail value slice (.ref t) (.ref s.heap.objs.size)) Q E { s with heap := s.heap.push { cls := .type "slice", data := .fields #[.int 2 u, .none, .none] } } :=
  slice_tuple_from (a := 2) F N (News.isTup N ht) (by decide) (Nat.le_of_ble_eq_true rfl) (fun h' F' N' => h _ h' F' N' fun p hp => Nat.lt_succ_of_lt (Heap.lt_size (N p hp).1)) hs hg (by rw [sizeLine_eq]; exact Nat.le_of_ble_eq_true rfl)
theorem cutD_intro {h₀ h' : Heap} {L : Addr} {m m' : Str → Option Value} {s : Shared} {tk : Nat} {nm : Bool} {I fd T : Addr} {o : Obj} {vals : List Value} {kk : Nat} {x1 x2 x3 x4 : Addr × Obj} {rs nl' : List (Addr × Obj)} {e1 : Ev} {t0 t1 t2 t3 t4 : Tok}
    (F : Fr h₀ L h' m') (N : News h₀ L h' nl') (hm : ∀ z, m' z = if z = Str.ofString "is_named" then some (.bool nm) else m z)
    (hT : (T, ({ cls := .type "tuple", data := .seq #[.str e1.k t0, .int e1.bt t1, .int e1.r t2, .int e1.c t3, .int e1.md t4] } : Obj)) ∈ nl') (hf : (fd, listOf (vals.toArray.push (.ref T)) (kk + 1)) ∈ nl') (hI : (I, o) ∈ nl') (g1 : x1 ∈ nl') (g2 : x2 ∈ nl') (g3 : x3 ∈ nl') (g4 : x4 ∈ nl')
    (hr : ∀ p ∈ rs, p ∈ nl') (l1 : @LT.lt Nat _ fd T) (l2 : @LT.lt Nat _ I T) :
    CutG h₀ L (Str.ofString "is_named") m (fun v nl => v = .bool nm ∧ ∃ T t0 t1 t2 t3 t4, @LT.lt Nat _ fd T ∧ @LT.lt Nat _ I T ∧ nl = (I, o) :: (fd, listOf (vals ++ [Value.ref T]).toArray (kk + 1)) :: x1 :: x2 :: x3 :: x4 :: (T, { cls := .type "tuple", data := .seq #[.str e1.k t0, .int e1.bt t1, .int e1.r t2, .int e1.c t3, .int e1.md t4] }) :: rs) s .next { s with heap := h', toks := tk } := by
  refine CutG.intro F (cb_drop N ?_) hm ⟨rfl, T, t0, t1, t2, t3, t4, l1, l2, rfl⟩
  rw [← List.push_toArray]
  exact List.forall_mem_cons.mpr ⟨hI, List.forall_mem_cons.mpr ⟨hf, List.forall_mem_cons.mpr ⟨g1, List.forall_mem_cons.mpr ⟨g2, List.forall_mem_cons.mpr ⟨g3, List.forall_mem_cons.mpr ⟨g4, List.forall_mem_cons.mpr ⟨hT, hr⟩⟩⟩⟩⟩⟩⟩
theorem pick_t {a : Int} (h : pickOf a = 0) : Value.bool ((a.fdiv 3).fmod 3 == 0) = Value.bool true := by
  unfold pickOf at h
  rw [h]; rfl
theorem pick_f {a : Int} (h : pickOf a = 1) : Value.bool ((a.fdiv 3).fmod 3 == 0) = Value.bool false := by
  unfold pickOf at h
  rw [h]; rfl
theorem rep_new {T : Addr} {e : Ev} {t0 t1 t2 t3 t4 : Tok} {tups : List (Addr × Obj)} : Rep ((T, { cls := .type "tuple", data := .seq #[.str e.k t0, .int e.bt t1, .int e.r t2, .int e.c t3, .int e.md t4] }) :: tups) (.ref T) (.ev e) := ⟨T, t0, t1, t2, t3, t4, rfl, .head _⟩
theorem way_eq {prog : Program} {w : World} {A : Around} {E : Value → Shared → Prop} {s : Shared} {Q : Value → Shared → Prop} {y : Nat} {t u : Tok} (hy : y < 4) (h : Q (.bool (y == 1)) s) : wpAny (model prog w) A (compareOp .Eq (wayV y t) (.str (Str.ofString "mouse_utf8") u)) Q E s := by
  rcases lt_four hy with rfl | rfl | rfl | rfl
  · exact EqNone.eq_none_str h
  all_goals exact PyProof.Rows.eq_str h
theorem way_sgr {prog : Program} {w : World} {A : Around} {E : Value → Shared → Prop} {s : Shared} {Q : Value → Shared → Prop} {y : Nat} {t u : Tok} (hy : y < 4) (h : Q (.bool (y == 2)) s) : wpAny (model prog w) A (compareOp .Eq (wayV y t) (.str (Str.ofString "mouse_sgr") u)) Q E s := by
  rcases lt_four hy with rfl | rfl | rfl | rfl
  · exact EqNone.eq_none_str h
  all_goals exact PyProof.Rows.eq_str h
theorem row_all {fd : Addr} {x1 x2 x3 x4 : Addr × Obj} {ts ns : List (Addr × Obj)} (h : ∀ p ∈ x1 :: x2 :: x3 :: x4 :: ns, @LT.lt Nat _ p.1 fd) (h' : ∀ p ∈ ts ++ ns, p.1 ≠ fd) : ∀ p ∈ x1 :: x2 :: x3 :: x4 :: (ts ++ ns), p.1 ≠ fd :=
  List.forall_mem_cons.mpr ⟨Nat.ne_of_lt (h _ (.head _)), List.forall_mem_cons.mpr ⟨Nat.ne_of_lt (h _ (.tail _ (.head _))), List.forall_mem_cons.mpr ⟨Nat.ne_of_lt (h _ (.tail _ (.tail _ (.head _)))), List.forall_mem_cons.mpr ⟨Nat.ne_of_lt (h _ (.tail _ (.tail _ (.tail _ (.head _))))), h'⟩⟩⟩⟩
theorem row_all2 {fd T : Addr} {o : Obj} {x1 x2 x3 x4 : Addr × Obj} {rs : List (Addr × Obj)} (h : ∀ p ∈ x1 :: x2 :: x3 :: x4 :: rs, p.1 ≠ fd) (ht : @LT.lt Nat _ fd T) : ∀ p ∈ x1 :: x2 :: x3 :: x4 :: (T, o) :: rs, p.1 ≠ fd :=
  List.forall_mem_cons.mpr ⟨h _ (.head _), List.forall_mem_cons.mpr ⟨h _ (.tail _ (.head _)), List.forall_mem_cons.mpr ⟨h _ (.tail _ (.tail _ (.head _))), List.forall_mem_cons.mpr ⟨h _ (.tail _ (.tail _ (.tail _ (.head _)))), List.forall_mem_cons.mpr ⟨Nat.ne_of_gt ht, fun p hp => h p (.tail _ (.tail _ (.tail _ (.tail _ hp))))⟩⟩⟩⟩⟩
theorem row_back {x y a b c lc : Addr × Obj} {ts us ns : List (Addr × Obj)} : ∀ p ∈ [] ++ (lc :: ns), p ∈ (x :: us) ++ (y :: a :: b :: c :: lc :: (ts ++ ns)) := fun p hp => by
  refine List.mem_append_right _ (.tail _ (.tail _ (.tail _ (.tail _ ?_))))
  rcases List.mem_cons.mp hp with rfl | hp
  · exact .head _
  · exact .tail _ (List.mem_append_right _ hp)
theorem row_off {I fd : Addr} {o o' : Obj} {x1 x2 x3 x4 t : Addr × Obj} {ts ns : List (Addr × Obj)} (h : ∀ p ∈ (fd, o) :: x1 :: x2 :: x3 :: x4 :: (ts ++ ns), p.1 ≠ I) (ht : @LT.lt Nat _ I t.1) : ∀ z ∈ (fd, o') :: x1 :: x2 :: x3 :: x4 :: (t :: ts ++ ns), I ≠ z.1 := fun z hz => by
  rcases List.mem_cons.mp hz with rfl | hz
  · exact fun e => h _ (.head _) e.symm
  rcases List.mem_cons.mp hz with rfl | hz
  · exact fun e => h _ (.tail _ (.head _)) e.symm
  rcases List.mem_cons.mp hz with rfl | hz
  · exact fun e => h _ (.tail _ (.tail _ (.head _))) e.symm
  rcases List.mem_cons.mp hz with rfl | hz
  · exact fun e => h _ (.tail _ (.tail _ (.tail _ (.head _)))) e.symm
  rcases List.mem_cons.mp hz with rfl | hz
  · exact fun e => h _ (.tail _ (.tail _ (.tail _ (.tail _ (.head _))))) e.symm
  rcases List.mem_cons.mp hz with rfl | hz
  · exact Nat.ne_of_lt ht
  · exact fun e => h _ (.tail _ (.tail _ (.tail _ (.tail _ (.tail _ hz))))) e.symm
theorem row_mem {x1 x2 x3 x4 t : Addr × Obj} {ts ns nl : List (Addr × Obj)} (a : x1 ∈ nl) (b : x2 ∈ nl) (c : x3 ∈ nl) (d : x4 ∈ nl) (e : t ∈ nl) (h : ∀ p ∈ ts ++ ns, p ∈ nl) : ∀ p ∈ x1 :: x2 :: x3 :: x4 :: (t :: ts ++ ns), p ∈ nl :=
  List.forall_mem_cons.mpr ⟨a, List.forall_mem_cons.mpr ⟨b, List.forall_mem_cons.mpr ⟨c, List.forall_mem_cons.mpr ⟨d, List.forall_mem_cons.mpr ⟨e, h⟩⟩⟩⟩⟩
theorem own_row_1 : True := by
  k_with "k_all" => assumption
  k_with "subscriptTail Name Slice ref ref" => (k_here; (with_reducible show wpAny _ _ (subscriptTail _ (PySem.Expr.Slice _ _ none _) (Value.ref _) (Value.ref _)) _ _ _); k_dflt (refine kmk_slice_lit (by k_asm) (by k_asm) (by kmk_list) (by kmk_part) (by kmk_part) (by assumption) ?_ (by with_unfolding_all rfl) (by kmk_pure) (by assumption)); intro D' h' F' N' l1; (try k_lt l1); (try k_sweep))
  k_with "subscriptTail Name Name ref int" => (k_here; (with_reducible show wpAny _ _ (subscriptTail _ _ (Value.ref _) (Value.int _ _)) _ _ _); k_dflt (refine item_litK (by is_list) (by assumption) (by omega) (by assumption) ?_ (by with_unfolding_all rfl)))
  k_with "subscriptTail" => (k_here; (with_reducible show wpAny _ _ (subscriptTail _ _ (Value.ref _) (Value.int (Int.fmod _ 3) _)) _ _ _); (with_reducible rename Int.fmod _ 3 = _ => hA'); rw [hA'])
  k_with "call builtin:list.append" => (k_here; (with_reducible show wpAny _ _ (call (Value.builtin _) [Value.ref _, _]) _ _ _); k_dflt (refine append_K (by k_asm) (by k_asm) (by k_upd) ?_ (by assumption)); intro h' F' N'; (try k_sweep))
  k_with "subscriptTail Name Slice ref ref" => (k_here; (with_reducible show wpAny _ _ (subscriptTail _ (PySem.Expr.Slice (some _) none none _) (Value.ref _) (Value.ref _)) _ _ _); k_dflt (refine slice_tupA (by k_asm) (by k_asm) (by k_mem) ?_ (by with_unfolding_all rfl) (by kmk_pure)); intro D' h' F' N' l1; (try k_lt l1); (try k_sweep))
  k_with "exec For Name Tuple cons nil" => (k_here; first
  | ((with_reducible show wpAny _ _ _ (CutG _ _ _ _ _ _) _ _); (rename Fr _ _ _ _ => lF'); (with_unfolding_all refine' For_turns lF' ?_ ?hs; (case hs => (intro _; rfl)); k_whole))
  | k_extra "wcut")
  k_with "pyIter ref" => (k_here; (with_reducible show wpAny _ _ (pyIter (Value.ref _)) (fun it s₂ => TurnsAt _ _ _ _ _ _ _ _ _ it s₂) _ _); (with_unfolding_all refine' iter_tupTurns (vs := [_, _]) ?h ?F ?N ?m ?c ?d ?_; (case h => rfl); (case F => k_asm); (case N => k_asm); (case m => exact List.Mem.head _); (case c => exact rfl); (case d => exact rfl); k_whole); intro i' l1; (try k_lt l1))
  k_with "UnrEndW" => (refine unrEndW_head (by assumption) (by assumption) (by assumption) ⟨by k_subL, ?_⟩)
  trivial
set_option maxRecDepth 100000 in
set_option maxHeartbeats 8000000 in
theorem con_row (w : World) (y : Nat) (hy : y < 4) (lc : Addr) (vs : List Value) (kk : Nat) (zs : List Int) (tw : Tok) (hi : IntsAre vs zs) (hl : zs.length ≤ 16) (hb : ∀ c ∈ zs, 0 ≤ c ∧ c ≤ 1000002)
    (hrun : ∃ st : Nat → List LD × List Int, st 0 = ([], []) ∧ (∀ i n, (octN y zs (zs.length / 4))[i]? = some n → LStep (y == 1) (st i).1 (st i).2 n (st (i + 1)).1 (st (i + 1)).2) ∧ st (octN y zs (zs.length / 4)).length = (dueN y zs (zs.length / 4), []))
    (hlen : (octN y zs (zs.length / 4)).length ≤ 9000) (news) :
   Con w 45 259 [.ref lc, wayV y tw] ((lc, listOf vs.toArray kk) :: news) (ValR fun _ => .bool true) := by
  unfold Con
  intro p loose mean mg mb dp un gd cn cs a ccd cl outer A₀ base h₀ L m s Q E B F X N T hk hd hu hret
  obtain ⟨sh, sg, sd, st', so⟩ := s
  refine wpAny_call ?_
  k_dflt cell_enter
  k_with "wcut" => (k_dflt (refine cut_word (y := y) (by k_asm) (by k_asm) (by assumption) ?_ ?_))
  k_steps
  · unfold Hold
    have hne9 : ∀ p ∈ (lc, listOf vs.toArray kk) :: news, p.1 ≠ _ := fun p hp => Nat.ne_of_lt (Nat.lt_trans (ltAll (l := (lc, listOf vs.toArray kk) :: news) l9 p hp) g1)
    k_with "con" => (k_here; (with_reducible show wpAny _ _ (call (Value.ref 66) _) _ _ _); k_dflt (
      first
      | (refine Con2.use4 (con_set_all w _ _ _ _ _ _ _ _ _ _ lo9 g1 g2 (by k_asm) (by k_asm) _ ?nb (by k_asm) _ ?ne) (by k_asm) (by k_asm) (by k_asm) (by k_asm) (by k_asm) (by with_unfolding_all rfl) (by ktr_room) (by ktr_units) ?_)
      | (refine Con2.use4 (con_set_way w _ _ _ _ _ _ _ _ _ _ (by assumption) _ lo9 g1 g2 (by k_asm) (by k_asm) _ ?nb (by k_asm) _ ?ne) (by k_asm) (by k_asm) (by k_asm) (by k_asm) (by k_asm) (by with_unfolding_all rfl) (by ktr_room) (by ktr_units) ?_)
      (case nb => decide)
      (case ne => (refine List.forall_mem_cons.mpr ⟨neN (by omega), List.forall_mem_cons.mpr ⟨neN (by omega), List.forall_mem_cons.mpr ⟨neN (by omega), List.forall_mem_cons.mpr ⟨neN (by omega), hne9⟩⟩⟩⟩))
      intro o9 D9 h' tk' hd9 hf9 hD9 F' N'))
    have hy' : y = 0 ∨ 0 < y := by omega
    rcases hy' with rfl | hy'
    · simp only [wayV0] at *
      k_steps
      refine' CutG.intro (by assumption) (news_d2 (by assumption)) ?cutm ?cutp
      case cutm =>
        intro z
        by_cases hz : z = Str.ofString "word"
        · subst hz; rfl
        · simp only [if_neg hz]
      case cutp => exact ⟨_, rfl, wayOk_0 lo9 (by assumption)⟩
    · simp only [wayV_pos hy'] at *
      have hw9 := way_is hy'
      k_steps
      refine' CutG.intro (by assumption) (news_d2 (by assumption)) ?cutm ?cutp
      case cutm =>
        intro z
        by_cases hz : z = Str.ofString "word"
        · subst hz; rfl
        · simp only [if_neg hz]
      case cutp => exact ⟨_, rfl, wayOk_k hy' hy lo9 (by assumption)⟩
  · unfold Hold
    intro v x1 x2 x3 h' tk hmp hfd F' N'
    k_steps
    k_dflt (refine' iter_rangeG (RJ y zs _ _ _ _ _ news _) (n := zs.length / 4) (by assumption) ?hsm range4 (by rfl) (by assumption) (by assumption) (RJ.mk (vals := []) (kk := 0) (tups := []) ?h1 (fun _ _ _ _ _ _ => rfl) ?hnx trivial ?hb0 ?hne0 (Nat.zero_le _)) ?_ ?_)
    case hsm => exact small4 hl
    case hnx => rfl
    case h1 => rfl
    case hb0 => rfl
    case hne0 => exact fun p hp => Nat.ne_of_lt (hfd p (.tail _ (.tail _ (.tail _ (.tail _ hp)))))
    · intro I i t m₁ news₁ h tk o hin hoff hJ F1 N1
      obtain ⟨vals, kk1, tups, bl, tl, vk, vp, vn, vq, rfl, rfl, hrep, hbl, hne, hvl⟩ := hJ
      have hIf := neN (hoff _ (.head _))
      dsimp only at hIf
      have h4 : 4 * i + 4 ≤ zs.length := by omega
      generalize hkI : (0 : Int) + (i : Int) * 4 = kI at F1
      have hk0 : 0 ≤ kI := by omega
      have hk9 : kI ≤ 64 := by omega
      obtain ⟨t1, t2, t3, t4, hsl, hit⟩ := slice4 hi (k := kI) (i := i) (by omega) h4
      have hpos : ∀ j, j < zs.length → 0 ≤ zs.getD j 0 := fun j hj => by
        rw [List.getD_eq_getElem?_getD, List.getElem?_eq_getElem hj]
        exact (hb _ (List.getElem_mem hj)).1
      have ha0 := hpos (4 * i) (by omega)
      have hb0' := hpos (4 * i + 1) (by omega)
      have hc0' := hpos (4 * i + 2) (by omega)
      have he0 := hpos (4 * i + 3) (by omega)
      have hz9 : vs.toArray.size ≤ sizeLine := by rw [sizeLine_eq, List.size_toArray, hi.length]; omega
      have hdu : dueN y zs (i + 1) = dueN y zs i ++ rowDue y (zs.getD (4 * i) 0) (zs.getD (4 * i + 1) 0) (zs.getD (4 * i + 2) 0) (zs.getD (4 * i + 3) 0) := rfl
      have hoc : octN y zs (i + 1) = octN y zs i ++ rowOct y (zs.getD (4 * i) 0) (zs.getD (4 * i + 1) 0) (zs.getD (4 * i + 2) 0) (zs.getD (4 * i + 3) 0) := rfl
      generalize zs.getD (4 * i) 0 = a9 at *
      generalize zs.getD (4 * i + 1) 0 = b9 at *
      generalize zs.getD (4 * i + 2) 0 = c9 at *
      generalize zs.getD (4 * i + 3) 0 = e9 at *
      have hev := evOk_of (b := b9) (c := c9) (e := e9) ha0
      rw [rowDue] at hdu
      rw [rowOct] at hoc
      rcases he : evOfCells a9 b9 c9 e9 with ⟨k0, bt0, r0, c0, md0⟩
      rw [he] at hev hdu hoc
      have hml := msgI_le y ⟨k0, bt0, r0, c0, md0⟩
      have hol := octN_le y zs i
      have hbll : (octN y zs i).length ≤ 1000 := by omega
      have hvsz : vals.toArray.size ≤ sizeLine := by rw [sizeLine_eq, List.size_toArray]; omega
      have hall := row_all hfd hne
      dsimp only at hall
      k_with "exec Assign cons BoolOp" => (rename CutMark 1 => hM; clear hM; refine cut_val (Str.ofString "is_named") (.bool (decide (¬ k0 = Str.ofString "release" ∨ y = 2))) (by k_asm) (by k_asm) ?_ ?_)
      k_with "exec Expr" => (rename CutMark 2 => hM; clear hM; k_dflt (refine cut_due (I := I) (o := o) (vals := vals) (kk := kk1) (namedEv y ⟨k0, bt0, r0, c0, md0⟩) (by k_asm) (by first | assumption | exact cb_drop (by assumption) (fun _ h => .tail _ h) | exact cb_drop (by assumption) (fun _ h => .tail _ (.tail _ h)) | exact cb_drop (by assumption) (fun _ h => .tail _ (.tail _ (.tail _ h))) | exact cb_drop (by assumption) (fun _ h => .tail _ (.tail _ (.tail _ (.tail _ h)))) | exact cb_drop (by assumption) (fun _ h => .tail _ (.tail _ (.tail _ (.tail _ (.tail _ h))))) | exact cb_drop (by assumption) (fun _ h => .tail _ (.tail _ (.tail _ (.tail _ (.tail _ (.tail _ h))))))) ?_ ?_))
      have hM : CutMark 1 := rfl
      k_steps
      · unfold Hold
        by_cases hrel : k0 = Str.ofString "release"
        · have hq : (k0 != Str.ofString "release") = false := by rw [hrel]; rfl
          k_steps
          refine way_sgr hy ?_
          k_steps
          refine' CutG.intro (by assumption) (by assumption) (fun _ => rfl) ⟨congrArg Value.bool ?_, rfl⟩
          apply Bool.eq_iff_iff.mpr
          rw [decide_eq_true_eq, beq_iff_eq]
          exact ⟨fun h => .inr h, fun h => h.elim (fun h => absurd hrel h) id⟩
        · have hq : (k0 != Str.ofString "release") = true := by simpa [bne] using hrel
          k_steps
          refine' CutG.intro (by assumption) (by assumption) (fun _ => rfl) ⟨congrArg Value.bool (hq.trans (decide_eq_true (.inl hrel)).symm), rfl⟩
      · unfold Hold
        intro h'2 tk2 F2 N2
        have hszf := ltN (Heap.lt_size (N2 _ (.tail _ (.tail _ (.tail _ (.tail _ (.tail _ (.head _))))))).1)
        dsimp only at hszf
        have hM : CutMark 2 := rfl
        k_steps
        · unfold Hold
          by_cases hnm : ¬ k0 = Str.ofString "release" ∨ y = 2
          · have hdec : decide (¬ k0 = Str.ofString "release" ∨ y = 2) = true := decide_eq_true hnm
            have hne2 : namedEv y ⟨k0, bt0, r0, c0, md0⟩ = ⟨k0, bt0, r0, c0, md0⟩ := if_neg fun x => hnm.elim (fun h => h x.1) fun h => x.2 h
            rw [hdec] at F2
            simp only [hne2, hdec]
            k_steps
            refine' cutD_intro (e1 := ⟨k0, bt0, r0, c0, md0⟩) (by assumption) (by assumption) (fun _ => rfl) (by k_mem) (by k_mem) (by k_mem) (by k_mem) (by k_mem) (by k_mem) (by k_mem) (by intro p hp; repeat' (first | exact hp | refine List.Mem.tail _ ?_)) (by omega) (by omega)
          · have hdec : decide (¬ k0 = Str.ofString "release" ∨ y = 2) = false := decide_eq_false hnm
            have hne2 : namedEv y ⟨k0, bt0, r0, c0, md0⟩ = ⟨k0, 0, r0, c0, md0⟩ := if_pos ⟨Classical.byContradiction fun h => hnm (.inl h), fun h => hnm (.inr h)⟩
            rw [hdec] at F2
            simp only [hne2, hdec]
            k_steps
            refine' cutD_intro (e1 := ⟨k0, 0, r0, c0, md0⟩) (by assumption) (by assumption) (fun _ => rfl) (by k_mem) (by k_mem) (by k_mem) (by k_mem) (by k_mem) (by k_mem) (by k_mem) (by intro p hp; repeat' (first | exact hp | refine List.Mem.tail _ ?_)) (by omega) (by omega)
        · unfold Hold
          intro T8 s0 s1 s2 s3 s4 h'3 tk3 g3 g4 F3 N3
          have hall2 := fun o => row_all2 (o := o) hall g3
          have hall3 := hall2 { cls := .type "tuple", data := .seq #[.str (namedEv y ⟨k0, bt0, r0, c0, md0⟩).k s0, .int (namedEv y ⟨k0, bt0, r0, c0, md0⟩).bt s1, .int (namedEv y ⟨k0, bt0, r0, c0, md0⟩).r s2, .int (namedEv y ⟨k0, bt0, r0, c0, md0⟩).c s3, .int (namedEv y ⟨k0, bt0, r0, c0, md0⟩).md s4] }
          clear hall2
          have hvsz2 : (vals ++ [Value.ref T8]).toArray.size ≤ sizeLine := by rw [sizeLine_eq, List.size_toArray, List.length_append]; simp only [List.length_cons, List.length_nil]; omega
          have hp3 : (a9.fdiv 3).fmod 3 = 0 ∨ (a9.fdiv 3).fmod 3 = 1 ∨ (a9.fdiv 3).fmod 3 = 2 := by rw [fmodP (by decide)]; omega
          rcases hp3 with hp3 | hp3 | hp3
          · have hp4 : (a9.fdiv 3).fmod 3 < 2 := by omega
            have hpk : pickOf a9 = 0 := hp3
            k_steps
            have hdu' : dueN y zs (i + 1) = dueN y zs i ++ [LD.ev (namedEv y ⟨k0, bt0, r0, c0, md0⟩)] ++ [LD.fo true] := by rw [hdu, if_pos hpk]; simp
            rw [if_pos hpk] at hoc
            refine' InvEndG.intro (by assumption) (by assumption) (RJ.mk (vals := vals ++ [Value.ref T8] ++ [Value.bool ((a9.fdiv 3).fmod 3 == 0)]) (kk := kk1 + 1 + 1) (tups := (T8, { cls := .type "tuple", data := .seq #[.str (namedEv y ⟨k0, bt0, r0, c0, md0⟩).k s0, .int (namedEv y ⟨k0, bt0, r0, c0, md0⟩).bt s1, .int (namedEv y ⟨k0, bt0, r0, c0, md0⟩).r s2, .int (namedEv y ⟨k0, bt0, r0, c0, md0⟩).c s3, .int (namedEv y ⟨k0, bt0, r0, c0, md0⟩).md s4] }) :: tups) ?h1 ?h2 rfl ?hr ?hb ?hv ?hl) ?ha ?hn ?ho
            case h1 => first | exact if_pos rfl | rfl
            case h2 => intro y a b c d e; simp only [if_neg a, if_neg b, if_neg c, if_neg d, if_neg e]; try rfl
            case hr => rw [hdu']; exact ((Reps.mono (fun p h => .tail _ h) hrep).snoc rep_new).snoc (pick_t hpk)
            case hb => rw [hoc, ← List.append_assoc]; assumption
            case hv =>
              intro p hp
              rcases List.mem_cons.mp hp with rfl | hp
              · dsimp only; exact Nat.ne_of_gt (by omega)
              · exact hne p hp
            case hl => rw [List.length_append, List.length_append]; simp only [List.length_cons, List.length_nil]; omega
            case ha =>
              intro p hp q hq
              rw [List.mem_singleton.mp hp]
              obtain ⟨z, hz, rfl⟩ := List.mem_map.mp hq
              exact row_off hoff (by omega) z hz
            case hn =>
              intro p hp
              rcases List.mem_cons.mp hp with rfl | hp
              · first | (rw [← List.push_toArray (vals ++ [Value.ref T8]) (Value.bool ((a9.fdiv 3).fmod 3 == 0))]; k_mem) | k_mem
              · exact row_mem (by k_mem) (by k_mem) (by k_mem) (by k_mem) (by k_mem) (by intro p hp; repeat' (first | exact hp | refine List.Mem.tail _ ?_)) p hp
            case ho =>
              intro p hp
              rw [List.mem_singleton.mp hp]
              k_mem
          · have hp4 : (a9.fdiv 3).fmod 3 < 2 := by omega
            have hp5 : ¬ (a9.fdiv 3).fmod 3 = 0 := by omega
            have hpk : pickOf a9 = 1 := hp3
            k_steps
            have hpk0 : ¬ pickOf a9 = 0 := hp5
            have hdu' : dueN y zs (i + 1) = dueN y zs i ++ [LD.ev (namedEv y ⟨k0, bt0, r0, c0, md0⟩)] ++ [LD.fo false] := by rw [hdu, if_neg hpk0, if_pos hpk]; simp
            rw [if_neg hpk0, if_pos hpk] at hoc
            refine' InvEndG.intro (by assumption) (by assumption) (RJ.mk (vals := vals ++ [Value.ref T8] ++ [Value.bool ((a9.fdiv 3).fmod 3 == 0)]) (kk := kk1 + 1 + 1) (tups := (T8, { cls := .type "tuple", data := .seq #[.str (namedEv y ⟨k0, bt0, r0, c0, md0⟩).k s0, .int (namedEv y ⟨k0, bt0, r0, c0, md0⟩).bt s1, .int (namedEv y ⟨k0, bt0, r0, c0, md0⟩).r s2, .int (namedEv y ⟨k0, bt0, r0, c0, md0⟩).c s3, .int (namedEv y ⟨k0, bt0, r0, c0, md0⟩).md s4] }) :: tups) ?h1 ?h2 rfl ?hr ?hb ?hv ?hl) ?ha ?hn ?ho
            case h1 => first | exact if_pos rfl | rfl
            case h2 => intro y a b c d e; simp only [if_neg a, if_neg b, if_neg c, if_neg d, if_neg e]; try rfl
            case hr => rw [hdu']; exact ((Reps.mono (fun p h => .tail _ h) hrep).snoc rep_new).snoc (pick_f hpk)
            case hb => rw [hoc, ← List.append_assoc]; assumption
            case hv =>
              intro p hp
              rcases List.mem_cons.mp hp with rfl | hp
              · dsimp only; exact Nat.ne_of_gt (by omega)
              · exact hne p hp
            case hl => rw [List.length_append, List.length_append]; simp only [List.length_cons, List.length_nil]; omega
            case ha =>
              intro p hp q hq
              rw [List.mem_singleton.mp hp]
              obtain ⟨z, hz, rfl⟩ := List.mem_map.mp hq
              exact row_off hoff (by omega) z hz
            case hn =>
              intro p hp
              rcases List.mem_cons.mp hp with rfl | hp
              · first | (rw [← List.push_toArray (vals ++ [Value.ref T8]) (Value.bool ((a9.fdiv 3).fmod 3 == 0))]; k_mem) | k_mem
              · exact row_mem (by k_mem) (by k_mem) (by k_mem) (by k_mem) (by k_mem) (by intro p hp; repeat' (first | exact hp | refine List.Mem.tail _ ?_)) p hp
            case ho =>
              intro p hp
              rw [List.mem_singleton.mp hp]
              k_mem
          · have hp4 : ¬ (a9.fdiv 3).fmod 3 < 2 := by omega
            have hpk : ¬ pickOf a9 = 1 := by show ¬ (a9.fdiv 3).fmod 3 = 1; omega
            k_steps
            have hpk0 : ¬ pickOf a9 = 0 := by show ¬ (a9.fdiv 3).fmod 3 = 0; omega
            have hdu' : dueN y zs (i + 1) = dueN y zs i ++ [LD.ev (namedEv y ⟨k0, bt0, r0, c0, md0⟩)] := by rw [hdu, if_neg hpk0, if_neg hpk]
            rw [if_neg hpk0, if_neg hpk] at hoc
            refine' InvEndG.intro (by assumption) (by assumption) (RJ.mk (vals := vals ++ [Value.ref T8]) (kk := kk1 + 1) (tups := (T8, { cls := .type "tuple", data := .seq #[.str (namedEv y ⟨k0, bt0, r0, c0, md0⟩).k s0, .int (namedEv y ⟨k0, bt0, r0, c0, md0⟩).bt s1, .int (namedEv y ⟨k0, bt0, r0, c0, md0⟩).r s2, .int (namedEv y ⟨k0, bt0, r0, c0, md0⟩).c s3, .int (namedEv y ⟨k0, bt0, r0, c0, md0⟩).md s4] }) :: tups) ?h1 ?h2 rfl ?hr ?hb ?hv ?hl) ?ha ?hn ?ho
            case h1 => first | exact if_pos rfl | rfl
            case h2 => intro y a b c d e; simp only [if_neg a, if_neg b, if_neg c, if_neg d, if_neg e]; try rfl
            case hr => rw [hdu']; exact (Reps.mono (fun p h => .tail _ h) hrep).snoc rep_new
            case hb => rw [hoc, ← List.append_assoc]; first | assumption | (rw [List.append_nil]; assumption)
            case hv =>
              intro p hp
              rcases List.mem_cons.mp hp with rfl | hp
              · dsimp only; exact Nat.ne_of_gt (by omega)
              · exact hne p hp
            case hl => rw [List.length_append]; simp only [List.length_cons, List.length_nil]; omega
            case ha =>
              intro p hp q hq
              rw [List.mem_singleton.mp hp]
              obtain ⟨z, hz, rfl⟩ := List.mem_map.mp hq
              exact row_off hoff (by omega) z hz
            case hn =>
              intro p hp
              rcases List.mem_cons.mp hp with rfl | hp
              · first | (rw [← List.push_toArray (vals ++ [Value.ref T8]) (Value.bool ((a9.fdiv 3).fmod 3 == 0))]; k_mem) | k_mem
              · exact row_mem (by k_mem) (by k_mem) (by k_mem) (by k_mem) (by k_mem) (by intro p hp; repeat' (first | exact hp | refine List.Mem.tail _ ?_)) p hp
            case ho =>
              intro p hp
              rw [List.mem_singleton.mp hp]
              k_mem
    · intro m₁ news₁ h tk hJ F1 N1
      obtain ⟨vals, kk1, tups, bl, tl, vk, vp, vn, vq, rfl, rfl, hrep, hbl, hne, hvl⟩ := hJ
      obtain ⟨st9', hs0, hs1, hs2⟩ := hrun
      k_steps
      refine way_eq hy ?_
      k_steps
      have hl9 : (octN y zs (zs.length / 4)).length ≤ 9000 := hlen
      k_dflt (refine Con.use (con_listed w bl tl (y == 1) _ (dueN y zs (zs.length / 4)) st9' hbl hl9 hs0 hs1 hs2 _) (by k_asm) (by k_asm) (by k_asm) (by k_asm) (by k_asm) (by with_unfolding_all rfl) (by ktr_room) (by ktr_units) ?_)
      intro r9 tl9 h9 tk9 F9 N9 hR
      obtain ⟨f9, vals9, kk9, tups9, rfl, rfl, hrep9⟩ := hR
      walk1
      dsimp only
      have ha9 : h9.IsList f9 vals9.toArray := N9.isList (n := kk9) (List.mem_append_left _ (List.Mem.head _))
      have hb9 : h9.IsList _ vals.toArray := N9.isList (n := kk1) (List.mem_append_right _ (List.Mem.head _))
      have hc9 : ∀ p ∈ tups9, h9.get? p.1 = some p.2 := fun p hp => N9.get (List.mem_append_left _ (List.Mem.tail _ hp))
      have hd9 : ∀ p ∈ tups, h9.get? p.1 = some p.2 := fun p hp => N9.get (List.mem_append_right _ (List.Mem.tail _ (List.Mem.tail _ (List.Mem.tail _ (List.Mem.tail _ (List.Mem.tail _ (List.mem_append_left _ hp)))))))
      refine eq_reps ha9 hb9 hrep9 hrep hc9 hd9 ?_ ?_
      · show un + 3 + 68 < cLine
        omega
      k_steps
      refine hret _ [] _ _ (by assumption) (cb_drop (by assumption) row_back) (ValR.mk (t := 0) rfl)


-- LL
theorem rows_LL : True := by
  w_top off
  k_with_none
  trivial
section
variable {prog : Program} {w : World} {A : Around} {E : Value → Shared → Prop} {env : Env} {h₀ : Heap} {x : Str} {body : List Stmt} {Q : Flow → Shared → Prop}
-- a loop over a list of the call's own, the invariant one's own
theorem iter_listG {s : Shared} {l : Addr} {vs : List Value} {kk : Nat} {m₀ : Str → Option Value} {news : List (Addr × Obj)} (J : Nat → (Str → Option Value) → List (Addr × Obj) → Prop)
    (hh : A.handled = none) (F : Fr h₀ env.locals s.heap m₀) (N : News h₀ env.locals s.heap ((l, listOf vs.toArray kk) :: news)) (hj : J 0 m₀ news)
    (turn : ∀ I i v m₁ news₁ h tk o o2, vs[i]? = some v → I ≠ l → (∀ p ∈ news₁, p.1 ≠ I) → J i m₁ news₁ → Fr h₀ env.locals h (fun y => if y = x then some v else m₁ y) → News h₀ env.locals h ((I, o) :: (l, o2) :: news₁) →
      wpAny (model prog w) A (execs body env) (InvPostG h₀ env.locals (J (i + 1)) [(I, o), (l, o2)] { s with heap := h, toks := tk } Q) E { s with heap := h, toks := tk })
    (done : ∀ m₁ news₁ h tk, J vs.length m₁ news₁ → Fr h₀ env.locals h m₁ → News h₀ env.locals h news₁ → Q .next { s with heap := h, toks := tk }) :
    wpAny (model prog w) A (pyIter (.ref l)) (fun it s₂ => LoopAtV prog w A h₀ env x body Q E it s₂) E s := by
  have hls : s.heap.IsList l vs.toArray := N.isList (.head _)
  have hget := (N _ (.head _)).1
  have hlL : l ≠ env.locals := (N _ (.head _)).2.1
  have hl0 : h₀.get? l = none := (N _ (.head _)).2.2
  have hlt : l < s.heap.objs.size := Heap.lt_size hget
  have hneI : l ≠ s.heap.objs.size := Nat.ne_of_lt hlt
  refine wpAny_pyIter_list hls ?_
  have W := Walks.list (prog := prog) (w := w) hh s.heap.objs.size l hneI vs.toArray
  rw [List.size_toArray] at W
  refine ⟨s.heap.objs.size, [s.heap.objs.size, l], [s.heap.objs.size], vs.length, _, _, m₀, news, J, rfl, W, ?_, ?_, ?_, ⟨⟨_, Heap.get?_push_size _ rfl, rfl, rfl⟩, hls.at fun o e => Heap.get?_push_of_some _ e⟩, F.push _, (fun p hp => ⟨Heap.get?_push_of_some _ (N p (.tail _ hp)).1, (N p (.tail _ hp)).2⟩), hj, ?_, ?_⟩
  · intro hm
    rcases List.mem_cons.mp hm with e | hm
    · exact absurd F.ns.lt (e ▸ Nat.lt_irrefl _)
    · exact hlL (List.mem_singleton.mp hm).symm
  · intro b hb
    rw [List.mem_singleton.mp hb]
    exact next_is_new F
  · intro p hp hI
    exact absurd (Heap.lt_size (N p (.tail _ hp)).1) ((List.mem_singleton.mp hI) ▸ Nat.lt_irrefl _)
  · rintro i v m₁ news₁ s₁ own ⟨h, tk, rfl⟩ hin hP hJ hoff hown hgetO hall hst F₁ N₁
    have hI0 : h₀.get? s.heap.objs.size = none := next_is_new F
    obtain ⟨⟨oI, hoI, _⟩, ⟨o2, ho2, _⟩⟩ := id hst
    have hIown : (s.heap.objs.size, oI) ∈ own := hall _ (.head _) hI0 _ hoI
    have hlown : (l, o2) ∈ own := hall _ (.tail _ (.head _)) hl0 _ ho2
    have hown' : ∀ p ∈ own, p = (s.heap.objs.size, oI) ∨ p = (l, o2) := fun p hp => by
      have h2 := hgetO p hp
      rcases List.mem_cons.mp (hown p hp) with h1 | h1
      · rw [h1] at h2
        exact .inl (Prod.ext h1 (Option.some.inj (h2.symm.trans hoI)))
      · have h1 := List.mem_singleton.mp h1
        rw [h1] at h2
        exact .inr (Prod.ext h1 (Option.some.inj (h2.symm.trans ho2)))
    have hv : vs[i]? = some v := by simpa using hP
    have N₂ : News h₀ env.locals h ((s.heap.objs.size, oI) :: (l, o2) :: news₁) := fun p hp => by
      rcases List.mem_cons.mp hp with rfl | hp
      · exact N₁ _ (List.mem_append_left _ hIown)
      · rcases List.mem_cons.mp hp with rfl | hp
        · exact N₁ _ (List.mem_append_left _ hlown)
        · exact N₁ _ (List.mem_append_right _ hp)
    refine wpAny_mono (turn _ i v m₁ news₁ h tk oI o2 hv (fun e => hneI e.symm) (fun p hp e => hoff p hp (List.mem_singleton.mpr e)) hJ F₁ N₂) (fun f s₂ q => ?_) fun _ _ e => e
    have fin : InvEndG h₀ env.locals (J (i + 1)) [(s.heap.objs.size, oI), (l, o2)] { s with heap := h, toks := tk } s₂ → LoopStepU h₀ env.locals [s.heap.objs.size] own (J (i + 1)) { s with heap := h, toks := tk } .next s₂ := by
      rintro ⟨h', tk', m', news', nx, e, F', N', hn, ho', ha, hm⟩
      refine ⟨rfl, h', tk', m', nx, e, F', fun p hp => N' p ((List.mem_append.mp hp).elim (fun hq => ho' p ?_) (hn p)), fun p hp hq => ?_, hm⟩
      · rcases hown' p hq with rfl | rfl
        · exact .head _
        · exact .tail _ (.head _)
      · exact ha _ (.head _) p.1 (List.mem_map.mpr ⟨p, hp, rfl⟩) (List.mem_singleton.mp hq).symm
    cases f with
    | ret v => exact .ret q
    | brk => exact .brk q
    | next => exact .next (fin q)
    | cont => exact .cont (fin q)
  · rintro h' tk m' news' F' N' _ hJ
    exact done m' news' h' tk hJ F' N'
end


-- none
theorem rows_none : True := by
  w_top off
  k_with_none
  k_with "kba_ints2" => first | kba_ints | (apply ints_lit; (simp only [List.map_cons, List.map_nil, UInt8.reduceToNat, Int.cast_ofNat_Int]); (try exact rfl))
  k_with "compareOp Eq bytes bytes" => (k_here; (with_reducible show wpAny _ _ (compareOp CmpOp.Eq (Value.bytes _ _) (Value.bytes _ _)) _ _ _); (first | refine eq_ints_T (by kba_ints2) (by kba_ints2) (by assumption) ?_ | refine eq_ints_F (by kba_ints2) (by kba_ints2) (by assumption) ?_ | refine eq_ints (by kba_ints2) (by kba_ints2) ?_))
  k_with "compareOp NotEq bytes bytes" => (k_here; (with_reducible show wpAny _ _ (compareOp CmpOp.NotEq (Value.bytes _ _) (Value.bytes _ _)) _ _ _); (refine ne_ints (by kba_ints2) (by kba_ints2) ?_))
  k_with "compareOp NotIn bytes ref" => (k_here; (with_reducible show wpAny _ _ (compareOp CmpOp.NotIn (Value.bytes _ _) (Value.ref _)) _ _ _); (refine notIn_two (by k_asm) (by k_mem) (by kba_ints2) (by kba_ints2) (by kba_ints2) ?_))
  k_with "subscriptTail" => (k_here; (with_reducible show wpAny _ _ (subscriptTail _ (Expr.Slice _ _ none _) (Value.bytes _ _) (Value.ref _)) _ _ _); (with_reducible rename Fr _ _ _ _ => F'); (with_reducible rename News _ _ _ _ => N'); (refine slice_C (s := ⟨_, _, _, _, _⟩) F' N' (by kba_ints2) (by constructor) (by constructor) (by kba_size) (by intro i hi; simp at hi; try (subst hi; omega)) (by intro i hi; simp at hi; try (subst hi; omega)) (by first | exact cut_z3 | exact cut_z2 | exact cut_z | exact cut_mid3 (by omega) | exact cut_mid2 (by omega) | exact cut_lit3 | exact cut_lit2 | exact cut_lit3' | exact cut_lit2' | exact cut_two | exact cut_tail | exact cut_head') ?_); intro _ _ _ _ _ _ kbcK; (try simp only [Int.toNat_zero, Int.toNat_ofNat, List.drop_zero] at kbcK))
  k_with "ktr_room" => first | exact room9 (by assumption) rfl | exact Nat.lt_of_le_of_lt (Nat.le_add_right _ _) (by assumption)
  k_with "ktr_units" => exact units9 (by assumption) rfl
  k_with "getMethod bytes" => (k_here; first | refine meth_starts ?_ | refine meth_split ?_ | refine meth_join ?_)
  k_with "call builtin:bytes.startswith" => (k_here; first | refine call_starts_T (by kba_ints2) (by kba_ints2) (by assumption) ?_ | refine call_starts_F (by kba_ints2) (by kba_ints2) (by assumption) ?_ | refine call_starts_I (by kba_ints2) (by kba_ints2) ?_)
  k_with "CompEnd" => (refine LCg.CompEnd.intro (by assumption) (by assumption) _ (fun _ h => h) (by assumption) (by exact Or.inr ⟨_, by k_mem, rfl, _, rfl⟩) ?_)
  k_with "call type:bytes" => (k_here; (with_reducible show wpAny _ _ (call (Value.type "bytes") [Value.ref _]) _ _ _); (refine' KBa.make_K ?kbaF ?kbaN ?kbah ?kbal ?kbai ?kbar ?kban ?_; (case kbaF => k_asm); (case kbaN => k_asm); (case kbah => rfl); (case kbal => kba_isList); (case kbai => kba_listInts); (case kbar => (repeat' (first | exact List.forall_mem_nil _ | (refine List.forall_mem_cons.mpr ⟨⟨?_, ?_⟩, ?_⟩) | omega | (simp only [fd10, fm10]; omega)))); (case kban => kba_size)); intro _ _ _ F' N' kbaIn; (have kbaM := KBa.ints_make kbaIn))
  k_with "cell_enter" => (refine' code_defC ?k1 ?k2 ?k3 ?k4 ?k5 ?kA ?kF ?kK ?k6 ?k7 ?k8 ?k9 ?kB ?kD ?_ ?c2 ?c3 ?c4; (case kA => exact rfl); (case kF => exact rfl); (case kK => first | exact rfl | assumption); (case k1 => k_asm); (case k2 => k_asm); (case k3 => k_asm); (case k4 => k_asm); (case k5 => k_asm); (case k6 => k_is); (case k7 => k_is); (case k8 => ktr_room); (case k9 => first | exact BindsTo.of_eq rfl | exact binds_K (by k_in) rfl (by k_is) rfl rfl rfl); (case kB => exact rfl); (case kD => decide +kernel); (case c2 => exact rfl); (case c3 => exact rfl); (case c4 => exact rfl); k_whole; intro g' L' h' tk' cells' FG' F' N' Y' B' X' T' l1; (try k_lt l1); k_cells Y'; (try simp only [List.cons_append, List.nil_append] at N'); (try dsimp only); (try k_lift B'); (try k_fold))
  k_with "call builtin:bytes.join" => (k_here; refine call_join_I (by k_asm) (by k_mem) rfl rfl (by kba_ints2) (by kba_ints2) (by kba_ints2) (by kba_ints2) (by first | assumption | decide) (by first | assumption | decide) (by first | assumption | decide) (by first | assumption | decide) ?_; intro _ _ _ kbJ; (try simp only [List.append_nil] at kbJ))
  k_with "units_room" => exact room_deep (by omega)
  k_with "cell_enter" => (refine' code_def ?k1 ?k2 ?k3 ?k4 ?k5 ?kA ?kF ?kK ?k6 ?k7 ?k8 ?k9 ?kB ?_ ?c2 ?c3 ?c4 ?c5; (case kA => exact rfl); (case kF => exact rfl); (case kK => first | exact rfl | assumption); (case k1 => k_asm); (case k2 => k_asm); (case k3 => k_asm); (case k4 => k_asm); (case k5 => k_asm); (case k6 => k_is); (case k7 => k_is); (case k8 => ktr_room); (case k9 => exact binds_K (by k_in) rfl (by k_is) rfl rfl rfl); (case c5 => decide); (case kB => exact locs rfl); (case c2 => exact rfl); (case c3 => exact rfl); (case c4 => exact rfl); k_whole; intro g' L' h' FG' F' N' B' X' T'; (try dsimp only); (try k_fold))
  k_with "con" => (k_here; (with_reducible show wpAny _ _ (call (Value.ref 216) [Value.bytes _ _]) _ _ _); k_dflt (
    refine Con.useV (con_are_dec _ _ _ _ (by kba_ints2) (by first | assumption | omega | (simp; omega)) _) (by k_asm) (by k_asm) (by k_asm) (by k_asm) (by k_asm) (by first | exact rfl | assumption) (by ktr_room) (by ktr_units) ?_
    (intro t9 h' tk' F' N'; (try dsimp only); (try k_fold))))
  k_with "con" => (k_here; (with_reducible show wpAny _ _ (call (Value.ref 183) [Value.bytes _ _, Value.int _ _, Value.bool _]) _ _ _); k_dflt (
    refine Con.useP (con_code_at _ _ _ _ _ _ _ (by kba_ints2) (by first | assumption | omega | (simp; omega)) (by first | assumption | omega | (simp; omega)) _) (by k_asm) (by k_asm) (by k_asm) (by k_asm) (by k_asm) (by first | exact rfl | assumption) (by ktr_room) (by ktr_units) ?_ ?_
    (rotate_left; (intro v9 n9 D9 t9 t8 h' tk' hO9 l9 F' N'; (try k_lt l9); (try have f9 := code8_bd (by assumption) (by first | assumption | omega) hO9); (try dsimp only); (try k_fold)); rotate_left; (intro hO9 h' tk' F' N'; (try dsimp only); (try k_fold)))))
  k_with "con" => (k_here; (with_reducible show wpAny _ _ (call (Value.ref 211) [Value.bytes _ _, Value.int _ _, Value.bool _]) _ _ _); k_dflt (
    refine Con.useVb (con_is_begun _ _ _ _ _ _ _ (by kba_ints2) (by first | assumption | omega | (simp; omega)) (by first | assumption | omega | (simp; omega)) _) (by assumption) (by k_asm) (by k_asm) (by k_asm) (by k_asm) (by k_asm) (by first | exact rfl | assumption) (by ktr_room) (by ktr_units) ?_
    (intro h' tk' F' N'; (try dsimp only); (try k_fold))))
  k_with "con" => (k_here; (with_reducible show wpAny _ _ (call (Value.ref 211) [Value.bytes _ _]) _ _ _); k_dflt (
    refine Con.useVb (con_is_begun0 _ _ _ _ (by kba_ints2) (by first | assumption | omega | (simp; omega)) _) (by assumption) (by k_asm) (by k_asm) (by k_asm) (by k_asm) (by k_asm) (by first | exact rfl | assumption) (by ktr_room) (by ktr_units) ?_
    (intro h' tk' F' N'; (try dsimp only); (try k_fold))))
  k_with "con" => (k_here; (with_reducible show wpAny _ _ (call (Value.ref 224) [Value.bytes _ _]) _ _ _); k_dflt (
    refine Con.useKs (con_read_focus _ _ _ _ (by kba_ints2) (by first | assumption | omega | (simp; omega)) _) (by assumption) (by k_asm) (by k_asm) (by k_asm) (by k_asm) (by k_asm) (by first | exact rfl | assumption) (by ktr_room) (by ktr_units) ?_
    (intro D9 t9 h' tk' l9 F' N'; (try k_lt l9); (try dsimp only); (try k_fold))))
  k_with "con" => (k_here; (with_reducible show wpAny _ _ (call (Value.ref 224) [Value.bytes _ _]) _ _ _); k_dflt (
    refine Con.useKn (con_read_focus _ _ _ _ (by kba_ints2) (by first | assumption | omega | (simp; omega)) _) (by assumption) (by k_asm) (by k_asm) (by k_asm) (by k_asm) (by k_asm) (by first | exact rfl | assumption) (by ktr_room) (by ktr_units) ?_
    (intro h' tk' F' N'; (try dsimp only); (try k_fold))))
  k_with "con" => (k_here; (with_reducible show wpAny _ _ (call (Value.ref 224) [Value.bytes _ _, Value.int _ _]) _ _ _); k_dflt (
    refine Con.useKs (con_read_focusAt _ _ _ _ _ _ (by kba_ints2) (by first | assumption | omega | (simp; omega)) (by first | assumption | omega | (simp; omega)) (by first | assumption | omega | (simp; omega)) _) (by assumption) (by k_asm) (by k_asm) (by k_asm) (by k_asm) (by k_asm) (by first | exact rfl | assumption) (by ktr_room) (by ktr_units) ?_
    (intro D9 t9 h' tk' l9 F' N'; (try k_lt l9); (try dsimp only); (try k_fold))))
  k_with "con" => (k_here; (with_reducible show wpAny _ _ (call (Value.ref 224) [Value.bytes _ _, Value.int _ _]) _ _ _); k_dflt (
    refine Con.useKn (con_read_focusAt _ _ _ _ _ _ (by kba_ints2) (by first | assumption | omega | (simp; omega)) (by first | assumption | omega | (simp; omega)) (by first | assumption | omega | (simp; omega)) _) (by assumption) (by k_asm) (by k_asm) (by k_asm) (by k_asm) (by k_asm) (by first | exact rfl | assumption) (by ktr_room) (by ktr_units) ?_
    (intro h' tk' F' N'; (try dsimp only); (try k_fold))))
  k_with "walk1" => ((first | with_reducible show wpAny _ _ (exec _ _) _ _ _ | with_reducible show wpAny _ _ (isTrue _ _ _) _ _ _); k_fold)
  trivial
-- octets that begin nothing
noncomputable def noneL : List (List Int) := [[97], [27, 79], [27, 91, 65], [27, 91, 73], [27, 91, 60, 49, 59, 50, 59, 51, 59, 52], [27, 91, 60, 49, 59, 120], [27, 91, 60, 97], [27, 91, 49, 50, 59, 51, 97], [27, 91, 63, 49], [91, 77], [27, 97]]
theorem none_begun : ∀ ks ∈ noneL, ∀ u : Bool, begun ks u = false := by decide +kernel
theorem none_len : ∀ ks ∈ noneL, ks.length ≤ 10 := by decide +kernel
theorem none_focus {ks : List Int} (h : ks ∈ noneL) (h' : ks ≠ [27, 91, 73]) : rdFocus ks = none := by
  have key : ∀ ks ∈ noneL, ks ≠ [27, 91, 73] → (rdFocus ks).isNone = true := by decide +kernel
  exact Option.isNone_iff_eq_none.mp (key ks h h')
theorem none_take {n : Int} (h0 : 0 ≤ n) (h1 : n < 4) (ks : List Int) : (([27, 91, 77] : List Int).take n.toNat ++ ks).drop n.toNat = ks := by
  rw [List.drop_append_of_le_length]
  · rw [List.drop_eq_nil_of_le (by rw [List.length_take]; omega), List.nil_append]
  · rw [List.length_take]
    show n.toNat ≤ min n.toNat 3
    omega
noncomputable def NJ (news : List (Addr × Obj)) (mb : Str → Option Value) (_ : Nat) (m : Str → Option Value) (nx : List (Addr × Obj)) : Prop := (∃ v, m = fun z => if z = Str.ofString "octets" then v else mb z) ∧ nx = news
theorem NJ.zero {news : List (Addr × Obj)} {m : Str → Option Value} : NJ news m 0 m news := by
  refine ⟨⟨m (Str.ofString "octets"), funext fun z => ?_⟩, rfl⟩
  by_cases h : z = Str.ofString "octets"
  · rw [if_pos h, h]
  · rw [if_neg h]
theorem NJ.next {news : List (Addr × Obj)} {mb : Str → Option Value} {i : Nat} {v v0 : Option Value} : NJ news mb i (fun y => if y = Str.ofString "octets" then v else if y = Str.ofString "octets" then v0 else mb y) news := by
  refine ⟨⟨v, funext fun z => ?_⟩, rfl⟩
  by_cases h : z = Str.ofString "octets"
  · rw [if_pos h, if_pos h]
  · rw [if_neg h, if_neg h, if_neg h]
theorem cb_3 {a b c : Addr × Obj} {news : List (Addr × Obj)} : ∀ p ∈ a :: news, p ∈ a :: b :: c :: news := fun p hp => by
  rcases List.mem_cons.mp hp with rfl | hp
  · exact .head _
  · exact .tail _ (.tail _ (.tail _ hp))
theorem none_off {I l : Addr} {o o2 : Obj} {news : List (Addr × Obj)} (h : ∀ p ∈ news, p.1 ≠ I) (h2 : ∀ p ∈ news, p.1 ≠ l) : ∀ p ∈ [(I, o), (l, o2)], ∀ q ∈ news.map (·.1), p.1 ≠ q := fun p hp q hq => by
  obtain ⟨z, hz, rfl⟩ := List.mem_map.mp hq
  rcases List.mem_cons.mp hp with rfl | hp
  · exact fun e => h z hz e.symm
  · rw [List.mem_singleton.mp hp]; exact fun e => h2 z hz e.symm
set_option maxRecDepth 100000 in
set_option maxHeartbeats 8000000 in
theorem con_none (w : World) (n : Int) (t : Tok) (hn : 0 ≤ n) (news) : Con w 40 266 [.int n t] news (ValR fun _ => .bool true) := by
  unfold Con
  intro p loose mean mg mb dp un gd cn cs a ccd cl outer A₀ base h₀ L m s Q E B F X N T hk hd hu hret
  obtain ⟨sh, sg, sd, st, so⟩ := s
  refine wpAny_call ?_
  k_dflt cell_enter
  k_with "pyIter ref" => (k_here; k_dflt (refine hold_in ?_))
  k_steps
  unfold Hold
  have hD9 : ∀ p ∈ news, p.1 ≠ _ := fun p hp => Nat.ne_of_lt (ltAll (And.right (And.right (by assumption))) p hp)
  k_dflt (refine iter_listG (NJ news _) (by rfl) (by assumption) (cb_drop (by assumption) cb_3) NJ.zero ?_ ?_)
  · intro I i v m₁ news₁ h tk o o2 hvi hIl hoff hJ F1 N1
    obtain ⟨⟨v0, rfl⟩, rfl⟩ := hJ
    have hv9 : ∃ b tb ks, v = .bytes b tb ∧ KBw.bInts b = ks ∧ ks ∈ noneL := by
      have hm := List.mem_of_getElem? hvi
      simp only [List.mem_cons, List.mem_nil_iff, or_false] at hm
      rcases hm with h | h | h | h | h | h | h | h | h | h | h <;> exact ⟨_, _, _, h, rfl, by decide⟩
    obtain ⟨b, tb, ks, rfl, hbk, hks⟩ := hv9
    clear hvi
    have hlen := none_len ks hks
    have hB0 := none_begun ks hks false
    have hm0 : 0 ≤ n.fmod 4 := by rw [Int.fmod_eq_emod_of_nonneg _ (by decide)]; omega
    have hm1 : n.fmod 4 < 4 := by rw [Int.fmod_eq_emod_of_nonneg _ (by decide)]; omega
    have hB1 : begun ((([27, 91, 77] : List Int).take (n.fmod 4).toNat ++ ks).drop (n.fmod 4).toNat) (n.fmod 2 == 0) = false := by rw [none_take hm0 hm1]; exact none_begun ks hks _
    have hF9 : ks ≠ [27, 91, 73] → rdFocus ks = none := none_focus hks
    k_with "con" => (k_here; (with_reducible show wpAny _ _ (call (Value.ref 224) [Value.bytes _ _]) _ _ _); k_dflt (
      refine Con.useKn (con_read_focus _ _ _ _ (by kba_ints2) (by omega) _) (hF9 (by assumption)) (by k_asm) (by k_asm) (by k_asm) (by k_asm) (by k_asm) (by first | exact rfl | assumption) (by ktr_room) (by ktr_units) ?_
      (intro h' tk' F' N'; (try dsimp only); (try k_fold))))
    k_steps
    all_goals refine' InvEndG.intro (by assumption) (by assumption) NJ.next (none_off hoff hD9) (fun _ h => .tail _ (.tail _ h)) (fun q hq => by rcases List.mem_cons.mp hq with rfl | hq; exact .head _; rw [List.mem_singleton.mp hq]; exact .tail _ (.head _))
  · intro m₁ news₁ h tk hJ F1 N1
    obtain ⟨⟨v0, rfl⟩, rfl⟩ := hJ
    have f1 : rdFocus [27, 91, 73] = some (true, 3) := rfl
    have f2 : rdFocus [27, 91, 79] = some (false, 3) := rfl
    have f3 : rdFocus [27, 91] = none := rfl
    have f4 : rdFocus [] = none := rfl
    have f5 : rdFocusAt [27, 91, 73, 97, 27, 91, 79, 98] 4 = some (false, 7) := rfl
    have f6 : rdFocusAt [27, 91, 73, 97] 1 = none := rfl
    k_with "con" => (k_here; (with_reducible show wpAny _ _ (call (Value.ref 224) [Value.bytes _ _]) _ _ _); k_dflt (
      refine Con.useKs (con_read_focus _ _ _ _ (by kba_ints2) (by decide) _) (by assumption) (by k_asm) (by k_asm) (by k_asm) (by k_asm) (by k_asm) (by first | exact rfl | assumption) (by ktr_room) (by ktr_units) ?_
      (intro D9 t9 h' tk' l9 F' N'; (try k_lt l9); (try dsimp only); (try k_fold))))
    k_with "con" => (k_here; (with_reducible show wpAny _ _ (call (Value.ref 224) [Value.bytes _ _]) _ _ _); k_dflt (
      refine Con.useKn (con_read_focus _ _ _ _ (by kba_ints2) (by decide) _) (by assumption) (by k_asm) (by k_asm) (by k_asm) (by k_asm) (by k_asm) (by first | exact rfl | assumption) (by ktr_room) (by ktr_units) ?_
      (intro h' tk' F' N'; (try dsimp only); (try k_fold))))
    k_with "con" => (k_here; (with_reducible show wpAny _ _ (call (Value.ref 224) [Value.bytes _ _, Value.int _ _]) _ _ _); k_dflt (
      refine Con.useKs (con_read_focusAt _ _ _ _ _ _ (by kba_ints2) (by decide) (by decide) (by decide) _) (by assumption) (by k_asm) (by k_asm) (by k_asm) (by k_asm) (by k_asm) (by first | exact rfl | assumption) (by ktr_room) (by ktr_units) ?_
      (intro D9 t9 h' tk' l9 F' N'; (try k_lt l9); (try dsimp only); (try k_fold))))
    k_with "con" => (k_here; (with_reducible show wpAny _ _ (call (Value.ref 224) [Value.bytes _ _, Value.int _ _]) _ _ _); k_dflt (
      refine Con.useKn (con_read_focusAt _ _ _ _ _ _ (by kba_ints2) (by decide) (by decide) (by decide) _) (by assumption) (by k_asm) (by k_asm) (by k_asm) (by k_asm) (by k_asm) (by first | exact rfl | assumption) (by ktr_room) (by ktr_units) ?_
      (intro h' tk' F' N'; (try dsimp only); (try k_fold))))
    k_steps
    all_goals refine hret _ [] _ _ (by assumption) (by first | assumption | exact cb_drop (by assumption) (by first | exact fun _ h => .tail _ (h) | exact fun _ h => .tail _ (.tail _ (h)) | exact fun _ h => .tail _ (.tail _ (.tail _ (h))) | exact fun _ h => .tail _ (.tail _ (.tail _ (.tail _ (h)))) | exact fun _ h => .tail _ (.tail _ (.tail _ (.tail _ (.tail _ (h))))) | exact fun _ h => .tail _ (.tail _ (.tail _ (.tail _ (.tail _ (.tail _ (h)))))) | exact fun _ h => .tail _ (.tail _ (.tail _ (.tail _ (.tail _ (.tail _ (.tail _ (h))))))) | exact fun _ h => .tail _ (.tail _ (.tail _ (.tail _ (.tail _ (.tail _ (.tail _ (.tail _ (h)))))))))) (ValR.mk (t := 0) rfl)


-- likes
theorem rows_likes : True := by
  w_top off
  k_with_none
  k_with "kba_ints2" => first | kba_ints | (apply ints_lit; (simp only [List.map_cons, List.map_nil, UInt8.reduceToNat, Int.cast_ofNat_Int]); (try exact rfl))
  k_with "compareOp Eq bytes bytes" => (k_here; (with_reducible show wpAny _ _ (compareOp CmpOp.Eq (Value.bytes _ _) (Value.bytes _ _)) _ _ _); (first | refine eq_ints_T (by kba_ints2) (by kba_ints2) (by assumption) ?_ | refine eq_ints_F (by kba_ints2) (by kba_ints2) (by assumption) ?_ | refine eq_ints (by kba_ints2) (by kba_ints2) ?_))
  k_with "compareOp NotEq bytes bytes" => (k_here; (with_reducible show wpAny _ _ (compareOp CmpOp.NotEq (Value.bytes _ _) (Value.bytes _ _)) _ _ _); (refine ne_ints (by kba_ints2) (by kba_ints2) ?_))
  k_with "compareOp NotIn bytes ref" => (k_here; (with_reducible show wpAny _ _ (compareOp CmpOp.NotIn (Value.bytes _ _) (Value.ref _)) _ _ _); (refine notIn_two (by k_asm) (by k_mem) (by kba_ints2) (by kba_ints2) (by kba_ints2) ?_))
  k_with "subscriptTail" => (k_here; (with_reducible show wpAny _ _ (subscriptTail _ (Expr.Slice _ _ none _) (Value.bytes _ _) (Value.ref _)) _ _ _); (with_reducible rename Fr _ _ _ _ => F'); (with_reducible rename News _ _ _ _ => N'); (refine slice_C (s := ⟨_, _, _, _, _⟩) F' N' (by kba_ints2) (by constructor) (by constructor) (by kba_size) (by intro i hi; simp at hi; try (subst hi; omega)) (by intro i hi; simp at hi; try (subst hi; omega)) (by first | exact cut_z3 | exact cut_z2 | exact cut_z | exact cut_mid3 (by omega) | exact cut_mid2 (by omega) | exact cut_lit3 | exact cut_lit2 | exact cut_lit3' | exact cut_lit2' | exact cut_two | exact cut_tail | exact cut_head') ?_); intro _ _ _ _ _ _ kbcK; (try simp only [Int.toNat_zero, Int.toNat_ofNat, List.drop_zero] at kbcK))
  k_with "ktr_room" => first | exact room9 (by assumption) rfl | exact Nat.lt_of_le_of_lt (Nat.le_add_right _ _) (by assumption)
  k_with "ktr_units" => exact units9 (by assumption) rfl
  k_with "getMethod bytes" => (k_here; first | refine meth_starts ?_ | refine meth_split ?_ | refine meth_join ?_)
  k_with "call builtin:bytes.startswith" => (k_here; first | refine call_starts_T (by kba_ints2) (by kba_ints2) (by assumption) ?_ | refine call_starts_F (by kba_ints2) (by kba_ints2) (by assumption) ?_ | refine call_starts_I (by kba_ints2) (by kba_ints2) ?_)
  k_with "CompEnd" => (refine LCg.CompEnd.intro (by assumption) (by assumption) _ (fun _ h => h) (by assumption) (by exact Or.inr ⟨_, by k_mem, rfl, _, rfl⟩) ?_)
  k_with "call type:bytes" => (k_here; (with_reducible show wpAny _ _ (call (Value.type "bytes") [Value.ref _]) _ _ _); (refine' KBa.make_K ?kbaF ?kbaN ?kbah ?kbal ?kbai ?kbar ?kban ?_; (case kbaF => k_asm); (case kbaN => k_asm); (case kbah => rfl); (case kbal => kba_isList); (case kbai => kba_listInts); (case kbar => (repeat' (first | exact List.forall_mem_nil _ | (refine List.forall_mem_cons.mpr ⟨⟨?_, ?_⟩, ?_⟩) | omega | (simp only [fd10, fm10]; omega)))); (case kban => kba_size)); intro _ _ _ F' N' kbaIn; (have kbaM := KBa.ints_make kbaIn))
  k_with "cell_enter" => (refine' code_defC ?k1 ?k2 ?k3 ?k4 ?k5 ?kA ?kF ?kK ?k6 ?k7 ?k8 ?k9 ?kB ?kD ?_ ?c2 ?c3 ?c4; (case kA => exact rfl); (case kF => exact rfl); (case kK => first | exact rfl | assumption); (case k1 => k_asm); (case k2 => k_asm); (case k3 => k_asm); (case k4 => k_asm); (case k5 => k_asm); (case k6 => k_is); (case k7 => k_is); (case k8 => ktr_room); (case k9 => first | exact BindsTo.of_eq rfl | exact binds_K (by k_in) rfl (by k_is) rfl rfl rfl); (case kB => exact rfl); (case kD => decide +kernel); (case c2 => exact rfl); (case c3 => exact rfl); (case c4 => exact rfl); k_whole; intro g' L' h' tk' cells' FG' F' N' Y' B' X' T' l1; (try k_lt l1); k_cells Y'; (try simp only [List.cons_append, List.nil_append] at N'); (try dsimp only); (try k_lift B'); (try k_fold))
  k_with "call builtin:bytes.join" => (k_here; refine call_join_I (by k_asm) (by k_mem) rfl rfl (by kba_ints2) (by kba_ints2) (by kba_ints2) (by kba_ints2) (by first | assumption | decide) (by first | assumption | decide) (by first | assumption | decide) (by first | assumption | decide) ?_; intro _ _ _ kbJ; (try simp only [List.append_nil] at kbJ))
  k_with "units_room" => exact room_deep (by omega)
  k_with "cell_enter" => (refine' code_def ?k1 ?k2 ?k3 ?k4 ?k5 ?kA ?kF ?kK ?k6 ?k7 ?k8 ?k9 ?kB ?_ ?c2 ?c3 ?c4 ?c5; (case kA => exact rfl); (case kF => exact rfl); (case kK => first | exact rfl | assumption); (case k1 => k_asm); (case k2 => k_asm); (case k3 => k_asm); (case k4 => k_asm); (case k5 => k_asm); (case k6 => k_is); (case k7 => k_is); (case k8 => ktr_room); (case k9 => exact binds_K (by k_in) rfl (by k_is) rfl rfl rfl); (case c5 => decide); (case kB => exact locs rfl); (case c2 => exact rfl); (case c3 => exact rfl); (case c4 => exact rfl); k_whole; intro g' L' h' FG' F' N' B' X' T'; (try dsimp only); (try k_fold))
  k_with "con" => (k_here; (with_reducible show wpAny _ _ (call (Value.ref 59) [Value.ref _, Value.str _ _]) _ _ _); k_dflt (
    refine' Con.useV ?cC ?cB ?cF ?cX ?cN ?cT ?cK ?cD ?cU ?_
    (case cB => k_asm); (case cF => k_asm); (case cX => k_asm); (case cN => k_asm); (case cT => k_asm); (case cK => first | exact rfl | assumption | with_unfolding_all rfl)
    (case cC => (refine' Con.dup (os := [_, _, _]) (mem3 ?m1 ?m2 ?m3) (con_is_on _ _ _ _ _ _ _ _ _ _ _ _ ?s1 ?s2 ?s3 _); (case m1 => k_mem); (case m2 => k_mem); (case m3 => k_mem); (case s1 => assumption); (case s2 => assumption); (case s3 => assumption)))
    (case cD => ktr_room); (case cU => ktr_units)
    (intro t9 h' tk' F' N'; (try dsimp only); (try k_fold))))
  k_with "con" => (k_here; (with_reducible show wpAny _ _ (call (Value.ref 105) [Value.str _ _, Value.int _ _, Value.int _ _, Value.int _ _, Value.int _ _]) _ _ _); k_dflt (
    refine Con.useE (con_ev _ _ _ _ _ _ _ _ _ _ _ _) (by k_asm) (by k_asm) (by k_asm) (by k_asm) (by k_asm) (by first | exact rfl | assumption) (by ktr_room) (by ktr_units) (fun e9 => nomatch e9) ?_
    (intro k9 bt9 r9 c9 md9 x9 d9 t0 t1 t2 t3 t4 t5 t6 t7 t8 t9 h' tk' hO9 l9 l8 F' N'; cases hO9; (try k_lt l9); (try k_lt2 l8); (try dsimp only); (try k_fold))))
  k_with "con" => (k_here; (with_reducible show wpAny _ _ (call (Value.ref 238) [Value.ref _]) _ _ _); k_dflt (
    refine' Con.useE ?cC ?cB ?cF ?cX ?cN ?cT ?cK ?cD ?cU ?cZ ?_
    (case cB => k_asm); (case cF => k_asm); (case cX => k_asm); (case cN => k_asm); (case cT => k_asm); (case cK => first | exact rfl | assumption | with_unfolding_all rfl)
    (case cC => (refine' Con.dupE (os := [_]) (mem1 ?m1) (con_lev _ _ _ _ _ _ _ _ _ _ _ _ _); (case m1 => k_mem); skip))
    (case cD => ktr_room); (case cU => ktr_units)
    (case cZ => exact fun e9 => nomatch e9)
    (intro k9 bt9 r9 c9 md9 x9 d9 t0 t1 t2 t3 t4 t5 t6 t7 t8 t9 h' tk' hO9 l9 l8 F' N'; cases hO9; (try k_lt l9); (try k_lt2 l8); (try dsimp only); (try k_fold))))
  k_with "con" => (k_here; (with_reducible show wpAny _ _ (call (Value.ref 245) [Value.ref _]) _ _ _); k_dflt (
    refine' Con.useT ?cC ?cB ?cF ?cX ?cN ?cT ?cK ?cD ?cU ?_
    (case cB => k_asm); (case cF => k_asm); (case cX => k_asm); (case cN => k_asm); (case cT => k_asm); (case cK => first | exact rfl | assumption | with_unfolding_all rfl)
    (case cC => (refine' Con.dupT (os := [_, _]) (mem2 ?m1 ?m2) (con_ltold _ _ _ _ _ _ _ _ _ _ _ _ _ _ _ _ _ _  _); (case m1 => k_mem); (case m2 => k_mem); skip))
    (case cD => ktr_room); (case cU => ktr_units)
    (intro T9 t0 t1 t2 t3 t4 h' tk' l9 F' N'; (try k_lt l9); (try dsimp only); (try k_fold))))
  k_with "con" => (k_here; (with_reducible show wpAny _ _ (call (Value.ref 116) [Value.ref _, Value.ref _]) _ _ _); k_dflt (
    refine' Con.useV ?cC ?cB ?cF ?cX ?cN ?cT ?cK ?cD ?cU ?_
    (case cB => k_asm); (case cF => k_asm); (case cX => k_asm); (case cN => k_asm); (case cT => k_asm); (case cK => first | exact rfl | assumption | with_unfolding_all rfl)
    (case cC => (refine' Con.dup (os := [_, _, _, _]) (mem4 ?m1 ?m2 ?m3 ?m4) (con_same _ _ _ _ _ _ _ _ _ _ _ _ _ _ _ _ _ _ _ _ _ _ _ _ _  _ _ _ _ _ _ _ _ _ _  _); (case m1 => k_mem); (case m2 => k_mem); (case m3 => k_mem); (case m4 => k_mem); skip))
    (case cD => ktr_room); (case cU => ktr_units)
    (intro t9 h' tk' F' N'; (try dsimp only); (try k_fold))))
  k_with "con" => (k_here; (with_reducible show wpAny _ _ (call (Value.ref 238) [Value.ref _]) _ _ _); k_dflt (
    refine' Con.useEo ?cC ?cB ?cF ?cX ?cN ?cT ?cK ?cD ?cU ?_
    (case cB => k_asm); (case cF => k_asm); (case cX => k_asm); (case cN => k_asm); (case cT => k_asm); (case cK => first | exact rfl | assumption | with_unfolding_all rfl)
    (case cC => (refine' Con.dupE (os := [_]) (mem1 ?m1) (con_levL _ _ _ _ _ _ _ _ _ _ _ _ _ _); (case m1 => k_mem)))
    (case cD => ktr_room); (case cU => ktr_units)
    (intro x9 p91 p92 h' tk' hP9 l9 l8 F' N'; (try k_lt l9); (try dsimp only); (try k_fold))))
  k_with "con" => (k_here; (with_reducible show wpAny _ _ (call (Value.ref 238) [Value.ref _]) _ _ _); k_dflt (
    refine' Con.useEo ?cC ?cB ?cF ?cX ?cN ?cT ?cK ?cD ?cU ?_
    (case cB => k_asm); (case cF => k_asm); (case cX => k_asm); (case cN => k_asm); (case cT => k_asm); (case cK => first | exact rfl | assumption | with_unfolding_all rfl)
    (case cC => (refine' Con.dupE (os := [_]) (mem1 ?m1) (con_lev _ _ _ _ _ _ _ _ _ _ _ _ _); (case m1 => k_mem)))
    (case cD => ktr_room); (case cU => ktr_units)
    (intro x9 p91 p92 h' tk' hP9 l9 l8 F' N'; (try k_lt l9); (try dsimp only); (try k_fold))))
  k_with "con" => (k_here; (with_reducible show wpAny _ _ (call (Value.ref 116) [Value.ref _, Value.ref _]) _ _ _); k_dflt (
    refine' Con.useVb ?cC ?hv ?cB ?cF ?cX ?cN ?cT ?cK ?cD ?cU ?_
    (case cB => k_asm); (case cF => k_asm); (case cX => k_asm); (case cN => k_asm); (case cT => k_asm); (case cK => first | exact rfl | assumption | with_unfolding_all rfl)
    (case cC => (refine' Con.dup (os := [_, _, _, _]) (mem4 ?m1 ?m2 ?m3 ?m4) (con_sameP _ _ _ _ _ _ _ _ _ ?p1 ?p2 _); (case p1 => assumption); (case p2 => assumption); (case m1 => k_mem); (case m2 => k_mem); (case m3 => k_mem); (case m4 => k_mem)))
    (case hv => assumption); (case cD => ktr_room); (case cU => ktr_units)
    (intro h' tk' F' N'; (try dsimp only); (try k_fold))))
  k_with "con" => (k_here; (with_reducible show wpAny _ _ (call (Value.ref 245) [Value.ref _]) _ _ _); k_dflt (
    refine' Con.useT ?cC ?cB ?cF ?cX ?cN ?cT ?cK ?cD ?cU ?_
    (case cB => k_asm); (case cF => k_asm); (case cX => k_asm); (case cN => k_asm); (case cT => k_asm); (case cK => first | exact rfl | assumption | with_unfolding_all rfl)
    (case cC => (refine' Con.dupT (os := [_, _]) (mem2 ?m1 ?m2) (con_ltoldP _ _ _ _ _ ?p1 _); (case p1 => assumption); (case m1 => k_mem); (case m2 => k_mem)))
    (case cD => ktr_room); (case cU => ktr_units)
    (intro T9 t0 t1 t2 t3 t4 h' tk' l9 F' N'; (try k_lt l9); (try dsimp only); (try k_fold))))
  k_with "con" => (k_here; (with_reducible show wpAny _ _ (call (Value.ref 203) [Value.bytes _ _, Value.int _ _, Value.bool _]) _ _ _); k_dflt (
    refine Con.useFsP (con_read_mouse _ _ _ _ _ _ (by kba_ints2) (by assumption) _) (by assumption) (by k_asm) (by k_asm) (by k_asm) (by k_asm) (by k_asm) (by first | exact rfl | assumption) (by ktr_room) (by ktr_units) ?_
    (intro D9 x9 p91 p92 t9 h' tk' hP9 l9 l8 l7 F' N'; (try k_lt l9); (try dsimp only); (try k_fold))))
  k_with "con" => (k_here; (with_reducible show wpAny _ _ (call (Value.ref 38) [Value.str (Str.ofString "mouse_all") _]) _ _ _); k_dflt (
    refine Con.useV (con_group_all _ _ _) (by k_asm) (by k_asm) (by k_asm) (by k_asm) (by k_asm) (by first | exact rfl | assumption) (by ktr_room) (by ktr_units) ?_
    (intro t9 h' tk' F' N'; (try dsimp only); (try k_fold))))
  k_with "con" => (k_here; (with_reducible show wpAny _ _ (call (Value.ref 38) [Value.str _ _]) _ _ _); k_dflt (
    refine Con.useV (con_group_way _ _ (by assumption) _ _) (by k_asm) (by k_asm) (by k_asm) (by k_asm) (by k_asm) (by first | exact rfl | assumption) (by ktr_room) (by ktr_units) ?_
    (intro t9 h' tk' F' N'; (try dsimp only); (try k_fold))))
  k_with "con" => (k_here; (with_reducible show wpAny _ _ (call (Value.ref 80) [Value.ref _]) _ _ _); k_dflt (
    refine' Con.useV ?cC ?cB ?cF ?cX ?cN ?cT ?cK ?cD ?cU ?_
    (case cB => k_asm); (case cF => k_asm); (case cX => k_asm); (case cN => k_asm); (case cT => k_asm); (case cK => first | exact rfl | assumption | with_unfolding_all rfl)
    (case cC => (refine' Con.dup (os := [_, _, _]) (mem3 ?m1 ?m2 ?m3) (con_modeW _ _ _ _ _ _ _ _ _ ?s1 _); (case m1 => k_mem); (case m2 => k_mem); (case m3 => k_mem); (case s1 => assumption)))
    (case cD => ktr_room); (case cU => ktr_units)
    (intro t9 h' tk' F' N'; (try dsimp only); (try k_fold))))
  k_with "con" => (k_here; (with_reducible show wpAny _ _ (call (Value.ref 87) [Value.ref _]) _ _ _); k_dflt (
    refine' Con.useV ?cC ?cB ?cF ?cX ?cN ?cT ?cK ?cD ?cU ?_
    (case cB => k_asm); (case cF => k_asm); (case cX => k_asm); (case cN => k_asm); (case cT => k_asm); (case cK => first | exact rfl | assumption | with_unfolding_all rfl)
    (case cC => (refine' Con.dup (os := [_, _, _]) (mem3 ?m1 ?m2 ?m3) (con_encW _ _ _ _ _ _ _ _ _ ?s1 _); (case m1 => k_mem); (case m2 => k_mem); (case m3 => k_mem); (case s1 => assumption)))
    (case cD => ktr_room); (case cU => ktr_units)
    (intro t9 h' tk' F' N'; (try dsimp only [wayV0, wayV1, wayV2, wayV3]); (try k_fold))))
  k_with "con" => (k_here; (with_reducible show wpAny _ _ (call (Value.ref 69) ([] ++ [])) _ _ _); k_dflt (
    refine Con.useM (con_modes _ _) (by k_asm) (by k_asm) (by k_asm) (by k_asm) (by k_asm) (by first | exact rfl | assumption) (by ktr_room) (by ktr_units) ?_
    (intro mo9 me9 st9 kp9 v20 v21 o9 D9 h' tk' lo9 g1 g2 l9 l8 hd9 hf9 hD9 F' N'; (try k_lt l9); (try k_lt l8); (try dsimp only); (try k_fold))))
  k_with "con" => (k_here; (with_reducible show wpAny _ _ (call (Value.ref 183) [Value.bytes _ _, Value.int _ _, Value.bool _]) _ _ _); k_dflt (
    refine Con.useP (con_code_at _ _ _ _ _ _ _ (by kba_ints2) (by first | assumption | omega | (simp; omega)) (by first | assumption | omega | (simp; omega)) _) (by k_asm) (by k_asm) (by k_asm) (by k_asm) (by k_asm) (by first | exact rfl | assumption) (by ktr_room) (by ktr_units) ?_ ?_
    (rotate_left; (intro v9 n9 D9 t9 t8 h' tk' hO9 l9 F' N'; (try k_lt l9); (try have f9 := code8_bd (by assumption) (by first | assumption | omega) hO9); (try dsimp only); (try k_fold)); rotate_left; (intro hO9 h' tk' F' N'; (try dsimp only); (try k_fold)))))
  k_with "con" => (k_here; (with_reducible show wpAny _ _ (call (Value.ref 137) [Value.int _ _]) _ _ _); k_dflt (
    refine Con.useI (con_button _ _ _ (by first | assumption | omega | (simp; omega)) (by first | assumption | omega | (simp; omega)) _) (by k_asm) (by k_asm) (by k_asm) (by k_asm) (by k_asm) (by first | exact rfl | assumption) (by ktr_room) (by ktr_units) ?_ ?_
    (rotate_left; (intro v9 t9 h' tk' hO9 F' N'; (try dsimp only); (try k_fold)); rotate_left; (intro hO9 h' tk' F' N'; (try dsimp only); (try k_fold)))))
  k_with "con" => (k_here; (with_reducible show wpAny _ _ (call (Value.ref 176) [Value.int _ _, Value.int _ _, Value.int _ _, Value.none, Value.int _ _, Value.int _ _]) _ _ _); k_dflt (
    refine Con.useE (con_event_of _ _ _ (by first | assumption | omega | (simp; omega)) (by first | assumption | omega | (simp; omega)) _ _ _ _ _ _ _) (by k_asm) (by k_asm) (by k_asm) (by k_asm) (by k_asm) (by first | exact rfl | assumption) (by ktr_room) (by ktr_units) ?_ ?_
    (rotate_left; (intro k9 bt9 r9 c9 md9 x9 d9 t0 t1 t2 t3 t4 t5 t6 t7 t8 t9 h' tk' hO9 l9 l8 F' N'; (try k_lt l9); (try k_lt2 l8); (try dsimp only); (try k_fold)); rotate_left; (intro hO9 h' tk' F' N'; (try dsimp only); (try k_fold)))))
  k_with "con" => (k_here; (with_reducible show wpAny _ _ (call (Value.ref 176) [Value.int _ _, Value.int _ _, Value.int _ _, Value.bool _, Value.int _ _, Value.int _ _]) _ _ _); k_dflt (
    refine Con.useE (con_event_ofB _ _ _ (by first | assumption | omega | (simp; omega)) (by first | assumption | omega | (simp; omega)) _ _ _ _ _ _ _ _) (by k_asm) (by k_asm) (by k_asm) (by k_asm) (by k_asm) (by first | exact rfl | assumption) (by ktr_room) (by ktr_units) ?_ ?_
    (rotate_left; (intro k9 bt9 r9 c9 md9 x9 d9 t0 t1 t2 t3 t4 t5 t6 t7 t8 t9 h' tk' hO9 l9 l8 F' N'; (try k_lt l9); (try k_lt2 l8); (try dsimp only); (try k_fold)); rotate_left; (intro hO9 h' tk' F' N'; (try dsimp only); (try k_fold)))))
  k_with "con" => (k_here; (with_reducible show wpAny _ _ (call (Value.ref 190) [Value.bytes _ _, Value.int _ _, Value.bool _]) _ _ _); k_dflt (
    refine Con.useF (con_read_plain _ _ _ _ _ _ _ (by kba_ints2) (by first | assumption | omega | (simp; omega)) (by first | assumption | omega | (simp; omega)) _) (by k_asm) (by k_asm) (by k_asm) (by k_asm) (by k_asm) (by first | exact rfl | assumption) (by ktr_room) (by ktr_units) ?_ ?_
    (rotate_left; (intro k9 bt9 r9 c9 md9 n9 D9 x9 d9 t9 t0 t1 t2 t3 t4 t5 t6 t7 t8 t9 h' tk' hO9 l9 l8 l7 F' N'; (try k_lt l9); (try k_lt2 l8); (try k_lt2 l7); (try dsimp only); (try k_fold)); rotate_left; (intro hO9 h' tk' F' N'; (try dsimp only); (try k_fold)))))
  k_with "con" => (k_here; (with_reducible show wpAny _ _ (call (Value.ref 28) [Value.bytes _ _]) _ _ _); k_dflt (
    refine Con.useI (con_number_of _ _ _ _ (by kba_ints2) (by first | assumption | omega | (simp; omega)) _) (by k_asm) (by k_asm) (by k_asm) (by k_asm) (by k_asm) (by first | exact rfl | assumption) (by ktr_room) (by ktr_units) ?_ ?_
    (rotate_left; (intro v9 t9 h' tk' hO9 F' N'; (try dsimp only); (try k_fold)); rotate_left; (intro hO9 h' tk' F' N'; (try dsimp only); (try k_fold)))))
  k_with "con" => (k_here; (with_reducible show wpAny _ _ (call (Value.ref 28) [Value.bytes _ _]) _ _ _); k_dflt (
    refine Con.useIs (con_number_of _ _ _ _ (by kba_ints2) (by first | assumption | omega | (simp; omega)) _) (by assumption) (by k_asm) (by k_asm) (by k_asm) (by k_asm) (by k_asm) (by first | exact rfl | assumption) (by ktr_room) (by ktr_units) ?_
    (intro t9 h' tk' F' N'; (try dsimp only); (try k_fold))))
  k_with "con" => (k_here; (with_reducible show wpAny _ _ (call (Value.ref 216) [Value.bytes _ _]) _ _ _); k_dflt (
    refine Con.useV (con_are_dec _ _ _ _ (by kba_ints2) (by first | assumption | omega | (simp; omega)) _) (by k_asm) (by k_asm) (by k_asm) (by k_asm) (by k_asm) (by first | exact rfl | assumption) (by ktr_room) (by ktr_units) ?_
    (intro t9 h' tk' F' N'; (try dsimp only); (try k_fold))))
  k_with "con" => (k_here; (with_reducible show wpAny _ _ (call (Value.ref 195) [Value.bytes _ _, Value.int _ _]) _ _ _); k_dflt (
    refine Con.useD (con_dec_at _ _ _ _ _ _ (by kba_ints2) (by first | assumption | omega | (simp; omega)) (by first | assumption | omega | (simp; omega)) (by first | assumption | omega | (simp; omega)) (by assumption) _) (by k_asm) (by k_asm) (by k_asm) (by k_asm) (by k_asm) (by first | exact rfl | assumption) (by ktr_room) (by ktr_units) ?_ ?_
    (rotate_left; (intro a9 b9 c9 t9 n9 T9 D9 t0 t1 t2 t3 t4 k9 h' tk' hO9 l9 l8 F' N'; (try k_lt l9); (try k_lt2 l8); (try have f9 := decAt_bd (by assumption) hO9); (try dsimp only); (try k_fold)); rotate_left; (intro hO9 h' tk' F' N'; (try dsimp only); (try k_fold)))))
  k_with "con" => (k_here; (with_reducible show wpAny _ _ (call (Value.ref 203) [Value.bytes _ _, Value.int _ _, Value.bool _]) _ _ _); k_dflt (
    refine Con.useFs (con_read_mouse _ _ _ _ _ _ (by kba_ints2) (by assumption) _) (by assumption) (by k_asm) (by k_asm) (by k_asm) (by k_asm) (by k_asm) (by first | exact rfl | assumption) (by ktr_room) (by ktr_units) ?_
    (intro D9 x9 d9 t9 t0 t1 t2 t3 t4 t5 t6 t7 t8 t8' h' tk' l9 l8 l7 F' N'; (try k_lt l9); (try k_lt2 l8); (try k_lt2 l7); (try dsimp only); (try k_fold))))
  k_with "con" => (k_here; (with_reducible show wpAny _ _ (call (Value.ref 203) [Value.bytes _ _, Value.int _ _, Value.bool _]) _ _ _); k_dflt (
    refine Con.useFn (con_read_mouse _ _ _ _ _ _ (by kba_ints2) (by assumption) _) (by assumption) (by k_asm) (by k_asm) (by k_asm) (by k_asm) (by k_asm) (by first | exact rfl | assumption) (by ktr_room) (by ktr_units) ?_
    (intro h' tk' F' N'; (try dsimp only); (try k_fold))))
  k_with "con" => (k_here; (with_reducible show wpAny _ _ (call (Value.ref 224) [Value.bytes _ _]) _ _ _); k_dflt (
    refine Con.useKs (con_read_focus _ _ _ _ (by kba_ints2) (by first | assumption | omega | (simp; omega)) _) (by assumption) (by k_asm) (by k_asm) (by k_asm) (by k_asm) (by k_asm) (by first | exact rfl | assumption) (by ktr_room) (by ktr_units) ?_
    (intro D9 t9 h' tk' l9 F' N'; (try k_lt l9); (try dsimp only); (try k_fold))))
  k_with "con" => (k_here; (with_reducible show wpAny _ _ (call (Value.ref 224) [Value.bytes _ _]) _ _ _); k_dflt (
    refine Con.useKn (con_read_focus _ _ _ _ (by kba_ints2) (by first | assumption | omega | (simp; omega)) _) (by assumption) (by k_asm) (by k_asm) (by k_asm) (by k_asm) (by k_asm) (by first | exact rfl | assumption) (by ktr_room) (by ktr_units) ?_
    (intro h' tk' F' N'; (try dsimp only); (try k_fold))))
  k_with "con" => (k_here; (with_reducible show wpAny _ _ (call (Value.ref 224) [Value.bytes _ _, Value.int _ _]) _ _ _); k_dflt (
    refine Con.useKs (con_read_focusAt _ _ _ _ _ _ (by kba_ints2) (by first | assumption | omega | (simp; omega)) (by first | assumption | omega | (simp; omega)) (by first | assumption | omega | (simp; omega)) _) (by assumption) (by k_asm) (by k_asm) (by k_asm) (by k_asm) (by k_asm) (by first | exact rfl | assumption) (by ktr_room) (by ktr_units) ?_
    (intro D9 t9 h' tk' l9 F' N'; (try k_lt l9); (try dsimp only); (try k_fold))))
  k_with "con" => (k_here; (with_reducible show wpAny _ _ (call (Value.ref 224) [Value.bytes _ _, Value.int _ _]) _ _ _); k_dflt (
    refine Con.useKn (con_read_focusAt _ _ _ _ _ _ (by kba_ints2) (by first | assumption | omega | (simp; omega)) (by first | assumption | omega | (simp; omega)) (by first | assumption | omega | (simp; omega)) _) (by assumption) (by k_asm) (by k_asm) (by k_asm) (by k_asm) (by k_asm) (by first | exact rfl | assumption) (by ktr_room) (by ktr_units) ?_
    (intro h' tk' F' N'; (try dsimp only); (try k_fold))))
  k_with "con" => (k_here; (with_reducible show wpAny _ _ (call (Value.ref 211) [Value.bytes _ _, Value.int _ _, Value.bool _]) _ _ _); k_dflt (
    refine Con.useVb (con_is_begun _ _ _ _ _ _ _ (by kba_ints2) (by first | assumption | omega | (simp; omega)) (by first | assumption | omega | (simp; omega)) _) (by assumption) (by k_asm) (by k_asm) (by k_asm) (by k_asm) (by k_asm) (by first | exact rfl | assumption) (by ktr_room) (by ktr_units) ?_
    (intro h' tk' F' N'; (try dsimp only); (try k_fold))))
  k_with "con" => (k_here; (with_reducible show wpAny _ _ (call (Value.ref 211) [Value.bytes _ _]) _ _ _); k_dflt (
    refine Con.useVb (con_is_begun0 _ _ _ _ (by kba_ints2) (by first | assumption | omega | (simp; omega)) _) (by assumption) (by k_asm) (by k_asm) (by k_asm) (by k_asm) (by k_asm) (by first | exact rfl | assumption) (by ktr_room) (by ktr_units) ?_
    (intro h' tk' F' N'; (try dsimp only); (try k_fold))))
  k_with "con" => (k_here; (with_reducible show wpAny _ _ (call (Value.ref 123) [Value.int _ _]) _ _ _); k_dflt (
    refine Con.useV (con_is_wheel _ _ _ _) (by k_asm) (by k_asm) (by k_asm) (by k_asm) (by k_asm) (by first | exact rfl | assumption) (by ktr_room) (by ktr_units) ?_
    (intro t9 h' tk' F' N'; (try dsimp only); (try k_fold))))
  k_with "con" => (k_here; (with_reducible show wpAny _ _ (call (Value.ref 144) [Value.ref _, Value.str _ _]) _ _ _); k_dflt (
    refine' Con.useV ?cC ?cB ?cF ?cX ?cN ?cT ?cK ?cD ?cU ?_
    (case cB => k_asm); (case cF => k_asm); (case cX => k_asm); (case cN => k_asm); (case cT => k_asm); (case cK => first | exact rfl | assumption | with_unfolding_all rfl)
    (case cC => (refine' Con.dup (os := [_, _]) (mem2 ?m1 ?m2) (con_told _ _ _ _ _ _ _ _ _ _ _ _ _ _ _ _ _ _  _ ?s1 _); (case m1 => k_mem); (case m2 => k_mem); (case s1 => assumption)))
    (case cD => ktr_room); (case cU => ktr_units)
    (intro t9 h' tk' F' N'; (try dsimp only); (try k_fold))))
  k_with "con" => (k_here; (with_reducible show wpAny _ _ (call (Value.ref 21) [Value.int _ _]) _ _ _); k_dflt (
    refine Con.useB (con_dec_oct _ _ _ (by first | assumption | omega | (simp; omega)) (by first | assumption | omega | (simp; omega)) _) (by k_asm) (by k_asm) (by k_asm) (by k_asm) (by k_asm) (by first | exact rfl | assumption) (by ktr_room) (by ktr_units) ?_
    (intro b9 t9 h' tk' hO9 F' N'; (try dsimp only); (try k_fold))))
  k_with "con" => (k_here; (with_reducible show wpAny _ _ (call (Value.ref 151) [Value.int _ _]) _ _ _); k_dflt (
    refine Con.useB (con_code_oct _ _ _ (by first | assumption | omega | (simp; omega)) (by first | assumption | omega | (simp; omega)) _) (by k_asm) (by k_asm) (by k_asm) (by k_asm) (by k_asm) (by first | exact rfl | assumption) (by ktr_room) (by ktr_units) ?_
    (intro b9 t9 h' tk' hO9 F' N'; (try dsimp only); (try k_fold))))
  k_with "con" => (k_here; (with_reducible show wpAny _ _ (call (Value.ref 156) [Value.ref _, Value.int _ _, Value.bool false]) _ _ _); k_dflt (
    refine' Con.useB ?cC ?cB ?cF ?cX ?cN ?cT ?cK ?cD ?cU ?_
    (case cB => k_asm); (case cF => k_asm); (case cX => k_asm); (case cN => k_asm); (case cT => k_asm); (case cK => first | exact rfl | assumption | with_unfolding_all rfl)
    (case cC => (refine' Con.dup (os := [_]) (mem1 ?m1) (con_plain_oct _ _ _ _ _ _ _ _ _ _ ?s1 ?s2 ?s3 ?s4 ?s5 ?s6 _); (case m1 => k_mem); (case s1 => first | assumption | omega); (case s2 => first | assumption | omega); (case s3 => first | assumption | omega); (case s4 => first | assumption | omega); (case s5 => first | assumption | omega); (case s6 => first | assumption | omega)))
    (case cD => ktr_room); (case cU => ktr_units)
    (intro b9 t9 h' tk' hO9 F' N'; (try dsimp only); (try k_fold))))
  k_with "con" => (k_here; (with_reducible show wpAny _ _ (call (Value.ref 156) [Value.ref _, Value.int _ _, Value.bool true]) _ _ _); k_dflt (
    refine' Con.useB ?cC ?cB ?cF ?cX ?cN ?cT ?cK ?cD ?cU ?_
    (case cB => k_asm); (case cF => k_asm); (case cX => k_asm); (case cN => k_asm); (case cT => k_asm); (case cK => first | exact rfl | assumption | with_unfolding_all rfl)
    (case cC => (refine' Con.dup (os := [_]) (mem1 ?m1) (con_plain_utf _ _ _ _ _ _ _ _ _ _ ?s1 ?s2 ?s3 ?s4 ?s5 ?s6 _); (case m1 => k_mem); (case s1 => first | assumption | omega); (case s2 => first | assumption | omega); (case s3 => first | assumption | omega); (case s4 => first | assumption | omega); (case s5 => first | assumption | omega); (case s6 => first | assumption | omega)))
    (case cD => ktr_room); (case cU => ktr_units)
    (intro b9 t9 h' tk' hO9 F' N'; (try dsimp only); (try k_fold))))
  k_with "con" => (k_here; (with_reducible show wpAny _ _ (call (Value.ref 161) [Value.ref _]) _ _ _); k_dflt (
    refine' Con.useB ?cC ?cB ?cF ?cX ?cN ?cT ?cK ?cD ?cU ?_
    (case cB => k_asm); (case cF => k_asm); (case cX => k_asm); (case cN => k_asm); (case cT => k_asm); (case cK => first | exact rfl | assumption | with_unfolding_all rfl)
    (case cC => (refine' Con.dup (os := [_]) (mem1 ?m1) (con_decimals _ _ _ _ _ _ _ _ _ ?s1 ?s2 ?s3 ?s4 ?s5 ?s6 _); (case m1 => k_mem); (case s1 => first | assumption | omega); (case s2 => first | assumption | omega); (case s3 => first | assumption | omega); (case s4 => first | assumption | omega); (case s5 => first | assumption | omega); (case s6 => first | assumption | omega)))
    (case cD => ktr_room); (case cU => ktr_units)
    (intro b9 t9 h' tk' hO9 F' N'; (try dsimp only); (try k_fold))))
  k_with "con" => (k_here; (with_reducible show wpAny _ _ (call (Value.ref 130) [Value.ref _, Value.bool _]) _ _ _); k_dflt (
    refine' Con.useV ?cC ?cB ?cF ?cX ?cN ?cT ?cK ?cD ?cU ?_
    (case cB => k_asm); (case cF => k_asm); (case cX => k_asm); (case cN => k_asm); (case cT => k_asm); (case cK => first | exact rfl | assumption | with_unfolding_all rfl)
    (case cC => (refine' Con.dup (os := [_, _]) (mem2 ?m1 ?m2) (con_number _ _ _ _ _ _ _ _ _ _ _ _ _ _ _ _ _ _  0 _ ?s1 ?s2 ?s3 ?s4 ?s5 _); (case m1 => k_mem); (case m2 => k_mem); (case s1 => first | assumption | omega); (case s2 => first | assumption | omega); (case s3 => first | assumption | omega); (case s4 => first | assumption | omega); (case s5 => first | assumption | omega)))
    (case cD => ktr_room); (case cU => ktr_units)
    (intro t9 h' tk' F' N'; (try dsimp only); (try k_fold))))
  k_with "con" => (k_here; (with_reducible show wpAny _ _ (call (Value.ref 169) [Value.ref _, Value.ref _]) _ _ _); k_dflt (
    refine' Con.useB ?cC ?cB ?cF ?cX ?cN ?cT ?cK ?cD ?cU ?_
    (case cB => k_asm); (case cF => k_asm); (case cX => k_asm); (case cN => k_asm); (case cT => k_asm); (case cK => first | exact rfl | assumption | with_unfolding_all rfl)
    (case cC => (refine' Con.dup (os := [_, _, _, _, _]) (mem5 ?m1 ?m2 ?m3 ?m4 ?m5) (con_oct _ _ _ _ _ _ _ _ _ _ _ _ _ _ _ _ _ _ _ _ _ _  _ _ _ _ ?s1 ?s2 ?s3 ?s4 ?s5 ?s6 ?s7 ?s8 ?s9 ?s10 ?s11 ?s12 _); (case m1 => k_mem); (case m2 => k_mem); (case m3 => k_mem); (case m4 => k_mem); (case m5 => k_mem); (case s1 => assumption); (case s2 => assumption); (case s3 => assumption); (case s4 => assumption); (case s5 => assumption); (case s6 => assumption); (case s7 => assumption); (case s8 => assumption); (case s9 => assumption); (case s10 => assumption); (case s11 => assumption); (case s12 => assumption)))
    (case cD => ktr_room); (case cU => ktr_units)
    (intro b9 t9 h' tk' hO9 F' N'; (try dsimp only); (try k_fold))))
  k_with "con" => (k_here; (with_reducible show wpAny _ _ (call (Value.ref 231) [Value.ref _]) _ _ _); k_dflt (
    refine' Con.useT ?cC ?cB ?cF ?cX ?cN ?cT ?cK ?cD ?cU ?_
    (case cB => k_asm); (case cF => k_asm); (case cX => k_asm); (case cN => k_asm); (case cT => k_asm); (case cK => first | exact rfl | assumption | with_unfolding_all rfl)
    (case cC => (refine' Con.dupT (os := [_]) (mem1 ?m1) (con_partsE _ _ _ _ _ _ _ _ _ _ _ _ _ _ _ _ ?s1 ?s2 ?s3 ?s4 ?s5 _); (case m1 => k_mem); (case s1 => first | assumption | omega); (case s2 => first | assumption | omega); (case s3 => first | assumption | omega); (case s4 => first | assumption | omega); (case s5 => first | assumption | omega)))
    (case cD => ktr_room); (case cU => ktr_units)
    (intro T9 t0 t1 t2 t3 t4 h' tk' l9 F' N'; (try k_lt l9); (try dsimp only); (try k_fold))))
  k_with "con" => (k_here; (with_reducible show wpAny _ _ (call (Value.ref 169) [Value.ref _, Value.ref _]) _ _ _); k_dflt (
    refine' Con.useB ?cC ?cB ?cF ?cX ?cN ?cT ?cK ?cD ?cU ?_
    (case cB => k_asm); (case cF => k_asm); (case cX => k_asm); (case cN => k_asm); (case cT => k_asm); (case cK => first | exact rfl | assumption | with_unfolding_all rfl)
    (case cC => (refine' Con.dup (os := [_, _, _, _, _]) (mem5 ?m1 ?m2 ?m3 ?m4 ?m5) (con_octP _ _ _ _ _ _ _ _ _ _ ?s1 ?evp ?mop ?s2 _); (case evp => assumption); (case mop => assumption); (case s1 => assumption); (case s2 => assumption); (case m1 => k_mem); (case m2 => k_mem); (case m3 => k_mem); (case m4 => k_mem); (case m5 => k_mem)))
    (case cD => ktr_room); (case cU => ktr_units)
    (intro b9 t9 h' tk' hO9 F' N'; (try dsimp only); (try k_fold))))
  k_with "walk1" => ((first | with_reducible show wpAny _ _ (exec _ _) _ _ _ | with_reducible show wpAny _ _ (isTrue _ _ _) _ _ _); k_fold)
  trivial
noncomputable def farOf (q d : Int) (e : Ev) : Ev := if q = 0 then ⟨Str.ofString "none", e.bt, e.r, e.c, e.md⟩ else if q = 1 then ⟨e.k, e.bt + 1 + d, e.r, e.c, e.md⟩ else if q = 2 then ⟨e.k, e.bt, e.r + 1 + d, e.c, e.md⟩ else if q = 3 then ⟨e.k, e.bt, e.r, e.c + 1 + d, e.md⟩ else if q = 4 then ⟨e.k, e.bt, e.r, e.c, e.md + 1 + d⟩ else e
theorem far_same {q d : Int} {e : Ev} (hd : 0 ≤ d) (hq0 : 0 ≤ q) (hq : q < 6) (hk : e.k ≠ Str.ofString "none") : sameB e (farOf q d e) = (q == 5) ∧ sameB (farOf q d e) e = (q == 5) := by
  have hn : ∀ x : Int, (x == x + 1 + d) = false ∧ (x + 1 + d == x) = false := fun x => ⟨beq_false_of_ne (by omega), beq_false_of_ne (by omega)⟩
  have hk1 : (e.k == Str.ofString "none") = false := by simpa using hk
  have hk2 : (Str.ofString "none" == e.k) = false := by simpa using fun h : Str.ofString "none" = e.k => hk h.symm
  have h6 : q = 0 ∨ q = 1 ∨ q = 2 ∨ q = 3 ∨ q = 4 ∨ q = 5 := by omega
  rcases h6 with rfl | rfl | rfl | rfl | rfl | rfl
  · simp [farOf, sameB, hk1, hk2]
  · simp [farOf, sameB, hn]
  · simp [farOf, sameB, hn]
  · simp [farOf, sameB, hn]
  · simp [farOf, sameB, hn]
  · simp [farOf, sameB]
noncomputable def FarPost (h₀ : Heap) (L : Addr) (m : Str → Option Value) (fl : Addr) (g : Ev) (rs : List (Addr × Obj)) (s : Shared) (f : Flow) (s' : Shared) : Prop :=
  f = .next ∧ ∃ h' tk u0 u1 u2 u3 u4 kk, s' = { s with heap := h', toks := tk } ∧ Fr h₀ L h' m ∧ News h₀ L h' ((fl, listOf #[.str g.k u0, .int g.bt u1, .int g.r u2, .int g.c u3, .int g.md u4] kk) :: rs)
theorem FarPost.intro {h₀ : Heap} {L : Addr} {m : Str → Option Value} {fl : Addr} {g : Ev} {rs nl : List (Addr × Obj)} {s : Shared} {h' : Heap} {tk : Nat} {u0 u1 u2 u3 u4 : Tok} {kk : Nat} (F : Fr h₀ L h' m) (N : News h₀ L h' nl) (hm : (fl, listOf #[.str g.k u0, .int g.bt u1, .int g.r u2, .int g.c u3, .int g.md u4] kk) ∈ nl) (hr : ∀ p ∈ rs, p ∈ nl) :
    FarPost h₀ L m fl g rs s .next { s with heap := h', toks := tk } := ⟨rfl, h', tk, u0, u1, u2, u3, u4, kk, rfl, F, cb_drop N (List.forall_mem_cons.mpr ⟨hm, hr⟩)⟩
theorem cut_far {M : Model} {A : Around} {h₀ : Heap} {L fl : Addr} {st : Stmt} {env : Env} {s : Shared} {m : Str → Option Value} {Q : Flow → Shared → Prop} {E : Value → Shared → Prop} {x1 : Addr × Obj} {o : Obj} {rs : List (Addr × Obj)} (g : Ev)
    (F : Fr h₀ L s.heap m) (_N : News h₀ L s.heap (x1 :: (fl, o) :: rs))
    (walk : Hold (wpAny M A (exec st env) (FarPost h₀ L m fl g rs s) E s))
    (rest : Hold (∀ h' tk u0 u1 u2 u3 u4 kk, Fr h₀ L h' m → News h₀ L h' ((fl, listOf #[.str g.k u0, .int g.bt u1, .int g.r u2, .int g.c u3, .int g.md u4] kk) :: rs) → Q .next { s with heap := h', toks := tk })) : wpAny M A (exec st env) Q E s := by
  refine wpAny_mono walk (fun f s' hc => ?_) fun _ _ x => x
  obtain ⟨hf, h', tk, u0, u1, u2, u3, u4, kk, hs, F', N'⟩ := hc
  subst hf hs
  exact rest h' tk u0 u1 u2 u3 u4 kk F' N'
theorem same_self (e : Ev) : sameB e e = true := by simp [sameB]
theorem ne_same {prog : Program} {w : World} {A : Around} {E : Value → Shared → Prop} {s : Shared} {Q : Value → Shared → Prop} {b : Bool} (h : Q (.bool false) s) : wpAny (model prog w) A (compareOp .NotEq (.bool b) (.bool b)) Q E s :=
  ne_bool (by rw [bne_self_eq_false]; exact h)
theorem eq_tup5 {prog : Program} {w : World} {A : Around} {E : Value → Shared → Prop} {s : Shared} {Q : Value → Shared → Prop} {h₀ : Heap} {L : Addr} {news : List (Addr × Obj)} {T T' : Addr} {k : Str} {bt r c md : Int} {a0 a1 a2 a3 a4 b0 b1 b2 b3 b4 : Tok} {n n' : Nat} (N : News h₀ L s.heap news)
    (h1 : (T, ({ cls := .type "tuple", data := .seq #[.str k a0, .int bt a1, .int r a2, .int c a3, .int md a4] n } : Obj)) ∈ news) (h2 : (T', ({ cls := .type "tuple", data := .seq #[.str k b0, .int bt b1, .int r b2, .int c b3, .int md b4] n' } : Obj)) ∈ news) (hu : A.units + 64 < cLine)
    (h : Q (.bool true) s) : wpAny (model prog w) A (compareOp .Eq (.ref T) (.ref T')) Q E s := by
  have g1 : s.heap.IsTuple T #[.str k a0, .int bt a1, .int r a2, .int c a3, .int md a4] := ⟨_, N.get h1, rfl, _, rfl⟩
  have g2 : s.heap.IsTuple T' #[.str k b0, .int bt b1, .int r b2, .int c b3, .int md b4] := ⟨_, N.get h2, rfl, _, rfl⟩
  exact SeqAt.eq_tupleAt (e := fun _ => true) g1 g2 (by omega) (fun j h1 h2 => by
    have hj : j = 0 ∨ j = 1 ∨ j = 2 ∨ j = 3 ∨ j = 4 := by simp at h1; omega
    rcases hj with rfl | rfl | rfl | rfl | rfl
    · exact eqAt_str _ _ _
    · exact eqAt_int _ _ _
    · exact eqAt_int _ _ _
    · exact eqAt_int _ _ _
    · exact eqAt_int _ _ _) h
theorem own_likes_1 : True := by
  k_with "compareOp NotEq bool bool" => refine ne_same ?_
  k_with "compareOp Eq ref ref" => (k_here; k_dflt (refine eq_tup5 (by k_asm) (by k_mem) (by k_mem) (by ke_room) ?_))
  k_with "subscriptTail Name Constant ref int" => (k_here; (with_reducible show wpAny _ _ (subscriptTail _ _ (Value.ref _) (Value.int _ _)) _ _ _); (with_unfolding_all refine' item_litK ?k1 ?k2 ?k3 ?k4 ?_ ?k6; (case k1 => is_list); (case k2 => decide); (case k3 => decide); (case k4 => rfl); (case k6 => with_unfolding_all rfl); k_whole))
  trivial
set_option maxRecDepth 100000 in
set_option maxHeartbeats 8000000 in
theorem con_likes (w : World) (l : Addr) (a9 b9 c9 e9 : Int) (t1 t2 t3 t4 : Tok) (kk : Nat) (h0 : 0 ≤ a9) (h1 : 0 ≤ b9) (h2 : 0 ≤ c9) (h3 : 0 ≤ e9) (news) :
   Con w 40 273 [.ref l] ((l, listOf #[.int a9 t1, .int b9 t2, .int c9 t3, .int e9 t4] kk) :: news) (ValR fun _ => .bool true) := by
  unfold Con
  intro p loose mean mg mb dp un gd cn cs a ccd cl outer A₀ base h₀ L m s Q E B F X N T hk hd hu hret
  obtain ⟨sh, sg, sd, st', so⟩ := s
  have hev := evOk_of (b := b9) (c := c9) (e := e9) h0
  rcases he : evOfCells a9 b9 c9 e9 with ⟨k0, bt0, r0, c0, md0⟩
  rw [he] at hev
  refine wpAny_call ?_
  k_dflt cell_enter
  k_with "exec If Compare cons nil" => (k_here; (rename CutMark 1 => hM; clear hM); k_dflt (refine cut_far (farOf ((a9.fdiv 9).fmod 6) ((b9.fdiv 9).fmod 3) ⟨k0, bt0, r0, c0, md0⟩) (by k_asm) (by k_asm) ?_ ?_))
  have hM : CutMark 1 := rfl
  k_steps
  · unfold Hold
    have hd0 : 0 ≤ (b9.fdiv 9).fmod 3 ∧ (b9.fdiv 9).fmod 3 < 3 := by rw [fmodP (by decide)]; omega
    have hq0 : 0 ≤ (a9.fdiv 9).fmod 6 ∧ (a9.fdiv 9).fmod 6 < 6 := by rw [fmodP (by decide)]; omega
    generalize (a9.fdiv 9).fmod 6 = q6 at *
    have h6 : q6 = 0 ∨ q6 = 1 ∨ q6 = 2 ∨ q6 = 3 ∨ q6 = 4 ∨ q6 = 5 := by omega
    rcases h6 with rfl | rfl | rfl | rfl | rfl | rfl
    all_goals k_steps
    all_goals simp only [farOf, if_true, if_false, Int.reduceEq, reduceIte]
    all_goals exact FarPost.intro (by assumption) (by assumption) (.tail _ (.head _)) (fun _ h => .tail _ (.tail _ h))
  · unfold Hold
    intro h' tk u0 u1 u2 u3 u4 k2 F2 N2
    have hd0 : 0 ≤ (b9.fdiv 9).fmod 3 := by rw [fmodP (by decide)]; omega
    have hq0 : 0 ≤ (a9.fdiv 9).fmod 6 ∧ (a9.fdiv 9).fmod 6 < 6 := by rw [fmodP (by decide)]; omega
    have hk9 : (⟨k0, bt0, r0, c0, md0⟩ : Ev).k ≠ Str.ofString "none" := by rcases hev.kk with h | h | h <;> rw [h] <;> decide
    obtain ⟨hs1, hs2⟩ := far_same hd0 hq0.1 hq0.2 hk9
    have hs3 := same_self ⟨k0, bt0, r0, c0, md0⟩
    generalize farOf ((a9.fdiv 9).fmod 6) ((b9.fdiv 9).fmod 3) ⟨k0, bt0, r0, c0, md0⟩ = g9 at *
    obtain ⟨k2, bt2, r2, c2, md2⟩ := g9
    dsimp only at N2
    k_steps
    refine hret _ [] _ _ (by assumption) (cb_drop (by assumption) ?_) (ValR.mk (t := 0) rfl)
    exact fun q hq => by repeat' (first | exact hq | refine List.Mem.tail _ ?_)


-- law
theorem rows_law : True := by
  w_top off
  k_with_none
  k_with "kba_ints2" => first | kba_ints | (apply ints_lit; (simp only [List.map_cons, List.map_nil, UInt8.reduceToNat, Int.cast_ofNat_Int]); (try exact rfl))
  k_with "compareOp Eq bytes bytes" => (k_here; (with_reducible show wpAny _ _ (compareOp CmpOp.Eq (Value.bytes _ _) (Value.bytes _ _)) _ _ _); (first | refine eq_ints_T (by kba_ints2) (by kba_ints2) (by assumption) ?_ | refine eq_ints_F (by kba_ints2) (by kba_ints2) (by assumption) ?_ | refine eq_ints (by kba_ints2) (by kba_ints2) ?_))
  k_with "compareOp NotEq bytes bytes" => (k_here; (with_reducible show wpAny _ _ (compareOp CmpOp.NotEq (Value.bytes _ _) (Value.bytes _ _)) _ _ _); (refine ne_ints (by kba_ints2) (by kba_ints2) ?_))
  k_with "compareOp NotIn bytes ref" => (k_here; (with_reducible show wpAny _ _ (compareOp CmpOp.NotIn (Value.bytes _ _) (Value.ref _)) _ _ _); (refine notIn_two (by k_asm) (by k_mem) (by kba_ints2) (by kba_ints2) (by kba_ints2) ?_))
  k_with "subscriptTail" => (k_here; (with_reducible show wpAny _ _ (subscriptTail _ (Expr.Slice _ _ none _) (Value.bytes _ _) (Value.ref _)) _ _ _); (with_reducible rename Fr _ _ _ _ => F'); (with_reducible rename News _ _ _ _ => N'); (refine slice_C (s := ⟨_, _, _, _, _⟩) F' N' (by kba_ints2) (by constructor) (by constructor) (by kba_size) (by intro i hi; simp at hi; try (subst hi; omega)) (by intro i hi; simp at hi; try (subst hi; omega)) (by first | exact cut_z3 | exact cut_z2 | exact cut_z | exact cut_mid3 (by omega) | exact cut_mid2 (by omega) | exact cut_lit3 | exact cut_lit2 | exact cut_lit3' | exact cut_lit2' | exact cut_two | exact cut_tail | exact cut_head') ?_); intro _ _ _ _ _ _ kbcK; (try simp only [Int.toNat_zero, Int.toNat_ofNat, List.drop_zero] at kbcK))
  k_with "ktr_room" => first | exact room9 (by assumption) rfl | exact Nat.lt_of_le_of_lt (Nat.le_add_right _ _) (by assumption)
  k_with "ktr_units" => exact units9 (by assumption) rfl
  k_with "getMethod bytes" => (k_here; first | refine meth_starts ?_ | refine meth_split ?_ | refine meth_join ?_)
  k_with "call builtin:bytes.startswith" => (k_here; first | refine call_starts_T (by kba_ints2) (by kba_ints2) (by assumption) ?_ | refine call_starts_F (by kba_ints2) (by kba_ints2) (by assumption) ?_ | refine call_starts_I (by kba_ints2) (by kba_ints2) ?_)
  k_with "CompEnd" => (refine LCg.CompEnd.intro (by assumption) (by assumption) _ (fun _ h => h) (by assumption) (by exact Or.inr ⟨_, by k_mem, rfl, _, rfl⟩) ?_)
  k_with "call type:bytes" => (k_here; (with_reducible show wpAny _ _ (call (Value.type "bytes") [Value.ref _]) _ _ _); (refine' KBa.make_K ?kbaF ?kbaN ?kbah ?kbal ?kbai ?kbar ?kban ?_; (case kbaF => k_asm); (case kbaN => k_asm); (case kbah => rfl); (case kbal => kba_isList); (case kbai => kba_listInts); (case kbar => (repeat' (first | exact List.forall_mem_nil _ | (refine List.forall_mem_cons.mpr ⟨⟨?_, ?_⟩, ?_⟩) | omega | (simp only [fd10, fm10]; omega)))); (case kban => kba_size)); intro _ _ _ F' N' kbaIn; (have kbaM := KBa.ints_make kbaIn))
  k_with "cell_enter" => (refine' code_defC ?k1 ?k2 ?k3 ?k4 ?k5 ?kA ?kF ?kK ?k6 ?k7 ?k8 ?k9 ?kB ?kD ?_ ?c2 ?c3 ?c4; (case kA => exact rfl); (case kF => exact rfl); (case kK => first | exact rfl | assumption); (case k1 => k_asm); (case k2 => k_asm); (case k3 => k_asm); (case k4 => k_asm); (case k5 => k_asm); (case k6 => k_is); (case k7 => k_is); (case k8 => ktr_room); (case k9 => first | exact BindsTo.of_eq rfl | exact binds_K (by k_in) rfl (by k_is) rfl rfl rfl); (case kB => exact rfl); (case kD => decide +kernel); (case c2 => exact rfl); (case c3 => exact rfl); (case c4 => exact rfl); k_whole; intro g' L' h' tk' cells' FG' F' N' Y' B' X' T' l1; (try k_lt l1); k_cells Y'; (try simp only [List.cons_append, List.nil_append] at N'); (try dsimp only); (try k_lift B'); (try k_fold))
  k_with "call builtin:bytes.join" => (k_here; refine call_join_I (by k_asm) (by k_mem) rfl rfl (by kba_ints2) (by kba_ints2) (by kba_ints2) (by kba_ints2) (by first | assumption | decide) (by first | assumption | decide) (by first | assumption | decide) (by first | assumption | decide) ?_; intro _ _ _ kbJ; (try simp only [List.append_nil] at kbJ))
  k_with "units_room" => exact room_deep (by omega)
  k_with "cell_enter" => (refine' code_def ?k1 ?k2 ?k3 ?k4 ?k5 ?kA ?kF ?kK ?k6 ?k7 ?k8 ?k9 ?kB ?_ ?c2 ?c3 ?c4 ?c5; (case kA => exact rfl); (case kF => exact rfl); (case kK => first | exact rfl | assumption); (case k1 => k_asm); (case k2 => k_asm); (case k3 => k_asm); (case k4 => k_asm); (case k5 => k_asm); (case k6 => k_is); (case k7 => k_is); (case k8 => ktr_room); (case k9 => exact binds_K (by k_in) rfl (by k_is) rfl rfl rfl); (case c5 => decide); (case kB => exact locs rfl); (case c2 => exact rfl); (case c3 => exact rfl); (case c4 => exact rfl); k_whole; intro g' L' h' FG' F' N' B' X' T'; (try dsimp only); (try k_fold))
  k_with "con" => (k_here; (with_reducible show wpAny _ _ (call (Value.ref 59) [Value.ref _, Value.str _ _]) _ _ _); k_dflt (
    refine' Con.useV ?cC ?cB ?cF ?cX ?cN ?cT ?cK ?cD ?cU ?_
    (case cB => k_asm); (case cF => k_asm); (case cX => k_asm); (case cN => k_asm); (case cT => k_asm); (case cK => first | exact rfl | assumption | with_unfolding_all rfl)
    (case cC => (refine' Con.dup (os := [_, _, _]) (mem3 ?m1 ?m2 ?m3) (con_is_on _ _ _ _ _ _ _ _ _ _ _ _ ?s1 ?s2 ?s3 _); (case m1 => k_mem); (case m2 => k_mem); (case m3 => k_mem); (case s1 => assumption); (case s2 => assumption); (case s3 => assumption)))
    (case cD => ktr_room); (case cU => ktr_units)
    (intro t9 h' tk' F' N'; (try dsimp only); (try k_fold))))
  k_with "con" => (k_here; (with_reducible show wpAny _ _ (call (Value.ref 38) [Value.str (Str.ofString "mouse_all") _]) _ _ _); k_dflt (
    refine Con.useV (con_group_all _ _ _) (by k_asm) (by k_asm) (by k_asm) (by k_asm) (by k_asm) (by first | exact rfl | assumption) (by ktr_room) (by ktr_units) ?_
    (intro t9 h' tk' F' N'; (try dsimp only); (try k_fold))))
  k_with "con" => (k_here; (with_reducible show wpAny _ _ (call (Value.ref 38) [Value.str _ _]) _ _ _); k_dflt (
    refine Con.useV (con_group_way _ _ (by assumption) _ _) (by k_asm) (by k_asm) (by k_asm) (by k_asm) (by k_asm) (by first | exact rfl | assumption) (by ktr_room) (by ktr_units) ?_
    (intro t9 h' tk' F' N'; (try dsimp only); (try k_fold))))
  k_with "con" => (k_here; (with_reducible show wpAny _ _ (call (Value.ref 80) [Value.ref _]) _ _ _); k_dflt (
    refine' Con.useV ?cC ?cB ?cF ?cX ?cN ?cT ?cK ?cD ?cU ?_
    (case cB => k_asm); (case cF => k_asm); (case cX => k_asm); (case cN => k_asm); (case cT => k_asm); (case cK => first | exact rfl | assumption | with_unfolding_all rfl)
    (case cC => (refine' Con.dup (os := [_, _, _]) (mem3 ?m1 ?m2 ?m3) (con_modeW _ _ _ _ _ _ _ _ _ ?s1 _); (case m1 => k_mem); (case m2 => k_mem); (case m3 => k_mem); (case s1 => assumption)))
    (case cD => ktr_room); (case cU => ktr_units)
    (intro t9 h' tk' F' N'; (try dsimp only); (try k_fold))))
  k_with "con" => (k_here; (with_reducible show wpAny _ _ (call (Value.ref 87) [Value.ref _]) _ _ _); k_dflt (
    refine' Con.useV ?cC ?cB ?cF ?cX ?cN ?cT ?cK ?cD ?cU ?_
    (case cB => k_asm); (case cF => k_asm); (case cX => k_asm); (case cN => k_asm); (case cT => k_asm); (case cK => first | exact rfl | assumption | with_unfolding_all rfl)
    (case cC => (refine' Con.dup (os := [_, _, _]) (mem3 ?m1 ?m2 ?m3) (con_encW _ _ _ _ _ _ _ _ _ ?s1 _); (case m1 => k_mem); (case m2 => k_mem); (case m3 => k_mem); (case s1 => assumption)))
    (case cD => ktr_room); (case cU => ktr_units)
    (intro t9 h' tk' F' N'; (try dsimp only [wayV0, wayV1, wayV2, wayV3]); (try k_fold))))
  k_with "con" => (k_here; (with_reducible show wpAny _ _ (call (Value.ref 69) ([] ++ [])) _ _ _); k_dflt (
    refine Con.useM (con_modes _ _) (by k_asm) (by k_asm) (by k_asm) (by k_asm) (by k_asm) (by first | exact rfl | assumption) (by ktr_room) (by ktr_units) ?_
    (intro mo9 me9 st9 kp9 v20 v21 o9 D9 h' tk' lo9 g1 g2 l9 l8 hd9 hf9 hD9 F' N'; (try k_lt l9); (try k_lt l8); (try dsimp only); (try k_fold))))
  k_with "con" => (k_here; (with_reducible show wpAny _ _ (call (Value.ref 183) [Value.bytes _ _, Value.int _ _, Value.bool _]) _ _ _); k_dflt (
    refine Con.useP (con_code_at _ _ _ _ _ _ _ (by kba_ints2) (by first | assumption | omega | (simp; omega)) (by first | assumption | omega | (simp; omega)) _) (by k_asm) (by k_asm) (by k_asm) (by k_asm) (by k_asm) (by first | exact rfl | assumption) (by ktr_room) (by ktr_units) ?_ ?_
    (rotate_left; (intro v9 n9 D9 t9 t8 h' tk' hO9 l9 F' N'; (try k_lt l9); (try have f9 := code8_bd (by assumption) (by first | assumption | omega) hO9); (try dsimp only); (try k_fold)); rotate_left; (intro hO9 h' tk' F' N'; (try dsimp only); (try k_fold)))))
  k_with "con" => (k_here; (with_reducible show wpAny _ _ (call (Value.ref 137) [Value.int _ _]) _ _ _); k_dflt (
    refine Con.useI (con_button _ _ _ (by first | assumption | omega | (simp; omega)) (by first | assumption | omega | (simp; omega)) _) (by k_asm) (by k_asm) (by k_asm) (by k_asm) (by k_asm) (by first | exact rfl | assumption) (by ktr_room) (by ktr_units) ?_ ?_
    (rotate_left; (intro v9 t9 h' tk' hO9 F' N'; (try dsimp only); (try k_fold)); rotate_left; (intro hO9 h' tk' F' N'; (try dsimp only); (try k_fold)))))
  k_with "con" => (k_here; (with_reducible show wpAny _ _ (call (Value.ref 105) [Value.str _ _, Value.int _ _, Value.int _ _, Value.int _ _, Value.int _ _]) _ _ _); k_dflt (
    refine Con.useE (con_ev _ _ _ _ _ _ _ _ _ _ _ _) (by k_asm) (by k_asm) (by k_asm) (by k_asm) (by k_asm) (by first | exact rfl | assumption) (by ktr_room) (by ktr_units) (fun e9 => nomatch e9) ?_
    (intro k9 bt9 r9 c9 md9 x9 d9 t0 t1 t2 t3 t4 t5 t6 t7 t8 t9 h' tk' hO9 l9 l8 F' N'; cases hO9; (try k_lt l9); (try k_lt2 l8); (try dsimp only); (try k_fold))))
  k_with "con" => (k_here; (with_reducible show wpAny _ _ (call (Value.ref 176) [Value.int _ _, Value.int _ _, Value.int _ _, Value.none, Value.int _ _, Value.int _ _]) _ _ _); k_dflt (
    refine Con.useE (con_event_of _ _ _ (by first | assumption | omega | (simp; omega)) (by first | assumption | omega | (simp; omega)) _ _ _ _ _ _ _) (by k_asm) (by k_asm) (by k_asm) (by k_asm) (by k_asm) (by first | exact rfl | assumption) (by ktr_room) (by ktr_units) ?_ ?_
    (rotate_left; (intro k9 bt9 r9 c9 md9 x9 d9 t0 t1 t2 t3 t4 t5 t6 t7 t8 t9 h' tk' hO9 l9 l8 F' N'; (try k_lt l9); (try k_lt2 l8); (try dsimp only); (try k_fold)); rotate_left; (intro hO9 h' tk' F' N'; (try dsimp only); (try k_fold)))))
  k_with "con" => (k_here; (with_reducible show wpAny _ _ (call (Value.ref 176) [Value.int _ _, Value.int _ _, Value.int _ _, Value.bool _, Value.int _ _, Value.int _ _]) _ _ _); k_dflt (
    refine Con.useE (con_event_ofB _ _ _ (by first | assumption | omega | (simp; omega)) (by first | assumption | omega | (simp; omega)) _ _ _ _ _ _ _ _) (by k_asm) (by k_asm) (by k_asm) (by k_asm) (by k_asm) (by first | exact rfl | assumption) (by ktr_room) (by ktr_units) ?_ ?_
    (rotate_left; (intro k9 bt9 r9 c9 md9 x9 d9 t0 t1 t2 t3 t4 t5 t6 t7 t8 t9 h' tk' hO9 l9 l8 F' N'; (try k_lt l9); (try k_lt2 l8); (try dsimp only); (try k_fold)); rotate_left; (intro hO9 h' tk' F' N'; (try dsimp only); (try k_fold)))))
  k_with "con" => (k_here; (with_reducible show wpAny _ _ (call (Value.ref 190) [Value.bytes _ _, Value.int _ _, Value.bool _]) _ _ _); k_dflt (
    refine Con.useF (con_read_plain _ _ _ _ _ _ _ (by kba_ints2) (by first | assumption | omega | (simp; omega)) (by first | assumption | omega | (simp; omega)) _) (by k_asm) (by k_asm) (by k_asm) (by k_asm) (by k_asm) (by first | exact rfl | assumption) (by ktr_room) (by ktr_units) ?_ ?_
    (rotate_left; (intro k9 bt9 r9 c9 md9 n9 D9 x9 d9 t9 t0 t1 t2 t3 t4 t5 t6 t7 t8 t9 h' tk' hO9 l9 l8 l7 F' N'; (try k_lt l9); (try k_lt2 l8); (try k_lt2 l7); (try dsimp only); (try k_fold)); rotate_left; (intro hO9 h' tk' F' N'; (try dsimp only); (try k_fold)))))
  k_with "con" => (k_here; (with_reducible show wpAny _ _ (call (Value.ref 28) [Value.bytes _ _]) _ _ _); k_dflt (
    refine Con.useI (con_number_of _ _ _ _ (by kba_ints2) (by first | assumption | omega | (simp; omega)) _) (by k_asm) (by k_asm) (by k_asm) (by k_asm) (by k_asm) (by first | exact rfl | assumption) (by ktr_room) (by ktr_units) ?_ ?_
    (rotate_left; (intro v9 t9 h' tk' hO9 F' N'; (try dsimp only); (try k_fold)); rotate_left; (intro hO9 h' tk' F' N'; (try dsimp only); (try k_fold)))))
  k_with "con" => (k_here; (with_reducible show wpAny _ _ (call (Value.ref 28) [Value.bytes _ _]) _ _ _); k_dflt (
    refine Con.useIs (con_number_of _ _ _ _ (by kba_ints2) (by first | assumption | omega | (simp; omega)) _) (by assumption) (by k_asm) (by k_asm) (by k_asm) (by k_asm) (by k_asm) (by first | exact rfl | assumption) (by ktr_room) (by ktr_units) ?_
    (intro t9 h' tk' F' N'; (try dsimp only); (try k_fold))))
  k_with "con" => (k_here; (with_reducible show wpAny _ _ (call (Value.ref 216) [Value.bytes _ _]) _ _ _); k_dflt (
    refine Con.useV (con_are_dec _ _ _ _ (by kba_ints2) (by first | assumption | omega | (simp; omega)) _) (by k_asm) (by k_asm) (by k_asm) (by k_asm) (by k_asm) (by first | exact rfl | assumption) (by ktr_room) (by ktr_units) ?_
    (intro t9 h' tk' F' N'; (try dsimp only); (try k_fold))))
  k_with "con" => (k_here; (with_reducible show wpAny _ _ (call (Value.ref 195) [Value.bytes _ _, Value.int _ _]) _ _ _); k_dflt (
    refine Con.useD (con_dec_at _ _ _ _ _ _ (by kba_ints2) (by first | assumption | omega | (simp; omega)) (by first | assumption | omega | (simp; omega)) (by first | assumption | omega | (simp; omega)) (by assumption) _) (by k_asm) (by k_asm) (by k_asm) (by k_asm) (by k_asm) (by first | exact rfl | assumption) (by ktr_room) (by ktr_units) ?_ ?_
    (rotate_left; (intro a9 b9 c9 t9 n9 T9 D9 t0 t1 t2 t3 t4 k9 h' tk' hO9 l9 l8 F' N'; (try k_lt l9); (try k_lt2 l8); (try have f9 := decAt_bd (by assumption) hO9); (try dsimp only); (try k_fold)); rotate_left; (intro hO9 h' tk' F' N'; (try dsimp only); (try k_fold)))))
  k_with "con" => (k_here; (with_reducible show wpAny _ _ (call (Value.ref 203) [Value.bytes _ _, Value.int _ _, Value.bool _]) _ _ _); k_dflt (
    refine Con.useFs (con_read_mouse _ _ _ _ _ _ (by kba_ints2) (by assumption) _) (by assumption) (by k_asm) (by k_asm) (by k_asm) (by k_asm) (by k_asm) (by first | exact rfl | assumption) (by ktr_room) (by ktr_units) ?_
    (intro D9 x9 d9 t9 t0 t1 t2 t3 t4 t5 t6 t7 t8 t8' h' tk' l9 l8 l7 F' N'; (try k_lt l9); (try k_lt2 l8); (try k_lt2 l7); (try dsimp only); (try k_fold))))
  k_with "con" => (k_here; (with_reducible show wpAny _ _ (call (Value.ref 203) [Value.bytes _ _, Value.int _ _, Value.bool _]) _ _ _); k_dflt (
    refine Con.useFn (con_read_mouse _ _ _ _ _ _ (by kba_ints2) (by assumption) _) (by assumption) (by k_asm) (by k_asm) (by k_asm) (by k_asm) (by k_asm) (by first | exact rfl | assumption) (by ktr_room) (by ktr_units) ?_
    (intro h' tk' F' N'; (try dsimp only); (try k_fold))))
  k_with "con" => (k_here; (with_reducible show wpAny _ _ (call (Value.ref 224) [Value.bytes _ _]) _ _ _); k_dflt (
    refine Con.useKs (con_read_focus _ _ _ _ (by kba_ints2) (by first | assumption | omega | (simp; omega)) _) (by assumption) (by k_asm) (by k_asm) (by k_asm) (by k_asm) (by k_asm) (by first | exact rfl | assumption) (by ktr_room) (by ktr_units) ?_
    (intro D9 t9 h' tk' l9 F' N'; (try k_lt l9); (try dsimp only); (try k_fold))))
  k_with "con" => (k_here; (with_reducible show wpAny _ _ (call (Value.ref 224) [Value.bytes _ _]) _ _ _); k_dflt (
    refine Con.useKn (con_read_focus _ _ _ _ (by kba_ints2) (by first | assumption | omega | (simp; omega)) _) (by assumption) (by k_asm) (by k_asm) (by k_asm) (by k_asm) (by k_asm) (by first | exact rfl | assumption) (by ktr_room) (by ktr_units) ?_
    (intro h' tk' F' N'; (try dsimp only); (try k_fold))))
  k_with "con" => (k_here; (with_reducible show wpAny _ _ (call (Value.ref 224) [Value.bytes _ _, Value.int _ _]) _ _ _); k_dflt (
    refine Con.useKs (con_read_focusAt _ _ _ _ _ _ (by kba_ints2) (by first | assumption | omega | (simp; omega)) (by first | assumption | omega | (simp; omega)) (by first | assumption | omega | (simp; omega)) _) (by assumption) (by k_asm) (by k_asm) (by k_asm) (by k_asm) (by k_asm) (by first | exact rfl | assumption) (by ktr_room) (by ktr_units) ?_
    (intro D9 t9 h' tk' l9 F' N'; (try k_lt l9); (try dsimp only); (try k_fold))))
  k_with "con" => (k_here; (with_reducible show wpAny _ _ (call (Value.ref 224) [Value.bytes _ _, Value.int _ _]) _ _ _); k_dflt (
    refine Con.useKn (con_read_focusAt _ _ _ _ _ _ (by kba_ints2) (by first | assumption | omega | (simp; omega)) (by first | assumption | omega | (simp; omega)) (by first | assumption | omega | (simp; omega)) _) (by assumption) (by k_asm) (by k_asm) (by k_asm) (by k_asm) (by k_asm) (by first | exact rfl | assumption) (by ktr_room) (by ktr_units) ?_
    (intro h' tk' F' N'; (try dsimp only); (try k_fold))))
  k_with "con" => (k_here; (with_reducible show wpAny _ _ (call (Value.ref 211) [Value.bytes _ _, Value.int _ _, Value.bool _]) _ _ _); k_dflt (
    refine Con.useVb (con_is_begun _ _ _ _ _ _ _ (by kba_ints2) (by first | assumption | omega | (simp; omega)) (by first | assumption | omega | (simp; omega)) _) (by assumption) (by k_asm) (by k_asm) (by k_asm) (by k_asm) (by k_asm) (by first | exact rfl | assumption) (by ktr_room) (by ktr_units) ?_
    (intro h' tk' F' N'; (try dsimp only); (try k_fold))))
  k_with "con" => (k_here; (with_reducible show wpAny _ _ (call (Value.ref 211) [Value.bytes _ _]) _ _ _); k_dflt (
    refine Con.useVb (con_is_begun0 _ _ _ _ (by kba_ints2) (by first | assumption | omega | (simp; omega)) _) (by assumption) (by k_asm) (by k_asm) (by k_asm) (by k_asm) (by k_asm) (by first | exact rfl | assumption) (by ktr_room) (by ktr_units) ?_
    (intro h' tk' F' N'; (try dsimp only); (try k_fold))))
  k_with "con" => (k_here; (with_reducible show wpAny _ _ (call (Value.ref 238) [Value.ref _]) _ _ _); k_dflt (
    refine' Con.useE ?cC ?cB ?cF ?cX ?cN ?cT ?cK ?cD ?cU ?cZ ?_
    (case cB => k_asm); (case cF => k_asm); (case cX => k_asm); (case cN => k_asm); (case cT => k_asm); (case cK => first | exact rfl | assumption | with_unfolding_all rfl)
    (case cC => (refine' Con.dupE (os := [_]) (mem1 ?m1) (con_lev _ _ _ _ _ _ _ _ _ _ _ _ _); (case m1 => k_mem); skip))
    (case cD => ktr_room); (case cU => ktr_units)
    (case cZ => exact fun e9 => nomatch e9)
    (intro k9 bt9 r9 c9 md9 x9 d9 t0 t1 t2 t3 t4 t5 t6 t7 t8 t9 h' tk' hO9 l9 l8 F' N'; cases hO9; (try k_lt l9); (try k_lt2 l8); (try dsimp only); (try k_fold))))
  k_with "con" => (k_here; (with_reducible show wpAny _ _ (call (Value.ref 245) [Value.ref _]) _ _ _); k_dflt (
    refine' Con.useT ?cC ?cB ?cF ?cX ?cN ?cT ?cK ?cD ?cU ?_
    (case cB => k_asm); (case cF => k_asm); (case cX => k_asm); (case cN => k_asm); (case cT => k_asm); (case cK => first | exact rfl | assumption | with_unfolding_all rfl)
    (case cC => (refine' Con.dupT (os := [_, _]) (mem2 ?m1 ?m2) (con_ltold _ _ _ _ _ _ _ _ _ _ _ _ _ _ _ _ _ _  _); (case m1 => k_mem); (case m2 => k_mem); skip))
    (case cD => ktr_room); (case cU => ktr_units)
    (intro T9 t0 t1 t2 t3 t4 h' tk' l9 F' N'; (try k_lt l9); (try dsimp only); (try k_fold))))
  k_with "con" => (k_here; (with_reducible show wpAny _ _ (call (Value.ref 116) [Value.ref _, Value.ref _]) _ _ _); k_dflt (
    refine' Con.useV ?cC ?cB ?cF ?cX ?cN ?cT ?cK ?cD ?cU ?_
    (case cB => k_asm); (case cF => k_asm); (case cX => k_asm); (case cN => k_asm); (case cT => k_asm); (case cK => first | exact rfl | assumption | with_unfolding_all rfl)
    (case cC => (refine' Con.dup (os := [_, _, _, _]) (mem4 ?m1 ?m2 ?m3 ?m4) (con_same _ _ _ _ _ _ _ _ _ _ _ _ _ _ _ _ _ _ _ _ _ _ _ _ _  _ _ _ _ _ _ _ _ _ _  _); (case m1 => k_mem); (case m2 => k_mem); (case m3 => k_mem); (case m4 => k_mem); skip))
    (case cD => ktr_room); (case cU => ktr_units)
    (intro t9 h' tk' F' N'; (try dsimp only); (try k_fold))))
  k_with "con" => (k_here; (with_reducible show wpAny _ _ (call (Value.ref 238) [Value.ref _]) _ _ _); k_dflt (
    refine' Con.useEo ?cC ?cB ?cF ?cX ?cN ?cT ?cK ?cD ?cU ?_
    (case cB => k_asm); (case cF => k_asm); (case cX => k_asm); (case cN => k_asm); (case cT => k_asm); (case cK => first | exact rfl | assumption | with_unfolding_all rfl)
    (case cC => (refine' Con.dupE (os := [_]) (mem1 ?m1) (con_levL _ _ _ _ _ _ _ _ _ _ _ _ _ _); (case m1 => k_mem)))
    (case cD => ktr_room); (case cU => ktr_units)
    (intro x9 p91 p92 h' tk' hP9 l9 l8 F' N'; (try k_lt l9); (try dsimp only); (try k_fold))))
  k_with "con" => (k_here; (with_reducible show wpAny _ _ (call (Value.ref 238) [Value.ref _]) _ _ _); k_dflt (
    refine' Con.useEo ?cC ?cB ?cF ?cX ?cN ?cT ?cK ?cD ?cU ?_
    (case cB => k_asm); (case cF => k_asm); (case cX => k_asm); (case cN => k_asm); (case cT => k_asm); (case cK => first | exact rfl | assumption | with_unfolding_all rfl)
    (case cC => (refine' Con.dupE (os := [_]) (mem1 ?m1) (con_lev _ _ _ _ _ _ _ _ _ _ _ _ _); (case m1 => k_mem)))
    (case cD => ktr_room); (case cU => ktr_units)
    (intro x9 p91 p92 h' tk' hP9 l9 l8 F' N'; (try k_lt l9); (try dsimp only); (try k_fold))))
  k_with "con" => (k_here; (with_reducible show wpAny _ _ (call (Value.ref 116) [Value.ref _, Value.ref _]) _ _ _); k_dflt (
    refine' Con.useVb ?cC ?hv ?cB ?cF ?cX ?cN ?cT ?cK ?cD ?cU ?_
    (case cB => k_asm); (case cF => k_asm); (case cX => k_asm); (case cN => k_asm); (case cT => k_asm); (case cK => first | exact rfl | assumption | with_unfolding_all rfl)
    (case cC => (refine' Con.dup (os := [_, _, _, _]) (mem4 ?m1 ?m2 ?m3 ?m4) (con_sameP _ _ _ _ _ _ _ _ _ ?p1 ?p2 _); (case p1 => assumption); (case p2 => assumption); (case m1 => k_mem); (case m2 => k_mem); (case m3 => k_mem); (case m4 => k_mem)))
    (case hv => assumption); (case cD => ktr_room); (case cU => ktr_units)
    (intro h' tk' F' N'; (try dsimp only); (try k_fold))))
  k_with "con" => (k_here; (with_reducible show wpAny _ _ (call (Value.ref 245) [Value.ref _]) _ _ _); k_dflt (
    refine' Con.useT ?cC ?cB ?cF ?cX ?cN ?cT ?cK ?cD ?cU ?_
    (case cB => k_asm); (case cF => k_asm); (case cX => k_asm); (case cN => k_asm); (case cT => k_asm); (case cK => first | exact rfl | assumption | with_unfolding_all rfl)
    (case cC => (refine' Con.dupT (os := [_, _]) (mem2 ?m1 ?m2) (con_ltoldP _ _ _ _ _ ?p1 _); (case p1 => assumption); (case m1 => k_mem); (case m2 => k_mem)))
    (case cD => ktr_room); (case cU => ktr_units)
    (intro T9 t0 t1 t2 t3 t4 h' tk' l9 F' N'; (try k_lt l9); (try dsimp only); (try k_fold))))
  k_with "con" => (k_here; (with_reducible show wpAny _ _ (call (Value.ref 203) [Value.bytes _ _, Value.int _ _, Value.bool _]) _ _ _); k_dflt (
    refine Con.useFsP (con_read_mouse _ _ _ _ _ _ (by kba_ints2) (by assumption) _) (by assumption) (by k_asm) (by k_asm) (by k_asm) (by k_asm) (by k_asm) (by first | exact rfl | assumption) (by ktr_room) (by ktr_units) ?_
    (intro D9 x9 p91 p92 t9 h' tk' hP9 l9 l8 l7 F' N'; (try k_lt l9); (try dsimp only); (try k_fold))))
  k_with "con" => (k_here; (with_reducible show wpAny _ _ (call (Value.ref 123) [Value.int _ _]) _ _ _); k_dflt (
    refine Con.useV (con_is_wheel _ _ _ _) (by k_asm) (by k_asm) (by k_asm) (by k_asm) (by k_asm) (by first | exact rfl | assumption) (by ktr_room) (by ktr_units) ?_
    (intro t9 h' tk' F' N'; (try dsimp only); (try k_fold))))
  k_with "con" => (k_here; (with_reducible show wpAny _ _ (call (Value.ref 144) [Value.ref _, Value.str _ _]) _ _ _); k_dflt (
    refine' Con.useV ?cC ?cB ?cF ?cX ?cN ?cT ?cK ?cD ?cU ?_
    (case cB => k_asm); (case cF => k_asm); (case cX => k_asm); (case cN => k_asm); (case cT => k_asm); (case cK => first | exact rfl | assumption | with_unfolding_all rfl)
    (case cC => (refine' Con.dup (os := [_, _]) (mem2 ?m1 ?m2) (con_told _ _ _ _ _ _ _ _ _ _ _ _ _ _ _ _ _ _  _ ?s1 _); (case m1 => k_mem); (case m2 => k_mem); (case s1 => assumption)))
    (case cD => ktr_room); (case cU => ktr_units)
    (intro t9 h' tk' F' N'; (try dsimp only); (try k_fold))))
  k_with "con" => (k_here; (with_reducible show wpAny _ _ (call (Value.ref 21) [Value.int _ _]) _ _ _); k_dflt (
    refine Con.useB (con_dec_oct _ _ _ (by first | assumption | omega | (simp; omega)) (by first | assumption | omega | (simp; omega)) _) (by k_asm) (by k_asm) (by k_asm) (by k_asm) (by k_asm) (by first | exact rfl | assumption) (by ktr_room) (by ktr_units) ?_
    (intro b9 t9 h' tk' hO9 F' N'; (try dsimp only); (try k_fold))))
  k_with "con" => (k_here; (with_reducible show wpAny _ _ (call (Value.ref 151) [Value.int _ _]) _ _ _); k_dflt (
    refine Con.useB (con_code_oct _ _ _ (by first | assumption | omega | (simp; omega)) (by first | assumption | omega | (simp; omega)) _) (by k_asm) (by k_asm) (by k_asm) (by k_asm) (by k_asm) (by first | exact rfl | assumption) (by ktr_room) (by ktr_units) ?_
    (intro b9 t9 h' tk' hO9 F' N'; (try dsimp only); (try k_fold))))
  k_with "con" => (k_here; (with_reducible show wpAny _ _ (call (Value.ref 156) [Value.ref _, Value.int _ _, Value.bool false]) _ _ _); k_dflt (
    refine' Con.useB ?cC ?cB ?cF ?cX ?cN ?cT ?cK ?cD ?cU ?_
    (case cB => k_asm); (case cF => k_asm); (case cX => k_asm); (case cN => k_asm); (case cT => k_asm); (case cK => first | exact rfl | assumption | with_unfolding_all rfl)
    (case cC => (refine' Con.dup (os := [_]) (mem1 ?m1) (con_plain_oct _ _ _ _ _ _ _ _ _ _ ?s1 ?s2 ?s3 ?s4 ?s5 ?s6 _); (case m1 => k_mem); (case s1 => first | assumption | omega); (case s2 => first | assumption | omega); (case s3 => first | assumption | omega); (case s4 => first | assumption | omega); (case s5 => first | assumption | omega); (case s6 => first | assumption | omega)))
    (case cD => ktr_room); (case cU => ktr_units)
    (intro b9 t9 h' tk' hO9 F' N'; (try dsimp only); (try k_fold))))
  k_with "con" => (k_here; (with_reducible show wpAny _ _ (call (Value.ref 156) [Value.ref _, Value.int _ _, Value.bool true]) _ _ _); k_dflt (
    refine' Con.useB ?cC ?cB ?cF ?cX ?cN ?cT ?cK ?cD ?cU ?_
    (case cB => k_asm); (case cF => k_asm); (case cX => k_asm); (case cN => k_asm); (case cT => k_asm); (case cK => first | exact rfl | assumption | with_unfolding_all rfl)
    (case cC => (refine' Con.dup (os := [_]) (mem1 ?m1) (con_plain_utf _ _ _ _ _ _ _ _ _ _ ?s1 ?s2 ?s3 ?s4 ?s5 ?s6 _); (case m1 => k_mem); (case s1 => first | assumption | omega); (case s2 => first | assumption | omega); (case s3 => first | assumption | omega); (case s4 => first | assumption | omega); (case s5 => first | assumption | omega); (case s6 => first | assumption | omega)))
    (case cD => ktr_room); (case cU => ktr_units)
    (intro b9 t9 h' tk' hO9 F' N'; (try dsimp only); (try k_fold))))
  k_with "con" => (k_here; (with_reducible show wpAny _ _ (call (Value.ref 161) [Value.ref _]) _ _ _); k_dflt (
    refine' Con.useB ?cC ?cB ?cF ?cX ?cN ?cT ?cK ?cD ?cU ?_
    (case cB => k_asm); (case cF => k_asm); (case cX => k_asm); (case cN => k_asm); (case cT => k_asm); (case cK => first | exact rfl | assumption | with_unfolding_all rfl)
    (case cC => (refine' Con.dup (os := [_]) (mem1 ?m1) (con_decimals _ _ _ _ _ _ _ _ _ ?s1 ?s2 ?s3 ?s4 ?s5 ?s6 _); (case m1 => k_mem); (case s1 => first | assumption | omega); (case s2 => first | assumption | omega); (case s3 => first | assumption | omega); (case s4 => first | assumption | omega); (case s5 => first | assumption | omega); (case s6 => first | assumption | omega)))
    (case cD => ktr_room); (case cU => ktr_units)
    (intro b9 t9 h' tk' hO9 F' N'; (try dsimp only); (try k_fold))))
  k_with "con" => (k_here; (with_reducible show wpAny _ _ (call (Value.ref 130) [Value.ref _, Value.bool _]) _ _ _); k_dflt (
    refine' Con.useV ?cC ?cB ?cF ?cX ?cN ?cT ?cK ?cD ?cU ?_
    (case cB => k_asm); (case cF => k_asm); (case cX => k_asm); (case cN => k_asm); (case cT => k_asm); (case cK => first | exact rfl | assumption | with_unfolding_all rfl)
    (case cC => (refine' Con.dup (os := [_, _]) (mem2 ?m1 ?m2) (con_number _ _ _ _ _ _ _ _ _ _ _ _ _ _ _ _ _ _  0 _ ?s1 ?s2 ?s3 ?s4 ?s5 _); (case m1 => k_mem); (case m2 => k_mem); (case s1 => first | assumption | omega); (case s2 => first | assumption | omega); (case s3 => first | assumption | omega); (case s4 => first | assumption | omega); (case s5 => first | assumption | omega)))
    (case cD => ktr_room); (case cU => ktr_units)
    (intro t9 h' tk' F' N'; (try dsimp only); (try k_fold))))
  k_with "con" => (k_here; (with_reducible show wpAny _ _ (call (Value.ref 169) [Value.ref _, Value.ref _]) _ _ _); k_dflt (
    refine' Con.useB ?cC ?cB ?cF ?cX ?cN ?cT ?cK ?cD ?cU ?_
    (case cB => k_asm); (case cF => k_asm); (case cX => k_asm); (case cN => k_asm); (case cT => k_asm); (case cK => first | exact rfl | assumption | with_unfolding_all rfl)
    (case cC => (refine' Con.dup (os := [_, _, _, _, _]) (mem5 ?m1 ?m2 ?m3 ?m4 ?m5) (con_oct _ _ _ _ _ _ _ _ _ _ _ _ _ _ _ _ _ _ _ _ _ _  _ _ _ _ ?s1 ?s2 ?s3 ?s4 ?s5 ?s6 ?s7 ?s8 ?s9 ?s10 ?s11 ?s12 _); (case m1 => k_mem); (case m2 => k_mem); (case m3 => k_mem); (case m4 => k_mem); (case m5 => k_mem); (case s1 => assumption); (case s2 => assumption); (case s3 => assumption); (case s4 => assumption); (case s5 => assumption); (case s6 => assumption); (case s7 => assumption); (case s8 => assumption); (case s9 => assumption); (case s10 => assumption); (case s11 => assumption); (case s12 => assumption)))
    (case cD => ktr_room); (case cU => ktr_units)
    (intro b9 t9 h' tk' hO9 F' N'; (try dsimp only); (try k_fold))))
  k_with "con" => (k_here; (with_reducible show wpAny _ _ (call (Value.ref 231) [Value.ref _]) _ _ _); k_dflt (
    refine' Con.useT ?cC ?cB ?cF ?cX ?cN ?cT ?cK ?cD ?cU ?_
    (case cB => k_asm); (case cF => k_asm); (case cX => k_asm); (case cN => k_asm); (case cT => k_asm); (case cK => first | exact rfl | assumption | with_unfolding_all rfl)
    (case cC => (refine' Con.dupT (os := [_]) (mem1 ?m1) (con_partsE _ _ _ _ _ _ _ _ _ _ _ _ _ _ _ _ ?s1 ?s2 ?s3 ?s4 ?s5 _); (case m1 => k_mem); (case s1 => first | assumption | omega); (case s2 => first | assumption | omega); (case s3 => first | assumption | omega); (case s4 => first | assumption | omega); (case s5 => first | assumption | omega)))
    (case cD => ktr_room); (case cU => ktr_units)
    (intro T9 t0 t1 t2 t3 t4 h' tk' l9 F' N'; (try k_lt l9); (try dsimp only); (try k_fold))))
  k_with "con" => (k_here; (with_reducible show wpAny _ _ (call (Value.ref 169) [Value.ref _, Value.ref _]) _ _ _); k_dflt (
    refine' Con.useB ?cC ?cB ?cF ?cX ?cN ?cT ?cK ?cD ?cU ?_
    (case cB => k_asm); (case cF => k_asm); (case cX => k_asm); (case cN => k_asm); (case cT => k_asm); (case cK => first | exact rfl | assumption | with_unfolding_all rfl)
    (case cC => (refine' Con.dup (os := [_, _, _, _, _]) (mem5 ?m1 ?m2 ?m3 ?m4 ?m5) (con_octP _ _ _ _ _ _ _ _ _ _ ?s1 ?evp ?mop ?s2 _); (case evp => assumption); (case mop => assumption); (case s1 => assumption); (case s2 => assumption); (case m1 => k_mem); (case m2 => k_mem); (case m3 => k_mem); (case m4 => k_mem); (case m5 => k_mem)))
    (case cD => ktr_room); (case cU => ktr_units)
    (intro b9 t9 h' tk' hO9 F' N'; (try dsimp only); (try k_fold))))
  k_with "walk1" => ((first | with_reducible show wpAny _ _ (exec _ _) _ _ _ | with_reducible show wpAny _ _ (isTrue _ _ _) _ _ _); k_fold)
  trivial
theorem item_way {prog : Program} {w : World} {A : Around} {E : Value → Shared → Prop} {s : Shared} {value slice : PySem.Expr} {l : Addr} {n : Int} {u t1 t2 t3 : Tok} {Q : Value → Shared → Prop}
    (hl : s.heap.IsList l #[.none, .str (Str.ofString "mouse_sgr") t1, .str (Str.ofString "mouse_utf8") t2, .str (Str.ofString "mouse_urxvt") t3])
    (h : ∀ y t, y < 4 → Q (wayV y t) s)
    (hs : subscripted slice false (.ref l) (.int (n.fmod 4) u) = operate [.ref l, .int (n.fmod 4) u] (getItem (.ref l) (.int (n.fmod 4) u)) := by with_unfolding_all rfl) :
    wpAny (model prog w) A (subscriptTail value slice (.ref l) (.int (n.fmod 4) u)) Q E s := by
  have h4 : n.fmod 4 = 0 ∨ n.fmod 4 = 1 ∨ n.fmod 4 = 2 ∨ n.fmod 4 = 3 := by rw [fmodP (by decide)]; omega
  have key : ∃ v y t, #[Value.none, .str (Str.ofString "mouse_sgr") t1, .str (Str.ofString "mouse_utf8") t2, .str (Str.ofString "mouse_urxvt") t3][(n.fmod 4).toNat]? = some v ∧ v = wayV y t ∧ y < 4 := by
    rcases h4 with h4 | h4 | h4 | h4 <;> rw [h4]
    · exact ⟨_, 0, 0, rfl, rfl, by decide⟩
    · exact ⟨_, 2, t1, rfl, rfl, by decide⟩
    · exact ⟨_, 1, t2, rfl, rfl, by decide⟩
    · exact ⟨_, 3, t3, rfl, rfl, by decide⟩
  obtain ⟨v, y, t, hv, rfl, hy⟩ := key
  exact item_litK hl (by rw [fmodP (by decide)]; omega) (by rw [fmodP (by decide)]; omega) (by simpa using hv) (h y t hy) hs
theorem sum_pos (ns : List Int) : 0 ≤ ((ns.map fun k : Int => k.fmod 1000003).sum).fdiv 4 := by
  have h : ∀ ms : List Int, 0 ≤ (ms.map fun k : Int => k.fmod 1000003).sum := by
    intro ms
    induction ms with
    | nil => exact Int.le_refl 0
    | cons a r ih =>
      rw [List.map_cons, List.sum_cons, fmodP (by decide)]
      omega
  rw [fdivP (by decide)]
  have := h ns
  omega
theorem slice_first4 {vs : List Value} {ns : List Int} (hi : IntsAre vs ((ns.map fun k : Int => k.fmod 1000003) ++ [0, 0, 0, 0])) (hl : ns.length ≤ 16) :
    ∃ a b c e t1 t2 t3 t4, (0 ≤ a ∧ 0 ≤ b ∧ 0 ≤ c ∧ 0 ≤ e) ∧ (slicePick vs.toArray none (some 4) none).toList = [.int a t1, .int b t2, .int c t3, .int e t4] ∧ vs.toArray.size ≤ sizeLine := by
  have hvl := hi.length
  have hp : ∀ j, 0 ≤ ((ns.map fun k : Int => k.fmod 1000003) ++ [0, 0, 0, 0]).getD j 0 := fun j => by
    rw [List.getD_eq_getElem?_getD]
    cases hx : ((ns.map fun k : Int => k.fmod 1000003) ++ [0, 0, 0, 0])[j]? with
    | none => exact Int.le_refl _
    | some v =>
      rcases List.mem_append.mp (List.mem_of_getElem? hx) with h | h
      · obtain ⟨k, _, rfl⟩ := List.mem_map.mp h
        show 0 ≤ k.fmod 1000003
        rw [fmodP (by decide)]
        omega
      · have : v = 0 := by simpa using h
        rw [this]; exact Int.le_refl _
  have hl4 : 4 ≤ ((ns.map fun k : Int => k.fmod 1000003) ++ [0, 0, 0, 0]).length := by rw [List.length_append]; exact Nat.le_add_left _ _
  have hl20 : ((ns.map fun k : Int => k.fmod 1000003) ++ [0, 0, 0, 0]).length ≤ 20 := by rw [List.length_append, List.length_map]; exact Nat.add_le_add_right hl 4
  obtain ⟨t1, t2, t3, t4, h, _⟩ := slice4 hi (k := 0) (i := 0) rfl hl4
  refine ⟨_, _, _, _, t1, t2, t3, t4, ⟨hp (4 * 0), hp (4 * 0 + 1), hp (4 * 0 + 2), hp (4 * 0 + 3)⟩, ?_, by rw [sizeLine_eq, List.size_toArray]; omega⟩
  rw [← h]
  unfold slicePick
  have : sliceBounds none (some 4) none vs.toArray.size = sliceBounds (some 0) (some (0 + 4)) none vs.toArray.size := by
    simp [sliceBounds]
    omega
  rw [this]
theorem con_rowL (w : World) (y : Nat) (hy : y < 4) (lc : Addr) (ys : List Value) (ns : List Int) (tw : Tok) (hi : IntsAre ys (ns.map fun k : Int => k.fmod 1000003)) (hl : ns.length ≤ 16) (news) (hm : (lc, LCg.lst ys) ∈ news) :
   Con w 45 259 [.ref lc, wayV y tw] news (ValR fun _ => .bool true) := by
  have hb : ∀ c ∈ ns.map fun k : Int => k.fmod 1000003, 0 ≤ c ∧ c ≤ 1000002 := fun c hc => by
    obtain ⟨k, _, rfl⟩ := List.mem_map.mp hc
    rw [fmodP (by decide)]
    omega
  have hl' : (ns.map fun k : Int => k.fmod 1000003).length ≤ 16 := by rw [List.length_map]; exact hl
  have ho := octN_le y (ns.map fun k : Int => k.fmod 1000003) ((ns.map fun k : Int => k.fmod 1000003).length / 4)
  exact Con.dup (os := [(lc, listOf ys.toArray ys.length)]) (mem1 hm) (con_row w y hy lc ys ys.length _ tw hi hl' hb (row_run hy (fun x hx => (hb x hx).1) _) (by omega) news)
theorem own_law_1 : True := by
  k_with "subscriptTail" => (k_here; (with_reducible show wpAny _ _ (subscriptTail _ _ (Value.ref _) (Value.int (Int.fmod _ 4) _)) _ _ _); (with_unfolding_all refine' item_way ?k1 ?_ ?k6; (case k1 => is_list); (case k6 => with_unfolding_all rfl)); intro y9 ty9 hy9)
  trivial
set_option maxRecDepth 100000 in
set_option maxHeartbeats 8000000 in
theorem law_walk : PySem.Challenge.rw_og0254_01.Holds := by
  refine hd ?_
  k_with "con" => (k_here; (first | with_reducible show wpAny _ _ (call (Value.ref 259) _) _ _ _ | with_reducible show wpAny _ _ (call (Value.ref 266) _) _ _ _ | with_reducible show wpAny _ _ (call (Value.ref 273) _) _ _ _); k_dflt (refine hold_in ?_))
  k_go0
  all_goals try k_fold
  k_steps
  unfold Hold
  k_dflt (refine' Con.useV (con_rowL _ _ ?hy _ _ _ _ ?hi ?hl _ ?hm) ?cB ?cF ?cX ?cN ?cT ?cK ?cD ?cU ?_)
  case cB => k_asm
  case cF => k_asm
  case cX => k_asm
  case cN => k_asm
  case cT => k_asm
  case cK => rfl
  case hy => assumption
  case hm => k_mem
  case hi => assumption
  case hl => exact List.length_take_le _ _
  case cD => decide +kernel
  case cU => decide +kernel
  intro t9 h' tk' F' N'; (try dsimp only)
  k_steps
  unfold Hold
  k_dflt (refine' Con.useV (con_none _ _ _ ?hn _) ?cB ?cF ?cX ?cN ?cT ?cK ?cD ?cU ?_)
  case cB => k_asm
  case cF => k_asm
  case cX => k_asm
  case cN => k_asm
  case cT => k_asm
  case cK => rfl
  case cD => decide +kernel
  case cU => decide +kernel
  case hn => exact sum_pos _
  intro t8 h'2 tk'2 F'2 N'2; (try dsimp only)
  k_with "subscriptTail" => (k_here; k_dflt (refine hold_in ?_))
  k_with "subscriptTail BinOp Slice ref ref" => (k_here; k_dflt (refine hold_in ?_))
  k_steps
  unfold Hold
  rename IntsAre _ (_ ++ _) => hI'
  obtain ⟨a9, b9, c9, e9, t1, t2, t3, t4, ⟨p1, p2, p3, p4⟩, hsl, hz9⟩ := slice_first4 hI' (List.length_take_le _ _)
  k_dflt (refine kba_turn (value' := PySem.Expr.Name (PySem.Str.ofString "_") ⟨0, 0, 0, 0⟩) (fun _ => rfl) ?_)
  k_dflt (refine kmk_slice_lit (by k_asm) (by k_asm) (by kmk_list) (by kmk_part) (by kmk_part) hsl ?_ (by with_unfolding_all rfl) (fun _ => rfl) hz9)
  intro D'3 h'3 F'3 N'3 l1
  (try dsimp only)
  k_steps
  unfold Hold
  k_dflt (refine' Con.useV (Con.dup (os := [_]) (mem1 ?hm) (con_likes _ _ _ _ _ _ _ _ _ _ _ p1 p2 p3 p4 _)) ?cB ?cF ?cX ?cN ?cT ?cK ?cD ?cU ?_)
  case cB => k_asm
  case cF => k_asm
  case cX => k_asm
  case cN => k_asm
  case cT => k_asm
  case cK => rfl
  case hm => exact .head _
  case cD => decide +kernel
  case cU => decide +kernel
  intro t7 h'4 tk'4 F'4 N'4
  (try dsimp only)
  k_steps

end Mine
theorem PySem.Challenge.cw_og0254_01_holds : PySem.Challenge.rw_og0254_01.Holds :=
  Mine.law_walk
